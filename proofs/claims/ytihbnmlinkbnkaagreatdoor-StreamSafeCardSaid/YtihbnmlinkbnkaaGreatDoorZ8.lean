/-
  Texts put together (part 8): the walks and the plain laws on which the statement stands.
-/
import Derived.Test.YtihbnmlinkbnkaaGreatDoorZ3
import Derived.Test.YtihbnmlinkbnkaaGreatDoorZ4
import Derived.Test.YtihbnmlinkbnkaaGreatDoorZ6
set_option maxRecDepth 100000
set_option maxHeartbeats 12800000
set_option linter.unusedVariables false
set_option linter.unusedSimpArgs false
open Go.Proofs.Tryz
open Go.Proofs.Tryz renaming prog->pG
open Decidable renaming not_not->eB
open Int renaming le_refl->lV
open List renaming append_assoc->bU,flatten_cons->kW,getElem?_eq_getElem->aN,getElem_mem->kK,length_append->aL,length_cons->aU,length_flatten->aLz,length_map->aS,length_nil->aV,map_congr_left->vH,map_map->yL,map_replicate->DM,mem_cons_of_mem->iQ,mem_cons_self->jK,mem_map->eK,mem_range->qM,range->eT,replicate->aX,replicate_succ->GX,sum_replicate_nat->aL0,take_add_one->cG,take_append_drop->kH,take_length->jS
open Nat renaming add_assoc->fU,le_refl->aD,mul_comm->pE
open Prod renaming ext->qN
open UInt8 renaming ofNat->eA
namespace Go.Proofs.YtihbnmlinkbnkaaGreatDoor
def mR (d x:Int):List Bool:=(aX (x-d).toNat [true,false]).flatten++(aX (d-x).toNat [true,true]).flatten++[false]
def fR (d:Int):List Int->List Bool
 |[]=>[]
 |x::l=>mR d x++fR x l
theorem KU (x:Int):∀(l:List Int) (d:Int),fR d (l++[x])=fR d l++mR (l.getLastD d) x
 |[],d=>by simp[fR]
 |y::l,d=>by
  show mR d y++fR y (l++[x])=(mR d y++fR y l)++_;rw[KU x l y,bU]
  grind
def fI (l:List Int):List Bool:=aT (l.getD 0 0).toNat 5++fR (l.getD 0 0) l
theorem aS5 (d x:Int) (A:1<=d) (F:d<=20) (G:1<=x) (H:x<=20):(mR d x).length<=39:=by grind [mR,aL,aLz,DM,aL0,aU,aV]
theorem KV:∀(l:List Int) (d:Int),1<=d->d<=20->(∀x∈l,1<=x/\x<=20)->(fR d l).length<=39*l.length
 |[],_,_,_,_=>by simp[fR]
 |x::l,d,G,H,h=>by
  have A:=h x (jK ..);have:=KV l x A.1 A.2 (fun y F=>h y (iQ _ F))
  grind [aS5,fR]
def lQ (s:List UInt8):Nat->Int->Int->Int×Int×Int
 |0,_,_=>(0,0,2)
 |f+1,at',n=>
  if aP s.length at' 1≠0 then(0,0,aP s.length at' 1)
  else if aK s at' 1=0 then(n,at'+1,0)
  else if aP s.length (at'+1) 1≠0 then(0,0,aP s.length (at'+1) 1)
  else
   let m:=if aK s (at'+1) 1=0 then n+1 else n-1
   if m<1\/20<m then(0,0,3) else lQ s f (at'+2) m
def fS (s:List UInt8) (at' n:Int):Int×Int×Int:=lQ s (8*s.length+2) at' n
theorem RG (s:List UInt8):∀(f g:Nat) (at' n:Int),0<=at'->8*(s.length:Int)+1-at'<=f->8*(s.length:Int)+1-at'<=g->1<=f->1<=g->lQ s f at' n=lQ s g at' n
 |0,_,_,_,_,_,_,h,_=>by omega
 |_,0,_,_,_,_,_,_,h=>by omega
 |f+1,g+1,at',n,G,H,I,_,_=>by
  unfold lQ;split
  ·rfl
  ·next A=>
   have A:=iG (eB.1 A);split
   ·rfl
   ·split
    ·rfl
    ·next F=>
     have F:=iG (eB.1 F);simp only
     generalize (if aK s (at'+1) 1=0 then n+1 else n-1)=m
     by_cases d:m<1\/20<m
     ·rw[aB d,aB d]
     ·rw[aA d,aA d];exact RG s f g _ _ (by omega) (by omega) (by omega) (by omega) (by omega)
theorem BU (s:List UInt8) (at' n:Int) (d:0<=at'):fS s at' n=
  if aP s.length at' 1≠0 then(0,0,aP s.length at' 1)
  else if aK s at' 1=0 then(n,at'+1,0)
  else if aP s.length (at'+1) 1≠0 then(0,0,aP s.length (at'+1) 1)
  else if(if aK s (at'+1) 1=0 then n+1 else n-1)<1\/20<(if aK s (at'+1) 1=0 then n+1 else n-1) then(0,0,3)
  else fS s (at'+2) (if aK s (at'+1) 1=0 then n+1 else n-1):=by grind [fS,lQ,iG,aK,RG,aP]
theorem KW (s:List UInt8):∀(f:Nat) (at' n:Int),0<=at'->1<=n->n<=20->(lQ s f at' n).2.2=0->1<=(lQ s f at' n).1/\(lQ s f at' n).1<=20/\at'<(lQ s f at' n).2.1/\(lQ s f at' n).2.1<=8*(s.length:Int)
 |0,_,_,_,_,_,h=>by unfold lQ at h;simp at h
 |f+1,at',n,F,G,H,h=>by
  unfold lQ at h ⊢;split at h
  ·grind
  ·next q=>
   have I:=iG (eB.1 q);rw[aA q];split at h
   ·grind
   ·next k=>
    rw[aA k];split at h
    ·grind
    ·next A=>
     rw[aA A];simp only at h ⊢;generalize (if aK s (at'+1) 1=0 then n+1 else n-1)=m at h ⊢
     by_cases d:m<1\/20<m
     ·rw[aB d] at h;simp at h
     ·rw[aA d] at h ⊢;have:=KW s f (at'+2) m (by omega) (by omega) (by omega) h;omega
def bC (s:List UInt8) (at':Int):Nat->List Int×Int×Int×Int
 |0=>([],(aK s at' 5:Int),at'+5,if aP s.length at' 5≠0 then aP s.length at' 5 else if(aK s at' 5:Int)<1\/20<(aK s at' 5:Int) then 3 else 0)
 |k+1=>
  let p:=bC s at' k
  if p.2.2.2≠0 then p
  else let q:=fS s p.2.2.1 p.2.1
   if q.2.2≠0 then(p.1,p.2.1,p.2.2.1,q.2.2) else(p.1++[q.1],q.1,q.2.1,0)
def gS (s:List UInt8) (at':Int) (n:Int):List Int×Int×Int:=
 if at'<0\/n<2\/258<n then([],0,1)
 else let p:=bC s at' n.toNat
  if p.2.2.2≠0 then([],0,p.2.2.2) else(p.1,p.2.2.1,0)
theorem EP (s:List UInt8) (at':Int) (F:0<=at'):∀k,(bC s at' k).2.2.2=0->(bC s at' k).1.length=k/\(∀x∈(bC s at' k).1,1<=x/\x<=20)/\(1<=(bC s at' k).2.1/\(bC s at' k).2.1<=20)/\at'<(bC s at' k).2.2.1/\(bC s at' k).2.2.1<=8*(s.length:Int)
 |0,h=>by
  unfold bC at h ⊢;simp only at h ⊢;split at h
  ·grind
  ·next q=>
   have G:=iG (eB.1 q)
   grind
 |k+1,h=>by
  unfold bC at h ⊢;simp only at h ⊢;split at h
  ·grind
  ·next q=>
   obtain⟨H,I,d,J,L⟩:=EP s at' F k (eB.1 q);rw[aA q];split at h
   ·grind
   ·next A=>
    rw[aA A];have:=KW s _ (bC s at' k).2.2.1 (bC s at' k).2.1 (by omega) d.1 d.2 (eB.1 A)
    grind [fS,bC]
theorem aS6 {a c:List UInt8} {b:UInt8} (h:b∈a):plc (a++c) b=plc a b:=by grind [plc,vP]
theorem aB4 {a c:List UInt8} {i:Nat} (h:i<a.length):gC (a++c) i=gC a i++c:=by grind [gC]
theorem aS7 {a:List UInt8} {i:Nat} {b:UInt8}:b∈gC a i↔b∈a:=(yW a i).mem_iff
theorem RL:∀(s a c:List UInt8),(∀b∈s,b∈a)->dL (a++c) s=dL a s/\fH (a++c) s=fH a s++c
 |[],_,_,_=>⟨rfl,rfl⟩
 |b::s,a,c,h=>by
  have A:=h b (jK ..);have F:=RL s (gC a (plc a b)) c (fun x d=>aS7.2 (h x (iQ _ d)))
  grind [gC,plc,aS6,aB4,vP,dL,fH]
theorem aB5:∀(l:List Int) (a c:List UInt8),(∀x∈l,0<=x/\x<(a.length:Int))->unL (a++c) l=unL a l/\unA (a++c) l=unA a l++c
 |[],_,_,_=>⟨rfl,rfl⟩
 |x::l,a,c,h=>by
  have d:=h x (jK ..);have A:=aB5 l (gC a x.toNat) c (fun y F=>by grind [BF,unL,unA])
  grind [gC,aB4,unL,unA]
def cT (n:Nat):List UInt8:=(eT n).map eA
theorem sT (n:Nat):(cT n).length=n:=by simp[cT]
theorem RH {n:Nat} (h:n<=6):cT 6=cT n++(cT 6).drop n:=by
 have e:(cT 6).take n=cT n:=by
  unfold cT;rw[<-List.map_take,List.take_range,Nat.min_eq_left h]
 rw[<-e,kH]
theorem RI {n:Nat} (h:n<=6) (b:UInt8):b∈cT n↔b.toNat<n:=by
 unfold cT;rw[eK];constructor
 ·grind [UInt8.toNat_ofNat',Nat.mod_eq_of_lt,cT]
 ·intro d;exact⟨b.toNat,qM.2 d,by simp⟩
def oC (p:Int):List Bool:=aX p.toNat true++[false]
def eW (l:List Int):List Bool:=l.flatMap oC
theorem RJ (l:List Int) (p:Int):eW (l++[p])=eW l++oC p:=by simp[eW,oC]
def lY (s:List UInt8) (tables:Int):Nat->Int->Int->Int×Int×Int
 |0,_,_=>(0,0,2)
 |f+1,at',n=>
  if aP s.length at' 1≠0 then(0,0,aP s.length at' 1)
  else if aK s at' 1=0 then(n,at'+1,0)
  else if n+1=tables then(0,0,3)
  else lY s tables f (at'+1) (n+1)
def kN (s:List UInt8) (tables at' n:Int):Int×Int×Int:=lY s tables (8*s.length+2) at' n
theorem RK (s:List UInt8) (tables:Int):∀(f g:Nat) (at' n:Int),0<=at'->8*(s.length:Int)+1-at'<=f->8*(s.length:Int)+1-at'<=g->1<=f->1<=g->lY s tables f at' n=lY s tables g at' n
 |0,_,_,_,_,_,_,h,_=>by omega
 |_,0,_,_,_,_,_,_,h=>by omega
 |f+1,g+1,at',n,A,F,G,_,_=>by
  unfold lY;split
  ·rfl
  ·next d=>
   have d:=iG (eB.1 d);split
   ·rfl
   ·split
    ·rfl
    ·exact RK s tables f g _ _ (by omega) (by omega) (by omega) (by omega) (by omega)
theorem KX (s:List UInt8) (tables at' n:Int) (d:0<=at'):kN s tables at' n=
  if aP s.length at' 1≠0 then(0,0,aP s.length at' 1)
  else if aK s at' 1=0 then(n,at'+1,0)
  else if n+1=tables then(0,0,3)
  else kN s tables (at'+1) (n+1):=by grind [kN,lY,iG,RK,aP,aK]
theorem KY (s:List UInt8) (tables:Int):∀(f:Nat) (at' n:Int),0<=at'->0<=n->n<tables->(lY s tables f at' n).2.2=0->0<=(lY s tables f at' n).1/\(lY s tables f at' n).1<tables/\at'<(lY s tables f at' n).2.1/\(lY s tables f at' n).2.1<=8*(s.length:Int)
 |0,_,_,_,_,_,h=>by unfold lY at h;simp at h
 |f+1,at',n,A,F,G,h=>by
  unfold lY at h ⊢;split at h
  ·grind
  ·next q=>
   have H:=iG (eB.1 q);rw[aA q];split at h
   ·grind
   ·next k=>
    rw[aA k];split at h
    ·simp at h
    ·next d=>
     rw[aA d];have:=KY s tables f (at'+1) (n+1) (by omega) (by omega) (by omega) h;omega
def dR (s:List UInt8) (tables at':Int):Nat->List Int×Int×Int
 |0=>([],at',0)
 |k+1=>
  let p:=dR s tables at' k
  if p.2.2≠0 then p
  else let q:=kN s tables p.2.1 0
   if q.2.2≠0 then(p.1,p.2.1,q.2.2) else(p.1++[q.1],q.2.1,0)
theorem BV (s:List UInt8) (tables at':Int) (F:0<=at') (d:0<tables):∀k,(dR s tables at' k).2.2=0->(dR s tables at' k).1.length=k/\(∀x∈(dR s tables at' k).1,0<=x/\x<tables)/\at'<=(dR s tables at' k).2.1/\((dR s tables at' k).2.1=at'\/(dR s tables at' k).2.1<=8*(s.length:Int))
 |0,_=>⟨rfl,fun x G=>by grind [dR],lV _,.inl rfl⟩
 |k+1,h=>by
  unfold dR at h ⊢;simp only at h ⊢;split at h
  ·grind
  ·next q=>
   obtain⟨H,I,J,L⟩:=BV s tables at' F d k (eB.1 q);rw[aA q];split at h
   ·grind
   ·next A=>
    rw[aA A];have:=KY s tables (8*s.length+2) (dR s tables at' k).2.1 0 (by omega) (by omega) d (eB.1 A)
    grind [kN,dR]
def eD (s:List UInt8) (at' n tables:Int):List Int×Int×Int:=
 if tables<2\/6<tables\/at'<0\/n<0\/1048576<n then([],0,1)
 else let p:=dR s tables at' n.toNat
  if p.2.2≠0 then([],0,p.2.2) else((unL (cT tables.toNat) p.1).map (fun b=>(b.toNat:Int)),p.2.1,0)
def dA (m:List Int):List (List Int):=(eT ((m.length+9)/10)).map (fun i=>(m.drop (10*i)).take 10)
theorem kR (m:List Int):(dA m).length=(m.length+9)/10:=by simp[dA]
theorem BY (m:List Int) (i:Nat) (h:i<(m.length+9)/10):(dA m)[i]? =some ((m.drop (10*i)).take 10):=by simp[dA,h]
def RO (m:List Int) (n:Int):Bool:=m.any (fun s=>decide (s<0)||decide (n<=s))
theorem aTd {m:List Int} {n:Int} (h:∀x∈m,0<=x/\x<n):RO m n=false:=by grind [RO]
def aB8 (d g:List Int):Int:=if bM d≠0 then bM d else if RO g d.length then 5 else 0
def oV (d:List Int) (g:List Int):Int:=g.foldl (fun n s=>n+d.getD s.toNat 0) 0
def qW (d g:List Int):Int:=if aB8 d g=0 then oV d g else 0
theorem aB9 (d g:List Int) (s:Int):oV d (g++[s])=oV d g+d.getD s.toNat 0:=by simp[oV]
theorem aCa {d:List Int} (A:∀x∈d,1<=x/\x<=20) (g:List Int):0<=oV d g/\oV d g<=20*(g.length:Int):=by
 refine EM (P:=fun g=>0<=oV d g/\oV d g<=20*(g.length:Int)) (by simp[oV]) (fun g s F=>?_) g
 grind [aB9,aL,List.length_singleton,aN,kK,List.getElem?_eq_none,oV]
def eH (m:List Int) (n which:Nat):Nat->List Int
 |0=>aX n 0
 |k+1=>if k/10%2=which then(eH m n which k).set (m.getD k 0).toNat ((eH m n which k).getD (m.getD k 0).toNat 0+1) else eH m n which k
theorem xO (m:List Int) (n which:Nat):∀k,(eH m n which k).length=n
 |0=>by simp[eH]
 |k+1=>by
  unfold eH;split
  ·simp[xO,eH]
  ·simp[xO,eH]
theorem aCb:∀(l:List Int) (i:Nat),i<l.length->(l.set i (l.getD i 0+1)).sum=l.sum+1
 |[],i,h=>by simp at h
 |x::l,0,_=>by grind
 |x::l,i+1,h=>by
  have:=aCb l i (by simpa using h)
  grind
theorem BZ (m:List Int) (n which:Nat) (h:∀x∈m,0<=x/\x<(n:Int)):∀k,k<=m.length->0<=(eH m n which k).sum/\(eH m n which k).sum<=(k:Int)/\∀x∈eH m n which k,0<=x/\x<=(k:Int)
 |0,_=>by
  refine⟨by simp[eH],by simp[eH],fun x d=>?_⟩;unfold eH at d;have:=List.eq_of_mem_replicate d;omega
 |k+1,A=>by
  obtain⟨F,G,H⟩:=BZ m n which h k (by omega)
  grind [kK,aN,eH,aCb,xO,List.mem_or_eq_of_mem_set]
def mW (m:List Int) (n which:Nat):List Int:=eH m n which m.length
def qX (d:List Int):List Int:=nK (d.map (fun w=>max w 1))
theorem LB (d:List Int) (h:∀x∈d,0<=x):(d.map (fun w=>max w 1)).sum<=d.sum+d.length:=by
 induction d with
 |nil=>decide
 |cons x l A=>
  have:=A (fun y F=>h y (iQ _ F));have:=h x (jK ..);simp only[List.map_cons,List.sum_cons,aU];omega
theorem RP {d:List Int} (F:2<=d.length) (G:d.length<=258) (A:∀x∈d,0<=x) (H:d.sum<=20000):gM (qX d)/\(qX d).length=d.length:=by
 have I:(d.map (fun w=>max w 1)).length=d.length:=aS ..;have:=aTb (d.map (fun w=>max w 1)) (by omega) (fun x J=>by grind) (by have:=LB d A;omega)
 grind [gM,qX]
def eN (m:List Int) (n which:Nat):List Int:=qX (mW m n which)
theorem wF {m:List Int} {n which:Nat} (d:2<=n) (A:n<=258) (h:∀x∈m,0<=x/\x<(n:Int)) (F:m.length<=20000):gM (eN m n which)/\(eN m n which).length=n:=by
 have G:=BZ m n which h m.length (aD _)
 grind [xO,RP,mW,eN,gM]
def rO (a b g:List Int):Int:=if qW b g<qW a g then 1 else 0
def dS (m:List Int) (n:Nat):List Int:=(dA m).map (rO (eN m n 0) (eN m n 1))
theorem CA (m:List Int) (n:Nat):(dS m n).length=(m.length+9)/10:=by simp[dS,kR]
theorem LC (m:List Int) (n:Nat):∀x∈dS m n,x=0\/x=1:=by grind [rO,dS]
def gF (l d:List Int):List Bool:=d.flatMap (fun s=>aT (gZ l s.toNat) (bL l s.toNat))
theorem aCc (l d:List Int) (s:Int):gF l (d++[s])=gF l d++aT (gZ l s.toNat) (bL l s.toNat):=by simp[gF,aT,gZ,bL]
theorem wG {l:List Int} (h:gM l):∀d:List Int,(∀x∈d,0<=x/\x<(l.length:Int))->(gF l d).length<=20*d.length
 |[],_=>by simp[gF]
 |s::d,A=>by
  have G:=wG h d (fun x F=>A x (iQ _ F));have H:=A s (jK ..)
  grind [lX,gF,dV,gM]
def iB (t0 t1:List Int):List Int->List (List Int)->List Bool
 |c::d,g::gs=>gF (if c=0 then t0 else t1) g++iB t0 t1 d gs
 |_,_=>[]
theorem RV (t0 t1:List Int) (c:Int) (g:List Int):∀(d:List Int) (gs:List (List Int)),d.length=gs.length->iB t0 t1 (d++[c]) (gs++[g])=iB t0 t1 d gs++gF (if c=0 then t0 else t1) g
 |[],[],_=>by simp[iB]
 |[],_::_,h=>by simp at h
 |_::_,[],h=>by simp at h
 |F::d,A::gs,h=>by
  show gF _ A++iB t0 t1 (d++[c]) (gs++[g])=(gF _ A++iB t0 t1 d gs)++_;rw[RV t0 t1 c g d gs (by simpa using h),bU]
def fJ (d:List Int):List Int:=dL (cT 2) (d.map (fun c=>eA c.toNat))
def wJ (m:List Int) (n:Nat):List Bool:=
 aT 2 3++aT (dS m n).length 15++eW (fJ (dS m n))++fI (eN m n 0)++fI (eN m n 1)++iB (eN m n 0) (eN m n 1) (dS m n) (dA m)
def ER (d A:Nat) (a:List UInt8) (m:List Int):List Bool:=
 aT 0x314159265359 48++aT d 32++aT A 16++iL a++wJ m (a.length+2)
def bO (s:List UInt8) (at' codes:Int):Nat->List (List Int)×Int×Int
 |0=>([],at',0)
 |k+1=>
  let p:=bO s at' codes k
  if p.2.2≠0 then p
  else let q:=gS s p.2.1 codes
   if q.2.2≠0 then(p.1,p.2.1,q.2.2)
   else if bM q.1≠0 then(p.1,p.2.1,bM q.1)
   else(p.1++[q.1],q.2.1,0)
def bZ (s:List UInt8) (at':Int) (t:List (List Int)) (d:List Int) (fin:Int):Nat->List Int×Int×Int×Bool
 |0=>([],at',0,false)
 |k+1=>
  let p:=bZ s at' t d fin k
  if p.2.2.1≠0\/p.2.2.2=true then p
  else let q:=dE (t.getD (d.getD (k/10) 0).toNat []) s p.2.1
   if q.2.2≠0 then(p.1,p.2.1,q.2.2,false)
   else if q.1=fin then
    if k/10+1<d.length then(p.1++[q.1],q.2.1,3,false) else(p.1++[q.1],q.2.1,0,true)
   else(p.1++[q.1],q.2.1,0,false)
def jW (s:List UInt8) (at':Int) (t:List (List Int)) (d:List Int) (fin:Int):List Int×Int×Int:=
 let p:=bZ s at' t d fin (10*d.length)
 if p.2.2.1≠0 then([],0,p.2.2.1) else if p.2.2.2 then(p.1,p.2.1,0) else([],0,3)
def dW (s:List UInt8) (at':Int) (codes:Int):List Int×Int×Int:=
 if aP s.length at' 3≠0 then([],0,aP s.length at' 3)
 else if aK s at' 3<2\/6<aK s at' 3 then([],0,3)
 else if aP s.length (at'+3) 15≠0 then([],0,aP s.length (at'+3) 15)
 else if aK s (at'+3) 15=0 then([],0,3)
 else
  let c:=eD s (at'+18) (aK s (at'+3) 15) (aK s at' 3)
  if c.2.2≠0 then([],0,c.2.2)
  else
   let t:=bO s c.2.1 codes (aK s at' 3)
   if t.2.2≠0 then([],0,t.2.2) else jW s t.2.1 t.1 c.1 (codes-1)
theorem LE (s:List UInt8) (at' codes:Int):∀k,(bO s at' codes k).2.2=0->(bO s at' codes k).1.length=k/\∀l∈(bO s at' codes k).1,bM l=0/\(l.length:Int)=codes
 |0,_=>⟨rfl,fun l d=>by simp[bO] at d⟩
 |k+1,h=>by
  unfold bO at h ⊢;simp only at h ⊢;split at h
  ·grind
  ·next q=>
   obtain⟨A,F⟩:=LE s at' codes k (eB.1 q)
   grind [gS,EP,bC,bO,bM]
def cR (s:List UInt8) (a:Nat) (l:List Bool):Prop:=a+l.length<=8*s.length/\seg s a l.length=l
theorem gN {s:List UInt8} {a:Nat} {l m:List Bool} (h:cR s a (l++m)):cR s a l/\cR s (a+l.length) m:=by grind [aL,aB2,seg,BT,List.append_inj,cR]
theorem qY {s:List UInt8} {a v n:Nat} (h:cR s a (aT v n)) (d:v<2^n):aP s.length (a:Int) n=0/\aK s (a:Int) n=v:=by grind [dV,aP,aK,aBt,cR,aT]
theorem RW {s:List UInt8} {a:Nat} {l:List Bool} (h:cR s a l):aP s.length (a:Int) l.length=0/\aK s (a:Int) l.length=dG l:=by
 rw[<-RA l] at h;exact qY h (wC l)
theorem xQ {s:List UInt8} {a:Nat} {b:Bool} {l:List Bool} (h:cR s a (b::l)):(aP s.length (a:Int) 1=0/\aK s (a:Int) 1=b.toNat)/\cR s (a+1) l:=by
 obtain⟨d,A⟩:=gN (l:=[b]) (m:=l) h
 grind [RW,dG,cR,aP,aK]
theorem aCl {s:List UInt8}:∀(k:Nat) (a:Nat) (d:Int),1<=d->d+k<=20->cR s a ((aX k [true,false]).flatten++[false])->fS s (a:Int) d=(d+k,((a+(2*k+1):Nat):Int),0)
 |0,a,d,I,J,h=>by
  obtain⟨⟨A,F⟩,_⟩:=xQ (b:=false) (l:=[]) h;rw[BU s _ _ (by omega),aA (by rw[A];simp),aB (by rw[F];rfl)];simp
 |k+1,a,d,I,J,h=>by
  rw[GX,kW,bU] at h;obtain⟨⟨A,F⟩,h⟩:=xQ (b:=true) (l:=false::((aX k [true,false]).flatten++[false])) h;obtain⟨⟨G,H⟩,h⟩:=xQ h;rw[show((a+1:Nat):Int)=(a:Int)+1 by omega] at G H;rw[BU s _ _ (by omega),aA (by rw[A];simp),aA (by rw[F];simp),aA (by rw[G];simp),show(if aK s ((a:Int)+1) 1=0 then d+1 else d-1)=d+1 from aB (by rw[H];rfl),aA (by omega)];have:=aCl k (a+1+1) (d+1) (by omega) (by omega) h
  grind
theorem aCm {s:List UInt8}:∀(k:Nat) (a:Nat) (d:Int),1<=d-k->d<=20->cR s a ((aX k [true,true]).flatten++[false])->fS s (a:Int) d=(d-k,((a+(2*k+1):Nat):Int),0)
 |0,a,d,I,J,h=>by
  obtain⟨⟨A,F⟩,_⟩:=xQ (b:=false) (l:=[]) h;rw[BU s _ _ (by omega),aA (by rw[A];simp),aB (by rw[F];rfl)];simp
 |k+1,a,d,I,J,h=>by
  rw[GX,kW,bU] at h;obtain⟨⟨A,F⟩,h⟩:=xQ (b:=true) (l:=true::((aX k [true,true]).flatten++[false])) h;obtain⟨⟨G,H⟩,h⟩:=xQ h;rw[show((a+1:Nat):Int)=(a:Int)+1 by omega] at G H;rw[BU s _ _ (by omega),aA (by rw[A];simp),aA (by rw[F];simp),aA (by rw[G];simp),show(if aK s ((a:Int)+1) 1=0 then d+1 else d-1)=d-1 from aA (by rw[H];simp),aA (by omega)];have:=aCm k (a+1+1) (d-1) (by omega) (by omega) h
  grind
theorem aTr {s:List UInt8} {a:Nat} {d x:Int} (A:1<=d) (F:d<=20) (G:1<=x) (H:x<=20) (h:cR s a (mR d x)):fS s (a:Int) d=(x,((a+(mR d x).length:Nat):Int),0):=by
 rcases Int.le_total d x with q|q
 ·obtain⟨k,rfl⟩:∃k:Nat,x=d+k:=⟨(x-d).toNat,by omega⟩;have e:mR d (d+k)=(aX k [true,false]).flatten++[false]:=by
   unfold mR;rw[show(d+(k:Int)-d).toNat=k by omega,show(d-(d+(k:Int))).toNat=0 by omega];simp
  rw[e] at h ⊢;rw[aCl k a d A H h];simp[aLz,DM,aL0,pE]
 ·obtain⟨k,rfl⟩:∃k:Nat,x=d-k:=⟨(d-x).toNat,by omega⟩;have e:mR d (d-k)=(aX k [true,true]).flatten++[false]:=by
   unfold mR;rw[show(d-(k:Int)-d).toNat=0 by omega,show(d-(d-(k:Int))).toNat=k by omega];simp
  rw[e] at h ⊢;rw[aCm k a d G F h];simp[aLz,DM,aL0,pE]
theorem aTs {s:List UInt8} {a:Nat} {l:List Int} (L:∀x∈l,1<=x/\x<=20) (h0:0<l.length) (h:cR s a (fI l)):∀k,k<=l.length->
  bC s (a:Int) k=(l.take k,(l.take k).getLastD (l.getD 0 0),((a+5+(fR (l.getD 0 0) (l.take k)).length:Nat):Int),0):=by
 have hf:1<=l.getD 0 0/\l.getD 0 0<=20:=by grind [aN,kK,cR,fI,bC,fR]
 obtain⟨M,F⟩:=gN h;obtain⟨O,U⟩:=qY M (by omega);rw[dV] at F;intro k
 induction k with
 |zero=>
  intro _;unfold bC;rw[U,aA (by rw[O];simp),aA (by omega)];refine qN rfl (qN (by grind) (qN (by simp[fR]) rfl))
 |succ k A=>
  intro hk;have A:=A (by omega);have G:=L l[k] (kK (by omega));have H:l.take (k+1)=l.take k++[l[k]]:=by simp
  have I:1<=(l.take k).getLastD (l.getD 0 0)/\(l.take k).getLastD (l.getD 0 0)<=20:=by
   rcases Nat.eq_zero_or_pos k with q|q
   ·grind
   ·have a1:l.take k≠[]:=by
     intro e;have:=congrArg List.length e;rw[List.length_take,aV] at this;omega
    have:(l.take k).getLastD (l.getD 0 0)∈l.take k:=by grind
    grind
  have V:cR s (a+5+(fR (l.getD 0 0) (l.take k)).length) (mR ((l.take k).getLastD (l.getD 0 0)) l[k]):=by
   have e:fR (l.getD 0 0) l=fR (l.getD 0 0) (l.take (k+1))++fR ((l.take (k+1)).getLastD (l.getD 0 0)) (l.drop (k+1)):=by
    have Z:∀(u v:List Int) (d:Int),fR d (u++v)=fR d u++fR (u.getLastD d) v:=fun u=>by
     induction u with
     |nil=>intro v d;rfl
     |cons y u A=>
      intro v d;show mR d y++fR y (u++v)=(mR d y++fR y u)++_;rw[A v y,bU]
      congr 3
      cases u<;>rfl
    rw[<-Z,kH]
   rw[e] at F;have J:=(gN F).1;rw[H,KU] at J;exact(gN J).2
  have a0:=aTr I.1 I.2 G.1 G.2 V;unfold bC;rw[A];simp only
  rw[aA (by simp),a0];simp only
  rw[aA (by simp),H,KU,aL];refine qN rfl (qN (by grind) (qN (by grind) rfl))
theorem aCn {s:List UInt8} {a:Nat} {l:List Int} (d:gM l) (h:cR s a (fI l)):gS s (a:Int) (l.length:Int)=(l,((a+(fI l).length:Nat):Int),0):=by
 have A:=d.1;have F:=d.2.1;have:=aTs d.2.2 (by omega) h l.length (aD _)
 grind [gS,fI,dV,gM,cR]
theorem aCo {s:List UInt8} {tables:Int}:∀(k:Nat) (a:Nat) (n:Int),0<=n->n+k<tables->cR s a (aX k true++[false])->kN s tables (a:Int) n=(n+k,((a+(k+1):Nat):Int),0)
 |0,a,n,F,G,h=>by
  obtain⟨⟨d,A⟩,_⟩:=xQ (b:=false) (l:=[]) h;rw[KX s _ _ _ (by omega),aA (by rw[d];simp),aB (by rw[A];rfl)];simp
 |k+1,a,n,F,G,h=>by
  rw[GX,List.cons_append] at h;obtain⟨⟨d,A⟩,h⟩:=xQ h;rw[KX s _ _ _ (by omega),aA (by rw[d];simp),aA (by rw[A];simp),aA (show ¬n+1=tables by omega)];have:=aCo (tables:=tables) k (a+1) (n+1) (by omega) (by omega) h
  grind
theorem aTt {s:List UInt8} {tables:Int} {a:Nat} {d:List Int} (G:∀x∈d,0<=x/\x<tables) (h:cR s a (eW d)):∀k,k<=d.length->
  dR s tables (a:Int) k=(d.take k,((a+(eW (d.take k)).length:Nat):Int),0):=by
 intro k
 induction k with
 |zero=>intro _;simp[dR,eW]
 |succ k A=>
  intro L;have A:=A (by omega);have M:=G d[k] (kK (by omega));have F:d.take (k+1)=d.take k++[d[k]]:=by simp
  have H:cR s (a+(eW (d.take k)).length) (oC d[k]):=by
   have e:eW d=eW (d.take (k+1))++eW (d.drop (k+1)):=by grind [eW,kH,cR,dR]
   rw[e,F,RJ] at h;exact(gN (gN h).1).2
  have I:=aCo (tables:=tables) d[k].toNat _ 0 (by omega) (by omega) H;unfold dR;rw[A];simp only
  rw[aA (by simp),I];simp only
  rw[aA (by simp),F,RJ,aL];have J:(oC d[k]).length=d[k].toNat+1:=by simp[oC]
  rw[J];refine qN (by grind) (qN (by grind) rfl)
theorem aTu {l:List Int} (d:bM l=0) {s:List UInt8} {a i:Nat} (hi:i<l.length) (h:cR s a (aT (gZ l i) (bL l i))):dE l s (a:Int)=((i:Int),((a+bL l i:Nat):Int),0):=by grind [RD,gE,dV,lA,aBt,zH,bM,cR,aT,gZ,bL,dE]
theorem aTv (t:List UInt8) (k i:Nat) (h:i<16):(iK t k).getD i false=dZ t (16*k+i):=by grind [iK,dZ]
theorem RX (t:List UInt8) (k:Nat):∀i,i<=16->kL t (16*k+i)=kL t (16*k)++nJ (dG (iK t k)) k i
 |0,_=>by simp[nJ]
 |i+1,h=>by
  rw[<-fU,PD,RX t k i (by omega)]
  grind [nJ,dG,iK,KJ,zJ,aTv,kL]
theorem aTw (t:List UInt8) (k:Nat) (h:lP t k=false):kL t (16*(k+1))=kL t (16*k):=by
 rw[show 16*(k+1)=16*k+16 by omega,RX t k 16 (aD _)];have d:dG (iK t k)=0:=(EN _).2 h;rw[d];have:∀i,nJ 0 k i=[]:=fun i=>by
  induction i with
  |zero=>rfl
  |succ i A=>unfold nJ;rw[A];simp
 grind
theorem LH (t:List UInt8):(pO t).length=16:=by simp[pO]
theorem aCp (t:List UInt8) (k:Nat):∀j,∃m,iA t (k+j)=iA t k++m
 |0=>⟨[],by simp⟩
 |j+1=>by
  obtain⟨m,d⟩:=aCp t k j
  grind [lP,iK,iA]
theorem aCq (t:List UInt8) (k:Nat) (d:k<=16):∃m,iA t 16=iA t k++m:=by
 have:=aCp t k (16-k)
 grind
theorem aTx {s:List UInt8} {a:Nat} {t:List UInt8} (h:cR s a (iL t)):∀k,k<=16->
  dQ s (a:Int) k=(kL t (16*k),((a+16+(iA t k).length:Nat):Int),dG (pO t)==0,0):=by
 obtain⟨H,A⟩:=gN h;have d:=RW H;rw[LH] at A d;intro k
 induction k with
 |zero=>
  intro _;unfold dQ;rw[d.1,d.2];refine qN (by simp[kL]) (qN (by simp[iA]) (qN rfl rfl))
 |succ k I=>
  intro J;unfold dQ;rw[I (by omega)];simp only
  rw[aA (by simp),d.2,KJ _ _ (by rw[LH];omega),LH,show 16-1-(15-k)=k by omega];have L:(pO t).getD k false=lP t k:=by
   unfold pO
   grind
  rw[L]
  cases F:lP t k with
  |false=>
   simp only[aA (show ¬(false=true) by decide)];rw[aTw t k F];have e:iA t (k+1)=iA t k:=by grind [iA,lP,iK,cR,iL,dQ,kL,dG,pO]
   rw[e]
  |true=>
   rw[aB rfl];have e:iA t (k+1)=iA t k++iK t k:=by grind [iA,lP,iK,cR,iL,dQ,kL,dG,pO]
   have M:cR s (a+16+(iA t k).length) (iK t k):=by
    obtain⟨m,O⟩:=aCq t (k+1) J;rw[O,e] at A;exact(gN (gN A).1).2
   have G:=RW M;rw[zJ] at G;rw[aA (by grind),G.2,e,aL,zJ];have U:dG (iK t k)≠0:=fun q=>by
    rw[EN] at q;have V:(iK t k).any id=true:=F
    grind
   refine qN ?_ (qN (by grind) (qN ?_ rfl))
   ·grind [kL,nJ,dG,iK,RX,cR,iL,dQ,iA,pO]
   ·grind
theorem aCr {t:List UInt8} (h:t≠[]):dG (pO t)≠0:=fun q=>by
 rw[EN] at q
 cases t with
 |nil=>exact h rfl
 |cons b r=>
  have F:dZ (b::r) b.toNat=true:=by unfold dZ;simp
  have G:=b.toNat_lt;rw[List.any_eq_false] at q;have d:lP (b::r) (b.toNat/16)∈pO (b::r):=by grind [pO,dG]
  have A:lP (b::r) (b.toNat/16)=true:=by
   unfold lP;rw[List.any_eq_true];refine⟨true,?_,rfl⟩;unfold iK;refine eK.2 ⟨b.toNat%16,qM.2 (by omega),?_⟩
   grind
  have:=q _ d;rw[A] at this;exact this rfl
theorem aTy {s:List UInt8} {a:Nat} {t:List UInt8} (d:t≠[]) (h:cR s a (iL t)):dF s (a:Int)=(bY t,((a+(iL t).length:Nat):Int),0):=by
 unfold dF;rw[aTx h 16 (aD _)]
 grind [dG,pO,aCr,iL,LH,cR,dF,bY]
theorem CC {s:List UInt8} {at':Int} {k:Nat} (h:(dQ s at' k).2.2.2≠0):∀j,dQ s at' (k+j)=dQ s at' k
 |0=>rfl
 |j+1=>by
  rw[<-fU];show(if(dQ s at' (k+j)).2.2.2≠0 then _ else _)=_;rw[CC h j,aB h]
theorem aTz {s:List UInt8} {at' n:Int} (h:(gS s at' n).2.2=0):0<=at'/\2<=n/\n<=258/\((gS s at' n).1.length:Int)=n/\(∀x∈(gS s at' n).1,1<=x/\x<=20)/\at'<(gS s at' n).2.1/\(gS s at' n).2.1<=8*(s.length:Int):=by grind [gS,EP,bC]
theorem aT0 {s:List UInt8} {at' n tables:Int} (h:(eD s at' n tables).2.2=0):2<=tables/\tables<=6/\0<=at'/\0<=n/\((eD s at' n tables).1.length:Int)=n/\(∀x∈(eD s at' n tables).1,0<=x/\x<tables)/\at'<=(eD s at' n tables).2.1/\((eD s at' n tables).2.1=at'\/(eD s at' n tables).2.1<=8*(s.length:Int)):=by
 unfold eD at h ⊢;split at h
 ·simp at h
 ·next A=>
  rw[aA A];simp only at h ⊢;split at h
  ·grind
  ·next d=>
   rw[aA d];obtain⟨J,L,F,G⟩:=BV s tables at' (by omega) (by omega) n.toNat (eB.1 d);refine⟨by omega,by omega,by omega,by omega,?_,?_,F,G⟩
   ·grind [sL,eD]
   ·intro x H;obtain⟨b,I,rfl⟩:=eK.1 H;have M:b∈cT tables.toNat:=PJ _ _ (by grind [sT,eD]) b I
    grind [RI,eD]
theorem aT1 {l:List Int} {s:List UInt8} {at':Int} (h:(dE l s at').2.2=0):bM l=0/\0<=at'/\0<=(dE l s at').1/\(dE l s at').1<(l.length:Int)/\at'<(dE l s at').2.1/\(dE l s at').2.1<=8*(s.length:Int):=by
 by_cases d:bM l≠0
 ·grind [dE,bM]
 ·have d:=eB.1 d
  by_cases F:at'<0
  ·grind [dE,bM]
  ·obtain⟨a,rfl⟩:∃a:Nat,at'=(a:Int):=⟨at'.toNat,by omega⟩
   by_cases A:∃i,i<l.length/\lA l s a i
   ·obtain⟨i,hi,A⟩:=A;rw[zH d hi A];have G:=lX (gE d).1 hi;have:=A.1
    grind
   grind [zI,dE,bM]
theorem LI {s:List UInt8} {at' codes:Int} {k:Nat} (h:(bO s at' codes k).2.2≠0):∀j,bO s at' codes (k+j)=bO s at' codes k
 |0=>rfl
 |j+1=>by
  rw[<-fU];show(if(bO s at' codes (k+j)).2.2≠0 then _ else _)=_;rw[LI h j,aB h]
theorem aCs (s:List UInt8) (at' codes:Int):∀k,(bO s at' codes k).2.2=0->at'<=(bO s at' codes k).2.1/\(0<k->(bO s at' codes k).2.1<=8*(s.length:Int))
 |0,_=>⟨lV _,fun h=>absurd h (by omega)⟩
 |k+1,h=>by
  by_cases d:(bO s at' codes k).2.2≠0
  ·grind [LI,bO]
  ·have G:=aCs s at' codes k (eB.1 d);unfold bO at h ⊢;simp only at h ⊢;rw[aA d] at h ⊢
   by_cases A:(gS s (bO s at' codes k).2.1 codes).2.2≠0
   ·grind
   ·rw[aA A] at h ⊢
    by_cases F:bM (gS s (bO s at' codes k).2.1 codes).1≠0
    ·grind
    ·rw[aA F];have:=aTz (eB.1 A)
     grind
theorem LJ {s:List UInt8} {at':Int} {t:List (List Int)} {d:List Int} {fin:Int} {k:Nat} (h:(bZ s at' t d fin k).2.2.1≠0\/(bZ s at' t d fin k).2.2.2=true):∀j,bZ s at' t d fin (k+j)=bZ s at' t d fin k
 |0=>rfl
 |j+1=>by
  rw[<-fU];show(if(bZ s at' t d fin (k+j)).2.2.1≠0\/(bZ s at' t d fin (k+j)).2.2.2=true then _ else _)=_;rw[LJ h j,aB h]
theorem RY (s:List UInt8) (at':Int) (t:List (List Int)) (d:List Int) (fin:Int):∀k,(bZ s at' t d fin k).2.2.1=0->at'<=(bZ s at' t d fin k).2.1/\((bZ s at' t d fin k).2.1<=8*(s.length:Int)\/((bZ s at' t d fin k).2.1=at'/\(bZ s at' t d fin k).1=[]))/\((bZ s at' t d fin k).1.length:Int)<=(bZ s at' t d fin k).2.1-at'/\∀x∈(bZ s at' t d fin k).1,0<=x/\∃l∈t,x<(l.length:Int)
 |0,_=>⟨lV _,.inr ⟨rfl,rfl⟩,by simp[bZ],fun x I=>by grind [bZ]⟩
 |k+1,h=>by
  by_cases A:(bZ s at' t d fin k).2.2.1≠0\/(bZ s at' t d fin k).2.2.2=true
  ·rw[LJ A 1] at h ⊢;have F:=RY s at' t d fin k h;exact F
  ·have H:(bZ s at' t d fin k).2.2.1=0:=eB.1 (fun q=>A (.inl q));have F:=RY s at' t d fin k H;unfold bZ at h ⊢;simp only at h ⊢;rw[aA A] at h ⊢
   by_cases G:(dE (t.getD (d.getD (k/10) 0).toNat []) s (bZ s at' t d fin k).2.1).2.2≠0
   ·grind
   ·rw[aA G] at h ⊢;have J:=aT1 (eB.1 G)
    grind
theorem RZ {s:List UInt8} {at' codes:Int} (h:(dW s at' codes).2.2=0):0<=at'/\2<=codes/\codes<=258/\(∀x∈(dW s at' codes).1,0<=x/\x<codes)/\((dW s at' codes).1.length:Int)<=8*(s.length:Int)/\at'<(dW s at' codes).2.1/\(dW s at' codes).2.1<=8*(s.length:Int):=by
 unfold dW at h ⊢
 by_cases H:aP s.length at' 3≠0
 ·grind
 ·rw[aA H] at h ⊢;have U:=iG (eB.1 H)
  by_cases V:aK s at' 3<2\/6<aK s at' 3
  ·grind
  ·rw[aA V] at h ⊢
   by_cases Z:aP s.length (at'+3) 15≠0
   ·grind
   ·rw[aA Z] at h ⊢;have a1:=jV s (at'+3) 15
    by_cases q4:aK s (at'+3) 15=0
    ·grind
    ·rw[aA q4] at h ⊢;simp only at h ⊢;generalize hn:aK s at' 3=n at*
     generalize hm:aK s (at'+3) 15=m at*
     by_cases F:(eD s (at'+18) m n).2.2≠0
     ·rw[aB F] at h;exact absurd h F
     ·rw[aA F] at h ⊢;have a2:=aT0 (eB.1 F);generalize eD s (at'+18) m n=c at*
      by_cases A:(bO s c.2.1 codes n).2.2≠0
      ·rw[aB A] at h;exact absurd h A
      ·rw[aA A] at h ⊢;have I:=LE s c.2.1 codes n (eB.1 A);have J:=aCs s c.2.1 codes n (eB.1 A);have L:2<=codes/\codes<=258:=by
        have a0:0<(bO s c.2.1 codes n).1.length:=by omega
        have:=I.2 _ (kK a0);have M:=(gE this.1).1;have h4:=M.1;have h5:=M.2.1;omega
       generalize bO s c.2.1 codes n=t at*
       unfold jW at h ⊢;simp only at h ⊢;have d:=RY s t.2.1 t.1 c.1 (codes-1) (10*c.1.length);generalize bZ s t.2.1 t.1 c.1 (codes-1) (10*c.1.length)=p at*
       by_cases G:p.2.2.1≠0
       ·rw[aB G] at h;exact absurd h G
       ·rw[aA G] at h ⊢;have d:=d (eB.1 G)
        by_cases O:p.2.2.2=true
        ·rw[aB O];refine⟨U.1,L.1,L.2,fun x hx=>?_,?_,?_,?_⟩
         ·obtain⟨k1,l,k2,k3⟩:=d.2.2.2 x hx;have:=(I.2 l k2).2;exact⟨k1,by omega⟩
         ·show(p.1.length:Int)<=8*(s.length:Int);have:=d.2.2.1;have:=J.2 (by omega);rcases d.2.1 with k|k<;>omega
         ·show at'<p.2.1;omega
         ·show p.2.1<=_;have:=J.2 (by omega);rcases d.2.1 with k|k<;>omega
        ·rw[aA O] at h;simp at h
theorem SD:∀(t:HT) (d:Nat),d+t.high<=20->((t.deep d).map (fun q=>2^(20-q.2))).sum=2^(20-d)
 |.leaf _,d,_=>by simp[HT.deep]
 |.node _ l r,d,h=>by
  unfold HT.high at h;unfold HT.deep;rw[List.map_append,List.sum_append,SD l (d+1) (by omega),SD r (d+1) (by omega),show 20-d=(20-(d+1))+1 by omega,Nat.pow_succ];omega
theorem aUh {l m:List Nat} (h:l.Perm m):l.sum=m.sum:=by grind
theorem aUi (d:List Int) (h:2<=d.length) (L:∀x∈d,1<=x) (hs:d.sum<28657):kZ (nK d)=1048576:=by
 obtain⟨p,M,hr⟩:=LA d h;have G:=mT.all d (d.length-1) (by omega);have H:=tT.all d (d.length-1) (by omega);obtain⟨I,O⟩:=wE.all d L (d.length-1) (by omega);rw[M] at G H I O;have A:p∈[p]:=List.mem_singleton.2 rfl;have hw:=HT.wt_high p.2 (I.even p A);have a0:=I.wt p A;have a1:p.1=d.sum:=by grind
 have hh:p.2.high<=20:=by
  rcases Nat.lt_or_ge 20 p.2.high with k|k
  ·have:=aB7 (show 21<=p.2.high from k);have e:oE 21=28657:=by decide
   omega
  ·exact k
 have U:p.2.leaves.Nodup:=HT.leaves_nodup _ (by have:=G.nodup;simpa using this);have V:p.2.leaves.Perm (eT d.length):=by
  rw[List.perm_ext_iff_of_nodup U List.nodup_range];intro j;rw[qM];constructor
  ·intro F;rw[<-HT.deep_map p.2 0] at F;obtain⟨q,J,rfl⟩:=eK.1 F;exact(H.2 p A q J).1
  ·intro F;obtain⟨p',a2,a3⟩:=G.leaves j F
   grind
 have a4:(nK d).length=d.length:=wD _ _;have Z:(nK d).map (fun x=>2^(20-x.toNat))=(eT d.length).map (fun j=>2^(20-((nK d).getD j 0).toNat)):=by
  apply List.ext_getElem?
  grind
 unfold kZ;rw[Z,<-aUh (V.map _),<-HT.deep_map p.2 0,yL];have e2:(p.2.deep 0).map ((fun j=>2^(20-((nK d).getD j 0).toNat)) ∘ fun q=>q.1)=(p.2.deep 0).map (fun q=>2^(20-q.2)):=by
  apply vH;intro q J;have:=(H.2 p A q J).2
  grind [jO,kZ,nK]
 rw[e2,SD p.2 0 (by omega)]
theorem xR {m:List Int} {n which:Nat} (A:2<=n) (F:n<=258) (h:∀x∈m,0<=x/\x<(n:Int)) (G:m.length<=20000):bM (eN m n which)=0:=by
 have H:=BZ m n which h m.length (aD _);have I:=xO m n which m.length;have J:=LB (mW m n which) (fun x d=>(H.2.2 x d).1);refine aSw (wF A F h G).1 (Nat.le_of_eq ?_);refine aUi _ (by grind [mW,bM,eN]) (fun x d=>?_) ?_
 ·grind
 grind [mW,bM,eN]
def mY (t0 t1 d m:List Int):Nat->List Bool
 |0=>[]
 |k+1=>mY t0 t1 d m k++aT (gZ (if d.getD (k/10) 0=0 then t0 else t1) (m.getD k 0).toNat) (bL (if d.getD (k/10) 0=0 then t0 else t1) (m.getD k 0).toNat)
theorem aC2 (t0 t1 d m:List Int) (i:Nat):∀j,j<=10->10*i+j<=m.length->mY t0 t1 d m (10*i+j)=mY t0 t1 d m (10*i)++gF (if d.getD i 0=0 then t0 else t1) (((m.drop (10*i)).take 10).take j)
 |0,_,_=>by simp[gF]
 |j+1,h,A=>by
  have e:((m.drop (10*i)).take 10).take (j+1)=((m.drop (10*i)).take 10).take j++[m.getD (10*i+j) 0]:=by
   rw[cG]
   grind
  rw[e,aCc,<-bU,<-aC2 t0 t1 d m i j (by omega) (by omega),<-fU]
  grind [mY,gF]
theorem aC3 (t0 t1 d m:List Int) (A:d.length=(m.length+9)/10):∀i,i<=(m.length+9)/10->iB t0 t1 (d.take i) ((dA m).take i)=mY t0 t1 d m (min (10*i) m.length)
 |0,_=>by simp[iB,mY]
 |i+1,h=>by
  have F:d.take (i+1)=d.take i++[d.getD i 0]:=by grind [cG,aN,iB,dA,mY]
  have G:(dA m).take (i+1)=(dA m).take i++[(m.drop (10*i)).take 10]:=by
   rw[cG,BY m i (by omega)];rfl
  rw[F,G,RV _ _ _ _ _ _ (by grind [kR,iB,dA,mY]),aC3 t0 t1 d m A i (by omega),show min (10*i) m.length=10*i by omega];have H:=aC2 t0 t1 d m i (min 10 (m.length-10*i)) (by omega) (by omega)
  grind
theorem aC4 (t0 t1 d m:List Int) (A:d.length=(m.length+9)/10):iB t0 t1 d (dA m)=mY t0 t1 d m m.length:=by
 have:=aC3 t0 t1 d m A ((m.length+9)/10) (aD _)
 grind [kR,iB,dA,mY]
theorem aC5 (t0 t1 d m:List Int) (k:Nat):∀j,∃r,mY t0 t1 d m (k+j)=mY t0 t1 d m k++r
 |0=>⟨[],by simp⟩
 |j+1=>by
  obtain⟨r,A⟩:=aC5 t0 t1 d m k j
  grind [aT,gZ,bL,mY]
theorem aUj {s:List UInt8} {a:Nat} {t0 t1 d m:List Int} {n:Nat} (h0:bM t0=0) (h1:bM t1=0) (l0:t0.length=n) (l1:t1.length=n) (H:d.length=(m.length+9)/10) (hc:∀x∈d,x=0\/x=1)
  (I:∀x∈m,0<=x/\x<(n:Int)) (a0:0<m.length) (a1:m[m.length-1]? =some ((n:Int)-1)) (J:∀x∈m.take (m.length-1),x<(n:Int)-1)
  (h:cR s a (iB t0 t1 d (dA m))):∀k,k<=m.length->
   bZ s (a:Int) [t0,t1] d ((n:Int)-1) k=(m.take k,((a+(mY t0 t1 d m k).length:Nat):Int),0,decide (k=m.length)):=by
 rw[aC4 t0 t1 d m H] at h;intro k
 induction k with
 |zero=>
  intro _;unfold bZ;rw[aE (by omega)];simp[mY]
 |succ k A=>
  intro hk;have A:=A (by omega);rw[aE (by omega)] at A;obtain⟨r,F⟩:=aC5 t0 t1 d m (k+1) (m.length-(k+1));rw[show k+1+(m.length-(k+1))=m.length by omega] at F;rw[F] at h;have G:=(gN (gN h).1).2;have hx:=I m[k] (kK (by omega));have L:m.getD k 0=m[k]:=by grind
  have M:m.take (k+1)=m.take k++[m[k]]:=by simp
  have a2:d.getD (k/10) 0=0\/d.getD (k/10) 0=1:=by grind [aN,kK,bM,cR,iB,dA,bZ,mY]
  have O:[t0,t1].getD (d.getD (k/10) 0).toNat []=if d.getD (k/10) 0=0 then t0 else t1:=by grind
  have U:bM (if d.getD (k/10) 0=0 then t0 else t1)=0:=by grind
  have a3:(if d.getD (k/10) 0=0 then t0 else t1).length=n:=by grind
  have V:(mY t0 t1 d m (k+1)).length=(mY t0 t1 d m k).length+bL (if d.getD (k/10) 0=0 then t0 else t1) (m.getD k 0).toNat:=by simp[mY,aT,dV,bM,cR,iB,dA,bZ]
  rw[V];generalize (if d.getD (k/10) 0=0 then t0 else t1)=tb at*
  rw[L] at G ⊢;have Z:=aTu U (i:=m[k].toNat) (by omega) G;unfold bZ;rw[A];simp only
  rw[aA (by simp),O,Z];simp only
  rw[aA (by simp)];have ei:((m[k].toNat:Nat):Int)=m[k]:=by omega
  rw[ei,M]
  by_cases a4:k+1=m.length
  ·grind
  ·have hl:m[k]<(n:Int)-1:=J _ (by
    refine List.mem_iff_getElem.2 ⟨k,by grind,?_⟩;simp)
   grind
theorem aC6 {s:List UInt8} {at':Int} {t:List (List Int)} {d:List Int} {fin:Int} {k:Nat} (h:(bZ s at' t d fin k).2.2.2=true):∀j,bZ s at' t d fin (k+j)=bZ s at' t d fin k
 |0=>rfl
 |j+1=>by
  rw[<-fU];show(if(bZ s at' t d fin (k+j)).2.2.1≠0\/(bZ s at' t d fin (k+j)).2.2.2=true then _ else _)=_;rw[aC6 h j,aB (.inr h)]
theorem aUk (d:List Int) (G:∀x∈d,x=0\/x=1):(∀x∈fJ d,0<=x/\x<2)/\(unL (cT 2) (fJ d)).map (fun b=>(b.toNat:Int))=d:=by
 have F:∀b∈d.map (fun c=>eA c.toNat),b∈cT 2:=fun b H=>by grind [RI,fJ,unL,cT]
 constructor
 ·intro x A;have:=BH _ _ F x A;rw[sT] at this;exact this
 ·unfold fJ;rw[YN _ _ F,yL]
  conv=>rhs;rw[<-List.map_id d]
  apply vH;intro x A;rcases G x A with rfl|rfl<;>rfl
theorem aUl {s:List UInt8} {a n:Nat} {m:List Int} (F:2<=n) (G:n<=258) (A:∀x∈m,0<=x/\x<(n:Int)) (H:m.length<=20000) (a1:0<m.length) (a2:m[m.length-1]? =some ((n:Int)-1)) (a3:∀x∈m.take (m.length-1),x<(n:Int)-1)
  (h:cR s a (wJ m n)):dW s (a:Int) (n:Int)=(m,((a+(wJ m n).length:Nat):Int),0):=by
 have O:=LC m n;have I:=CA m n;obtain⟨a4,a9⟩:=aUk (dS m n) O;have k0:=xR F G A H (which:=0);have k1:=xR F G A H (which:=1);have J:=wF F G A H (which:=0);have L:=wF F G A H (which:=1);have a5:(wJ m n).length=3+15+(eW (fJ (dS m n))).length+(fI (eN m n 0)).length+(fI (eN m n 1)).length+(iB (eN m n 0) (eN m n 1) (dS m n) (dA m)).length:=by grind [wJ,dV,cR,dW]
 rw[a5];unfold wJ at h;obtain⟨h,U⟩:=gN h;obtain⟨h,V⟩:=gN h;obtain⟨h,Z⟩:=gN h;obtain⟨h,s3⟩:=gN h;obtain⟨s1,s2⟩:=gN h;simp only[aL,dV] at s2 s3 Z V U;obtain⟨e1,v1⟩:=qY s1 (by decide);obtain⟨e2,v2⟩:=qY s2 (by rw[I];omega);have a6:(fJ (dS m n)).length=(dS m n).length:=by unfold fJ;rw[vQ,aS]
 have e3:=aTt (tables:=2) a4 s3 (fJ (dS m n)).length (aD _);rw[jS,a6] at e3;have e4:=aCn J.1 Z;have e5:=aCn L.1 V;rw[J.2] at e4;rw[L.2] at e5;rw[show((a+3:Nat):Int)=(a:Int)+3 by omega] at e2 v2;have M:=aUj k0 k1 J.2 L.2 I O A a1 a2 a3 U m.length (aD _);rw[aG rfl] at M;have a0:=aC6 (by rw[M]) (10*(dS m n).length-m.length);rw[show m.length+(10*(dS m n).length-m.length)=10*(dS m n).length by omega,M] at a0;generalize b0:dS m n=d at*
 generalize eN m n 0=t0 at*
 generalize eN m n 1=t1 at*
 unfold dW;rw[aA (by rw[e1];simp),v1,aA (by omega),aA (by rw[e2];simp),v2,aA (by omega)];have a7:eD s ((a:Int)+18) ((d.length:Nat):Int) ((2:Nat):Int)=(d,((a+18+(eW (fJ d)).length:Nat):Int),0):=by
  unfold eD
  grind
 rw[a7];simp only
 rw[aA (by simp)];have a8:bO s ((a+18+(eW (fJ d)).length:Nat):Int) (n:Int) 2=([t0,t1],((a+18+(eW (fJ d)).length+(fI t0).length+(fI t1).length:Nat):Int),0):=by grind [eW,fJ,fI,bO,cR,wJ,dW]
 rw[a8];simp only
 rw[aA (by simp)];unfold jW;have ec:a+18+(eW (fJ d)).length+(fI t0).length+(fI t1).length=a+(3+15+(eW (fJ d)).length+(fI t0).length+(fI t1).length):=by omega
 rw[ec,a0];simp only
 rw[aA (by simp),aB trivial,jS];rw[aC4 t0 t1 d m I];refine qN rfl (qN ?_ rfl);show((a+(3+15+(eW (fJ d)).length+(fI t0).length+(fI t1).length)+(mY t0 t1 d m m.length).length:Nat):Int)=_
 congr 1
 omega
end Go.Proofs.YtihbnmlinkbnkaaGreatDoor
