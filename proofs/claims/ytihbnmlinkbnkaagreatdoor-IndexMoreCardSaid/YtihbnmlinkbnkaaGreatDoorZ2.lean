/-
  Texts put together (part 2): the walks and the plain laws on which the statement stands.
-/
import Derived.StillTailTactics
import Derived.Test.YtihbnmlinkbnkaaGreatDoorZ1
set_option maxRecDepth 100000
set_option maxHeartbeats 12800000
set_option linter.unusedVariables false
set_option linter.unusedSimpArgs false
open Go.Proofs.Tryz
open Go.Proofs.Tryz renaming prog->pG
open Go renaming bodyPost_ret->fM,results_none->tI
open Go.IntKind renaming i64->aJ
open Go.IntWalk renaming i64_in->yM
open Int renaming toNat_natCast->fL
open List renaming append_assoc->bU,cons_append->fF,countP_cons->aLg,drop_drop->kG,getD_eq_getElem?_getD->bV,getElem?_append_right->rY,getElem?_eq_getElem->aN,getElem?_eq_none->fZ,length_append->aL,length_cons->aU,length_singleton->fQ,map_cons->kI,mem_cons->jQ,mem_cons_of_mem->iQ,mem_cons_self->jK,mem_range->qM,range->eT,range_succ->wU,replicate->aX,sum_cons->xB,take_append_drop->kH
open List.Pairwise renaming imp_of_mem->aLc
open List.Perm renaming refl->GZ
open Nat renaming add_sub_cancel->oR,eq_zero_or_pos->jE,le_refl->aD,lt_of_lt_of_le->fB,lt_or_ge->cF,min_eq_left->jF,mod_eq_of_lt->jT,mod_lt->kU,mul_assoc->DK,mul_comm->pE,pow_le_pow_right->nF,pow_pos->DN,pow_succ->oP,strongRecOn->NU,testBit_lt_two_pow->bGj
open UInt8 renaming ofNat->eA,toNat_inj->tH,toNat_ofNat'->nD
namespace Go.Proofs.YtihbnmlinkbnkaaGreatDoor
section
def dO (s:List UInt8) (i:Nat):Bool:=(s.getD (i/8) 0).toNat.testBit (7-i%8)
def xN (l:List Bool):Nat:=(eT 8).foldl (fun n k=>2*n+(l.getD k false).toNat) 0
def zG (l:List Bool):UInt8:=eA (xN l)
def aI (l:List Bool):List UInt8:=(eT ((l.length+7)/8)).map (fun j=>zG (l.drop (8*j)))
theorem iJ (l:List Bool):(aI l).length=(l.length+7)/8:=by simp[aI]
theorem aSp (l:List Bool):xN l<256:=by
 unfold xN;simp only[eT,eT.loop,List.foldl];have h:∀b:Bool,b.toNat<=1:=fun b=>by cases b<;>decide
 grind
theorem aSq:∀d A F G H I J L:Bool,∀k:Fin 8,(2*(2*(2*(2*(2*(2*(2*(2*0+d.toNat)+A.toNat)+F.toNat)+G.toNat)+H.toNat)+I.toNat)+J.toNat)+L.toNat).testBit (7-k.val)=[d,A,F,G,H,I,J,L][k]:=by decide+kernel
theorem aSr (l:List Bool) (k:Nat) (d:k<8):(xN l).testBit (7-k)=l.getD k false:=by
 unfold xN;simp only[eT,eT.loop,List.foldl];have:=aSq (l.getD 0 false) (l.getD 1 false) (l.getD 2 false) (l.getD 3 false) (l.getD 4 false) (l.getD 5 false) (l.getD 6 false) (l.getD 7 false) ⟨k,d⟩
 grind
theorem aSs (l:List Bool):(zG l).toNat=xN l:=by grind [zG,nD,jT,aSp,xN]
theorem tR (l:List Bool) (i:Nat):dO (aI l) i=l.getD i false:=by
 unfold dO
 by_cases h:i/8<(l.length+7)/8
 ·grind [aI,zG,aSs,aSr,dO]
 ·have e:(aI l).getD (i/8) 0=0:=by
   rw[bV,fZ (by rw[iJ];omega)];rfl
  rw[e,bV,fZ (by omega)];simp
theorem aSt {a b:UInt8} (h:∀k,k<8->a.toNat.testBit (7-k)=b.toNat.testBit (7-k)):a=b:=by
 apply tH.1;apply Nat.eq_of_testBit_eq;intro i
 by_cases hi:i<8
 ·have:=h (7-i) (by omega)
  grind
 ·have d:a.toNat<2^i:=fB a.toNat_lt (nF (by decide) (by omega));have A:b.toNat<2^i:=fB b.toNat_lt (nF (by decide) (by omega))
  grind [bGj]
theorem BS {s t:List UInt8} (d:s.length=t.length) (h:∀i,i<8*s.length->dO s i=dO t i):s=t:=by
 apply List.ext_getElem d;intro j A F;apply aSt;intro k G;have:=h (8*j+k) (by omega);unfold dO at this;rw[show(8*j+k)/8=j by omega,show(8*j+k)%8=k by omega] at this
 grind
def eR (s:List UInt8):List Bool:=(eT (8*s.length)).map (dO s)
theorem qU (s:List UInt8):(eR s).length=8*s.length:=by simp[eR]
theorem wA (s:List UInt8) (i:Nat):(eR s)[i]? =if i<8*s.length then some (dO s i) else none:=by grind [eR,dO]
theorem aBs {s:List UInt8} {j:Nat} (d:j<s.length) (x:UInt8) (i:Nat):dO (s.set j x) i=if i/8=j then x.toNat.testBit (7-i%8) else dO s i:=by grind [dO]
theorem EL (s t:List UInt8) (i:Nat):dO (s++t) i=if i<8*s.length then dO s i else dO t (i-8*s.length):=by grind [dO]
theorem orB:∀x:Fin 256,∀k:Fin 8,∀q:Fin 8,(x.val|||(128>>>k.val)).testBit (7-q.val)=(x.val.testBit (7-q.val)||decide (q=k)):=by decide+kernel
theorem aSv {l:List Bool} (h:l.length%8=0) (b:Bool):aI (l++[b])=aI l++[if b then 128 else 0]:=by
 have d:(aI l).length=l.length/8:=by rw[iJ];omega
 apply BS
 ·grind [iJ,aI]
 ·intro i hi;rw[iJ] at hi;simp at hi;rw[tR,EL,d]
  by_cases A:i<8*(l.length/8)
  ·grind [tR,aI]
  ·rw[aA A];obtain⟨k,rfl⟩:∃k,i=l.length+k:=⟨i-l.length,by omega⟩;have F:k<8:=by omega
   rw[bV,rY (by omega),show l.length+k-l.length=k by omega,show l.length+k-8*(l.length/8)=k by omega];unfold dO;rw[show k/8=0 by omega,show k%8=k by omega];rcases(show k=0\/k=1\/k=2\/k=3\/k=4\/k=5\/k=6\/k=7 by omega) with rfl|rfl|rfl|rfl|rfl|rfl|rfl|rfl<;>cases b<;>rfl
theorem aBu {l:List Bool} (h:l.length%8≠0) (b:Bool):aI (l++[b])=(aI l).set ((aI l).length-1) (eA (((aI l).getD ((aI l).length-1) 0).toNat|||(if b then 128>>>(l.length%8) else 0))):=by
 have F:(aI l).length=l.length/8+1:=by rw[iJ];omega
 apply BS
 ·grind [iJ,aI]
 ·intro i hi;rw[iJ] at hi;simp at hi;rw[tR,aBs (by omega),F,oR];have L:dO (aI l) i=l.getD i false:=tR l i
  by_cases G:i/8=l.length/8
  ·rw[aB G];have d:((aI l).getD (l.length/8) 0).toNat<256:=UInt8.toNat_lt _;have A:((aI l).getD (l.length/8) 0).toNat.testBit (7-i%8)=l.getD i false:=by grind [dO,aI]
   have hor:∀y,y<256->(eA (((aI l).getD (l.length/8) 0).toNat|||y)).toNat=(((aI l).getD (l.length/8) 0).toNat|||y):=fun y H=>by
    rw[nD];exact jT (Nat.or_lt_two_pow (n:=8) d H)
   cases b with
   |false=>
    rw[aA (by decide),hor _ (by decide),Nat.or_zero,A]
    by_cases I:i<l.length
    ·grind
    ·grind
   |true=>
    have J:128>>>(l.length%8)<256:=Nat.lt_of_le_of_lt (Nat.shiftRight_le _ _) (by decide);rw[aB rfl,hor _ J];have:=orB ⟨_,d⟩ ⟨l.length%8,kU _ (by decide)⟩ ⟨i%8,kU _ (by decide)⟩;simp only at this;rw[this,A]
    by_cases I:i<l.length
    ·grind
    ·grind
  grind
theorem aSu (l:List Bool):(eR (aI l)).take l.length=l:=by
 apply List.ext_getElem?
 grind [wA,iJ,tR,eR,aI]
def dG (l:List Bool):Nat:=l.foldl (fun v b=>2*v+b.toNat) 0
theorem wB (l:List Bool) (b:Bool):dG (l++[b])=2*dG l+b.toNat:=by simp[dG]
theorem EM {α:Type} {P:List α->Prop} (d:P []) (A:∀l b,P l->P (l++[b])):∀l,P l:=fun l=>by
 have h:∀m:List α,P m.reverse:=fun m=>by
  induction m with
  |nil=>exact d
  |cons b m F=>rw[List.reverse_cons];exact A _ _ F
 have:=h l.reverse
 grind
theorem wC (l:List Bool):dG l<2^l.length:=by
 refine EM (P:=fun l=>dG l<2^l.length) (by decide) (fun l b d=>?_) l
 ·rw[wB,aL,fQ,oP];have:b.toNat<=1:=by cases b<;>decide
  omega
def aT (v n:Nat):List Bool:=(eT n).map (fun i=>v.testBit (n-1-i))
theorem dV (v n:Nat):(aT v n).length=n:=by simp[aT]
theorem KI (v n i:Nat) (h:i<n):(aT v n)[i]? =some (v.testBit (n-1-i)):=by simp[aT,h]
theorem KJ (l:List Bool):∀i,i<l.length->(dG l).testBit i=l.getD (l.length-1-i) false:=by
 refine EM (P:=fun l=>∀i,i<l.length->(dG l).testBit i=l.getD (l.length-1-i) false) (fun i h=>by simp at h) (fun l b d=>?_) l
 ·intro i hi;rw[wB];simp only[aL,fQ] at hi ⊢
  cases i with
  |zero=>
   rw[bV,rY (by omega)];simp only[oR,Nat.sub_zero,Nat.sub_self,List.getElem?_cons_zero,Option.getD_some];rw[Nat.testBit_zero]
   cases b<;>simp<;>omega
  |succ i=>
   rw[Nat.testBit_succ,show(2*dG l+b.toNat)/2=dG l by cases b<;>simp<;>omega,d i (by omega)];rw[bV,bV,List.getElem?_append_left (by omega)]
   congr 2;omega
theorem RA (l:List Bool):aT (dG l) l.length=l:=by
 apply List.ext_getElem (dV _ _)
 grind [KI,dG,KJ,aT]
theorem aBt {v n:Nat} (h:v<2^n):dG (aT v n)=v:=by
 apply Nat.eq_of_testBit_eq
 grind [KJ,dV,KI,bGj,fB,nF,wC,aT,dG]
def cL (l:List Int) (n:Nat):Nat:=l.countP (fun x=>x==(n:Int))
def gY (l:List Int):Nat->Nat
 |0=>0
 |n+1=>2*(gY l n+cL l n)
def gM (l:List Int):Prop:=2<=l.length/\l.length<=258/\∀x∈l,1<=x/\x<=20
instance (l:List Int):Decidable (gM l):=inferInstanceAs (Decidable (2<=l.length/\l.length<=258/\∀x∈l,1<=x/\x<=20))
def kZ (l:List Int):Nat:=(l.map (fun x=>2^(20-x.toNat))).sum
def bM (l:List Int):Int:=if ¬gM l then 1 else if kZ l>1048576 then 6 else 0
theorem gE {l:List Int} (h:bM l=0):gM l/\kZ l<=1048576:=by grind [bM,gM,kZ]
theorem aSw {l:List Int} (d:gM l) (A:kZ l<=1048576):bM l=0:=by grind [bM,gM,kZ]
theorem aBv {l:List Int} (h:∀x∈l,1<=x):cL l 0=0:=by grind [cL]
theorem aBw {l:List Int} (h:∀x∈l,1<=x):gY l 1=0:=by grind [gY,aBv]
def pN (l:List Int) (n:Nat):Nat:=(l.map (fun x=>if x.toNat<=n then 2^(n-x.toNat) else 0)).sum
theorem aBx (l:List Int) (n:Nat) (h:∀x∈l,1<=x):pN l (n+1)=2*pN l n+cL l (n+1):=by
 induction l with
 |nil=>rfl
 |cons x l d=>
  have d:=d (fun y A=>h y (iQ _ A));have G:=h x (jK ..);unfold pN cL at*
  simp only[kI,xB,aLg];rw[d]
  by_cases F:x.toNat<=n
  ·rw[aB F,aB (by omega),aA (by simp;omega),show n+1-x.toNat=n-x.toNat+1 by omega,oP];omega
  ·grind
theorem aBy (l:List Int) (h:∀x∈l,1<=x):∀n,pN l n=gY l n+cL l n:=by
 intro n
 induction n with
 |zero=>
  have:pN l 0=cL l 0:=by
   induction l with
   |nil=>rfl
   |cons x l d=>
    have d:=d (fun y A=>h y (iQ _ A));have F:=h x (jK ..);unfold pN cL at*
    simp only[kI,xB,aLg,d];rw[aA (by omega),aA (by simp;omega)];omega
  rw[this];unfold gY;omega
 |succ n d=>rw[aBx l n h,d];rfl
theorem aBz (l:List Int) (n k:Nat):pN l n*2^k<=pN l (n+k):=by
 unfold pN
 induction l with
 |nil=>simp
 |cons x l d=>
  simp only[kI,xB];rw[Nat.add_mul];refine Nat.add_le_add ?_ d
  by_cases h:x.toNat<=n
  ·rw[aB h,aB (by omega),<-Nat.pow_add,show n-x.toNat+k=n+k-x.toNat by omega];simp
  ·grind
theorem RB {l:List Int} (h:∀x∈l,1<=x/\x<=20):pN l 20=kZ l:=by grind [pN,kZ,List.map_congr_left]
theorem aB0 {l:List Int} (h:∀x∈l,1<=x/\x<=20) (F:kZ l<=1048576) {n:Nat} (G:n<=20):gY l n+cL l n<=2^n:=by
 rw[<-aBy l (fun x d=>(h x d).1)];have:=aBz l n (20-n);rw[show n+(20-n)=20 by omega,RB h] at this;have H:2^n*2^(20-n)=1048576:=by rw[<-Nat.pow_add,show n+(20-n)=20 by omega]
 have A:pN l n*2^(20-n)<=2^n*2^(20-n):=by omega
 exact Nat.le_of_mul_le_mul_right A (DN (by decide))
def sS (l:List Int):Nat->Int
 |0=>1-(cL l 0:Int)
 |n+1=>2*sS l n-(cL l (n+1):Int)
theorem RC (l:List Int) (h:∀x∈l,1<=x):∀n,sS l n=2^n-(pN l n:Int):=by
 intro n
 induction n with
 |zero=>
  have:pN l 0=cL l 0:=by rw[aBy l h];unfold gY;omega
  unfold sS;rw[this];rfl
 |succ n d=>
  unfold sS;rw[d,aBx l n h];rw[Int.pow_succ];push_cast;omega
theorem aSx {l:List Int} (h:∀x∈l,1<=x/\x<=20) {n:Nat} (G:n<=20) (d:sS l n<0):1048576<kZ l:=by
 rw[RC l (fun x A=>(h x A).1)] at d;have F:2^n<pN l n:=by grind
 have:=aBz l n (20-n);rw[show n+(20-n)=20 by omega,RB h] at this;have H:2^n*2^(20-n)=1048576:=by rw[<-Nat.pow_add,show n+(20-n)=20 by omega]
 have I:(2^n+1)*2^(20-n)<=pN l n*2^(20-n):=Nat.mul_le_mul_right _ F
 grind
theorem aSy {l:List Int} (h:∀x∈l,1<=x/\x<=20) (d:∀n,n<=20->0<=sS l n):kZ l<=1048576:=by
 have:=d 20 (aD _)
 grind [RC,RB,sS,kZ]
theorem aSz {l:List Int} (h:∀x∈l,1<=x) {n:Nat}:sS l n<=2^n:=by
 rw[RC l h];omega
def bL (l:List Int) (s:Nat):Nat:=(l.getD s 0).toNat
def gZ (l:List Int) (s:Nat):Nat:=gY l (bL l s)+cL (l.take s) (bL l s)
theorem lX {l:List Int} (h:gM l) {s:Nat} (d:s<l.length):1<=bL l s/\bL l s<=20/\l[s]? =some ((bL l s:Nat):Int):=by
 have:=h.2.2 l[s] (List.getElem_mem d);unfold bL
 grind
theorem KK {l:List Int} {s:Nat} (d:s<l.length) {n:Nat} (A:l[s]? =some (n:Int)):cL (l.take s) n<cL l n:=by grind [cL,List.getElem_cons_drop,kH,aN]
theorem KL {l:List Int} (h:gM l) {s:Nat} (d:s<l.length):gY l (bL l s)<=gZ l s/\gZ l s<gY l (bL l s)+cL l (bL l s):=by
 have:=KK d (lX h d).2.2;unfold gZ;omega
theorem RD {l:List Int} (h:gM l) (A:kZ l<=1048576) {s:Nat} (d:s<l.length):gZ l s<2^bL l s:=by
 have:=KL h d;have:=aB0 h.2.2 A (lX h d).2.1;omega
theorem aS0 (l:List Int) (n k:Nat):(gY l n+cL l n)*2^(k+1)<=gY l (n+k+1):=by
 induction k with
 |zero=>show _<=2*(gY l n+cL l n);rw[pE];exact aD _
 |succ k d=>
  show _<=2*(gY l (n+(k+1))+_);rw[oP,<-DK];have e:n+(k+1)=n+k+1:=by omega
  rw[e];omega
def qG (l:List Int) (n m:Nat):List Nat:=(eT m).filter (fun s=>l.getD s 0==(n:Int))
theorem RF (l:List Int) (n m:Nat):qG l n (m+1)=qG l n m++if l.getD m 0==(n:Int) then[m] else[]:=by grind [qG,wU]
theorem KM {l:List Int} {m:Nat} (d:m<l.length) (n:Nat):cL (l.take (m+1)) n=cL (l.take m) n+if l.getD m 0==(n:Int) then 1 else 0:=by grind [cL,List.take_add_one,aN]
theorem KN (l:List Int) (n:Nat):∀m,m<=l.length->(qG l n m).length=cL (l.take m) n:=by
 intro m
 induction m with
 |zero=>intro _;rfl
 |succ m d=>
  intro A;rw[RF,aL,d (by omega),KM (by omega)];split<;>rfl
theorem aB1 (l:List Int) (n:Nat):∀m,m<=l.length->∀k s,(qG l n m)[k]? =some s->s<m/\l.getD s 0=(n:Int)/\cL (l.take s) n=k:=by
 intro m
 induction m with
 |zero=>intro _ k s h;simp[qG] at h
 |succ m d=>
  intro A k s h;rw[RF] at h
  by_cases F:k<(qG l n m).length
  ·grind
  ·grind [qG,KN,cL]
def seg (s:List UInt8) (a n:Nat):List Bool:=((eR s).drop a).take n
theorem BT {s:List UInt8} {a n:Nat} (h:a+n<=8*s.length):(seg s a n).length=n:=by grind [seg,qU]
theorem aS1 (l m:List Bool):dG (l++m)=dG l*2^m.length+dG m:=by
 refine EM (P:=fun m=>dG (l++m)=dG l*2^m.length+dG m) (by simp[dG]) (fun m b d=>?_) m;rw[<-bU,wB,wB,d,aL,fQ,oP,<-DK];omega
theorem aB2 {s:List UInt8} {a n k:Nat}:seg s a (n+k)=seg s a n++seg s (a+n) k:=by grind [seg,kG]
theorem aS2 {s:List UInt8} {a n k:Nat} (h:a+(n+k)<=8*s.length):dG (seg s a (n+k))/2^k=dG (seg s a n):=by
 rw[aB2,aS1,BT (by omega)];have d:=wC (seg s (a+n) k);rw[BT (by omega)] at d;rw[pE,Nat.mul_add_div (DN (by decide)),Nat.div_eq_of_lt d,Nat.add_zero]
def lA (l:List Int) (s:List UInt8) (a i:Nat):Prop:=a+bL l i<=8*s.length/\dG (seg s a (bL l i))=gZ l i
instance (l:List Int) (s:List UInt8) (a i:Nat):Decidable (lA l s a i):=inferInstanceAs (Decidable (_/\_))
theorem aB3 {l:List Int} (d:gM l) {s:List UInt8} {a i j:Nat} (hi:i<l.length) (F:j<l.length) (G:lA l s a i) (A:lA l s a j):¬bL l i<bL l j:=by
 intro L;obtain⟨k,H⟩:∃k,bL l j=bL l i+(k+1):=⟨bL l j-bL l i-1,by omega⟩;have M:=(KL d hi).2;have O:=(KL d F).1;have I:=aS0 l (bL l i) k;have e:bL l i+k+1=bL l j:=by omega
 rw[e] at I;have J:=aS2 (s:=s) (a:=a) (n:=bL l i) (k:=k+1) (by have:=A.1;omega);rw[<-H,A.2,G.2] at J;have:gY l (bL l i)+cL l (bL l i)<=gZ l j/2^(k+1):=by
  rw[Nat.le_div_iff_mul_le (DN (by decide))];omega
 omega
theorem KO {l:List Int} {i j n:Nat} (A:i<j) (F:j<l.length) (hi:l[i]? =some (n:Int)):cL (l.take i) n<cL (l.take j) n:=by
 have d:(l.take j)[i]? =some (n:Int):=by grind
 have h:=KK (l:=l.take j) (s:=i) (by grind) d
 grind
theorem aS3 {l:List Int} (d:gM l) {s:List UInt8} {a i j:Nat} (hi:i<l.length) (A:j<l.length) (G:lA l s a i) (H:lA l s a j):i=j:=by
 have J:=aB3 d hi A G H;have L:=aB3 d A hi H G;have e:bL l i=bL l j:=by omega
 have I:=G.2;rw[e,H.2] at I;unfold gZ at I;rw[e] at I;rcases Nat.lt_trichotomy i j with h|h|h
 ·have F:=(lX d hi).2.2;rw[e] at F;have:=KO h A F;omega
 ·exact h
 ·have F:=(lX d A).2.2;have:=KO h hi F;omega
def mQ (l:List Int):Int:=l.foldl max 0
def dE (l:List Int) (s:List UInt8) (at':Int):Int×Int×Int:=
 if bM l≠0 then(0,0,bM l)
 else if at'<0 then(0,0,1)
 else match (eT l.length).find? (fun i=>decide (lA l s at'.toNat i)) with
  |some i=>((i:Int),at'+(bL l i:Int),0)
  |none=>if at'>8*(s.length:Int)-mQ l then(0,0,2) else(0,0,3)
theorem zH {l:List Int} (d:bM l=0) {s:List UInt8} {a i:Nat} (hi:i<l.length) (h:lA l s a i):dE l s (a:Int)=((i:Int),(a:Int)+(bL l i:Int),0):=by grind [dE,fL,eT,lA,List.find?_eq_none,List.mem_of_find?_eq_some,aS3,gE,bM,bL]
theorem zI {l:List Int} (d:bM l=0) {s:List UInt8} {a:Nat} (h:∀i,i<l.length->¬lA l s a i):dE l s (a:Int)=if(a:Int)>8*(s.length:Int)-mQ l then(0,0,2) else(0,0,3):=by grind [dE,lA,bM,mQ]
def iR (p:Int->Bool):List Int->Int
 |[]=> -1
 |x::l=>if p x then 0 else if iR p l<0 then-1 else iR p l+1
theorem JC (p:Int->Bool):∀l,-1<=iR p l/\iR p l<(l.length:Int)/\(iR p l<0↔∀x∈l,p x=false):=by
 intro l
 induction l with
 |nil=>simp[iR]
 |cons x l d=>
  unfold iR;obtain⟨A,F,G⟩:=d
  by_cases H:p x=true
  ·grind
  ·grind
theorem JD {p:Int->Bool}:∀{l:List Int} {k:Nat},(∀x∈l.take k,p x=false)->(d:k<l.length)->p l[k]=true->iR p l=(k:Int):=by
 intro l
 induction l with
 |nil=>intro k _ d;simp at d
 |cons x l F=>
  intro k h d A;unfold iR
  cases k with
  |zero=>rw[aB (by simpa using A)];rfl
  |succ k=>
   have H:=h x (by simp);rw[aA (by grind)];have e:=F (k:=k) (fun y G=>h y (by simp[G])) (by simpa using d) (by simpa using A);rw[e,aA (by omega)];omega
theorem sK {p:Int->Bool} {l:List Int} (h:∀x∈l,p x=false):iR p l= -1:=by
 obtain⟨d,_,A⟩:=JC p l
 grind
def dZ (s:List UInt8) (c:Nat):Bool:=s.any (fun b=>b.toNat==c)
theorem PC (s:List UInt8) (b:UInt8):dZ s b.toNat=true↔b∈s:=by grind [dZ,List.any_eq_true,tH]
def kL (s:List UInt8) (m:Nat):List UInt8:=((eT m).filter (dZ s)).map eA
def bY (s:List UInt8):List UInt8:=kL s 256
theorem PD (s:List UInt8) (m:Nat):kL s (m+1)=kL s m++if dZ s m then[eA m] else[]:=by grind [kL,wU,dZ]
theorem YI (s:List UInt8) (m:Nat):(kL s m).length<=m:=by grind [kL,dZ]
theorem DS (s:List UInt8) (b:UInt8):b∈bY s↔b∈s:=by
 unfold bY kL;rw[List.mem_map];constructor
 ·rintro⟨c,d,rfl⟩;rw[List.mem_filter,qM] at d;have e:(eA c).toNat=c:=by rw[nD];omega
  grind [PC,bY]
 ·intro h;refine⟨b.toNat,?_,by simp⟩;rw[List.mem_filter,qM];exact⟨b.toNat_lt,(PC s b).2 h⟩
theorem JE (s:List UInt8):(bY s).Nodup:=by
 unfold bY kL List.Nodup;rw[List.pairwise_map];refine aLc ?_ (List.pairwise_lt_range.sublist List.filter_sublist)
 grind [UInt8.toNat,nD,bY]
theorem YJ {s t:List UInt8} (h:∀b,b∈s↔b∈t):bY s=bY t:=by
 have e:dZ s=dZ t:=by grind [dZ,bY]
 grind [bY,kL]
theorem YK (s:List UInt8):bY (bY s)=bY s:=YJ (fun b=>DS s b)
theorem JF {s:List UInt8} (h:s≠[]):bY s≠[]:=by
 cases s with
 |nil=>exact absurd rfl h
 |cons b s=>
  intro e;have:=(DS (b::s) b).2 (by simp);rw[e] at this;simp at this
def gC (a:List UInt8) (i:Nat):List UInt8:=(a.drop i).take 1++a.take i++a.drop (i+1)
theorem yW (a:List UInt8) (i:Nat):(gC a i).Perm a:=by grind [gC,kG,kH,bU,List.Perm.append_right,List.perm_append_comm]
theorem BF (a:List UInt8) (i:Nat):(gC a i).length=a.length:=(yW a i).length_eq
def plc (a:List UInt8) (c:UInt8):Nat:=a.findIdx (fun b=>b==c)
theorem vP {a:List UInt8} {c:UInt8} (h:c∈a):plc a c<a.length:=by grind [plc]
theorem JG {a:List UInt8} {c:UInt8} (h:c∈a):a[plc a c]? =some c:=by grind [vP,plc]
theorem YL {a:List UInt8} {c:UInt8} {i:Nat} (h:i<plc a c) (d:i<a.length):a[i]≠c:=by grind [plc]
theorem aMc {a:List UInt8} {c:UInt8} {i:Nat} (hi:i<a.length) (h:a[i]=c) (d:∀j,(A:j<i)->a[j]'(by omega)≠c):plc a c=i:=by grind [plc,JG,vP,YL]
theorem PE {a:List UInt8} (d:a.Nodup) {i:Nat} (hi:i<a.length):plc a a[i]=i:=by grind [aMc,List.pairwise_iff_getElem,plc]
def dL:List UInt8->List UInt8->List Int
 |_,[]=>[]
 |a,c::s=>((plc a c:Nat):Int)::dL (gC a (plc a c)) s
def fH:List UInt8->List UInt8->List UInt8
 |a,[]=>a
 |a,c::s=>fH (gC a (plc a c)) s
theorem vQ:∀(s a:List UInt8),(dL a s).length=s.length:=by
 intro s
 induction s with
 |nil=>intro a;rfl
 |cons c s d=>intro a;simp[dL,d]
theorem JH:∀(s a:List UInt8),(fH a s).Perm a:=by
 intro s
 induction s with
 |nil=>intro a;exact GZ _
 |cons c s d=>intro a;exact(d _).trans (yW a _)
theorem JI (c:UInt8):∀(s a:List UInt8),dL a (s++[c])=dL a s++[((plc (fH a s) c:Nat):Int)]:=by
 intro s
 induction s with
 |nil=>intro a;rfl
 |cons d s A=>intro a;simp only[fF,dL,fH,A]
theorem PF (c:UInt8):∀(s a:List UInt8),fH a (s++[c])=gC (fH a s) (plc (fH a s) c):=by
 intro s
 induction s with
 |nil=>intro a;rfl
 |cons d s A=>intro a;simp only[fF,fH,A]
theorem BH:∀(s a:List UInt8),(∀b∈s,b∈a)->∀x∈dL a s,0<=x/\x<(a.length:Int):=by
 intro s
 induction s with
 |nil=>intro a _ x d;simp[dL] at d
 |cons c s A=>
  intro a h x d;rw[dL,jQ] at d;rcases d with rfl|d
  ·have:=vP (h c (by simp));omega
  ·have:=A (gC a (plc a c)) (fun b F=>(yW a _).mem_iff.2 (h b (by simp[F]))) x d;rwa[BF] at this
def unL:List UInt8->List Int->List UInt8
 |_,[]=>[]
 |a,i::l=>a.getD i.toNat 0::unL (gC a i.toNat) l
def unA:List UInt8->List Int->List UInt8
 |a,[]=>a
 |a,i::l=>unA (gC a i.toNat) l
theorem sL:∀(l:List Int) (a:List UInt8),(unL a l).length=l.length:=by
 intro l
 induction l with
 |nil=>intro a;rfl
 |cons c l d=>intro a;simp[unL,d]
theorem YM:∀(l:List Int) (a:List UInt8),(unA a l).Perm a:=by
 intro l
 induction l with
 |nil=>intro a;exact GZ _
 |cons c l d=>intro a;exact(d _).trans (yW a _)
theorem PH (i:Int):∀(l:List Int) (a:List UInt8),unL a (l++[i])=unL a l++[(unA a l).getD i.toNat 0]:=by
 intro l
 induction l with
 |nil=>intro a;rfl
 |cons d l A=>intro a;simp only[fF,unL,unA,A]
theorem PI (i:Int):∀(l:List Int) (a:List UInt8),unA a (l++[i])=gC (unA a l) i.toNat:=by
 intro l
 induction l with
 |nil=>intro a;rfl
 |cons d l A=>intro a;simp only[fF,unA,A]
theorem YN:∀(s a:List UInt8),(∀b∈s,b∈a)->unL a (dL a s)=s:=by
 intro s
 induction s with
 |nil=>intro a _;rfl
 |cons c s d=>
  intro a h;have A:=JG (h c (by simp));simp only[dL,unL,fL];rw[List.getD,A,d _ (fun b F=>(yW a _).mem_iff.2 (h b (by simp[F])))];rfl
theorem PJ:∀(l:List Int) (a:List UInt8),(∀x∈l,0<=x/\x<(a.length:Int))->∀b∈unL a l,b∈a:=by
 intro l
 induction l with
 |nil=>intro a _ b d;simp[unL] at d
 |cons i l A=>
  intro a h b d;rw[unL,jQ] at d;rcases d with rfl|d
  ·have:=h i (by simp)
   grind
  ·grind [yW,BF,unL]
def xF:Nat->Nat->List Int
 |0,_=>[]
 |f+1,n=>if n=0 then[] else(if n%2=1 then 0 else 1)::xF f ((n-1)/2)
def dig (n:Nat):List Int:=xF n n
theorem aMd:∀(f n g:Nat),n<=f->n<=g->xF f n=xF g n:=by
 intro f
 induction f with
 |zero=>
  intro n g d A;have:n=0:=by omega
  subst this
  cases g with
  |zero=>rfl
  |succ g=>simp[xF]
 |succ f F=>
  intro n g d A
  cases g with
  |zero=>
   have:n=0:=by omega
   subst this;simp[xF]
  |succ g=>
   unfold xF
   by_cases G:n=0
   ·grind
   ·grind
theorem uG:dig 0=[]:=rfl
theorem JJ {n:Nat} (h:0<n):dig n=(if n%2=1 then 0 else 1)::dig ((n-1)/2):=by
 unfold dig;obtain⟨m,rfl⟩:∃m,n=m+1:=⟨n-1,by omega⟩
 grind [xF,aMd,dig]
theorem JK:∀(n:Nat),∀x∈dig n,x=0\/x=1:=by
 intro n
 induction n using NU with
 |ind n d=>
  intro x A;rcases jE n with h|h
  ·grind [uG,dig]
  ·grind [JJ,dig]
theorem JL:∀(n:Nat),(dig n).length<=n/\(0<n->0<(dig n).length):=by
 intro n
 induction n using NU with
 |ind n d=>
  rcases jE n with h|h
  ·subst h;simp[uG]
  ·rw[JJ h,aU]
   grind
def num:List Int->Nat
 |[]=>0
 |d::l=>(d.toNat+1)+2*num l
theorem YO:∀n,num (dig n)=n:=by
 intro n
 induction n using NU with
 |ind n d=>
  rcases jE n with h|h
  ·subst h;rfl
  ·rw[JJ h,num,d _ (by omega)]
   grind
def dM:Nat->List Int->List Int
 |k,[]=>dig k
 |k,x::l=>if x=0 then dM (k+1) l else dig k++(x+1)::dM 0 l
def zx:Nat->Nat->List Int->List Int
 |n,_,[]=>aX n 0
 |n,p,x::l=>if x<2 then zx (n+p*(x.toNat+1)) (2*p) l else aX n 0++(x-1)::zx 0 1 l
def dT (m:List Int):List Int:=zx 0 1 m
theorem PK:∀(r:List Int) (n p:Nat) (l:List Int),(∀x∈r,x<2)->zx n p (r++l)=zx (n+p*num r) (p*2^r.length) l:=by
 intro r
 induction r with
 |nil=>intro n p l _;simp[num]
 |cons d r A=>
  intro n p l h;rw[fF,zx,aB (h d (by simp)),A _ _ _ (fun x F=>h x (by simp[F])),num,aU,oP];have G:n+p*(d.toNat+1)+2*p*num r=n+p*(d.toNat+1+2*num r):=by grind
  have H:2*p*2^r.length=p*(2^r.length*2):=by grind
  rw[G,H]
theorem PL (n p:Nat):zx n p []=aX n 0:=rfl
theorem JM {n p:Nat} {x:Int} {l:List Int} (h:¬x<2):zx n p (x::l)=aX n 0++(x-1)::dT l:=by
 rw[zx,aA h];rfl
theorem aMe:∀(l:List Int) (k:Nat),(∀x∈l,0<=x)->dT (dM k l)=aX k 0++l:=by
 intro l
 induction l with
 |nil=>
  intro k _;have:=PK (dig k) 0 1 [] (fun x d=>by grind [JK,dT,dM]);rw[List.append_nil] at this;rw[dM,dT,this,PL,YO];simp
 |cons x l A=>
  intro k h;rw[dM]
  by_cases d:x=0
  ·grind [List.replicate_succ',bU,dT,dM]
  ·have F:=h x (by simp)
   grind [dT,PK,JK,JM,YO,dM]
theorem PM:∀(l:List Int) (k:Nat),(dM k l).length<=k+l.length/\(0<k+l.length->0<(dM k l).length):=by
 intro l
 induction l with
 |nil=>intro k;simpa [dM] using JL k
 |cons x l d=>
  intro k;rw[dM]
  by_cases A:x=0
  ·grind
  ·grind [JL,dM]
theorem aMf:∀(l:List Int) (k:Nat),(∀x∈l,0<=x)->∀y∈dM k l,y=0\/y=1\/∃x∈l,y=x+1/\x≠0:=by
 intro l
 induction l with
 |nil=>intro k _ y d;rcases JK k y d with h|h;exact .inl h;exact .inr (.inl h)
 |cons x l F=>
  intro k h y d;rw[dM] at d;have G:∀k,y∈dM k l->y=0\/y=1\/∃z∈x::l,y=z+1/\z≠0:=by grind
  by_cases A:x=0
  ·grind
  ·rw[aA A,List.mem_append,jQ] at d;rcases d with d|rfl|d
   ·grind [JK,dM]
   ·grind
   grind
end
section
open Go.RowKit
def BI (f:Nat->Int) (a b:Nat):Prop:=∀i j,a<=i->i<j->j<b->f i<f j
def jN (f:Nat->Int) (j i:Nat):Nat->Int:=fun k=>if k=j then f i else if j<k/\k<=i then f (k-1) else f k
theorem aMy (f:Nat->Int) (i:Nat):jN f i i=f:=by grind [jN]
theorem aMz (f:Nat->Int) (j i:Nat) (h:j<i):jN f j i=iX (iX (jN f (j+1) i) (j+1) (jN f (j+1) i j)) j (jN f (j+1) i (j+1)):=by grind [jN,iX]
theorem YR (f:Nat->Int) (a j i:Nat) (F:a<=j) (G:j<=i):lO a (i+1) f (jN f j i):=by
 refine⟨fun k H I=>?_,fun k J=>?_⟩
 ·unfold jN
  by_cases d:k=j
  ·rw[aB d];exact⟨i,by omega,by omega,rfl⟩
  ·rw[aA d]
   by_cases A:j<k/\k<=i
   ·rw[aB A];exact⟨k-1,by omega,by omega,rfl⟩
   grind
 grind [jN,lO]
theorem YS {lt:Int->Int->Prop} {f:Nat->Int} {a j i:Nat} (h:jM lt f a i) (_h1:a<=j) (d:j<=i) (A:∀k,a<=k->k<j->lt (f k) (f i)) (F:∀k,j<=k->k<i->lt (f i) (f k)):
  jM lt (jN f j i) a (i+1):=by grind [jN,jM]
structure Cmp (lt:Int->Int->Prop) (klt:Int->Int->Bool):Prop where
 S:vR lt
 iff:∀x y,x<y->(klt y x=true↔lt y x)
theorem YT (g cap n a b bx:Nat) (f:Nat->Int) (J:Int->Int->Bool) (lt:Int->Int->Prop) (w:World) (hd:Dat w g cap n f) (hn:n<=1000000) (_hcap:cap<=maxLen) (b9:a<=b) (c0:b<=n)
  (hf:InR n f) (hr:BI f a b) (hc:tN w g n bx J) (C:Cmp lt J):
  Calls pG 307 #[.slice (some ⟨g,0,none⟩) n cap,.int .i64 (a:Int),.int .i64 (b:Int),qQ bx] w fun e w'=>
   e=.returned (.tuple #[])/\(∃h,nZ lt f h a b/\Dat w' g cap n h)/\w.grownBy w' (some g):=by
 unfold maxLen at _hcap;unfold qQ;have a9:=hid hc;have HR:=hid hr;clear hc hr;go_enter func307,ntmps307;go_wp2
 go_loopg [8] (b-(a+1)) (fun gh i wr=>∃(k:Nat) (h:Nat->Int),a+1<=k/\(k<=b\/k=a+1)/\gh=b-k/\i=.int .i64 k/\Dat wr g cap n h/\Hid (nZ lt f h a (min k b))/\w.grownBy wr (some g))
 case atStart=>
  refine⟨a+1,f,aD _,.inr rfl,rfl,congrArg _ (by omega),hd,hid ⟨lO.refl _ _ _,jM.tiny _ _ _ (by omega)⟩,yX _ _⟩
 case round=>
  obtain⟨i,h,c3,b0,V,rfl,d,G,A⟩:=hrel;have HG:=hid V;clear V
  by_cases c4:i<b
  ·obtain⟨wo,rfl⟩:∃wo:World,wo=wr:=⟨_,rfl⟩;have H:=G.out.frm;rw[jF (by omega)] at H;have a5:=hf.from (by omega) H;go_wp2
   go_loopg [9] i (fun gh j wr=>∃q:Nat,a<=q/\q<=i/\gh=q/\j=.int .i64 q/\Dat wr g cap n (jN h q i)/\Hid (∀k,q<=k->k<i->lt (h i) (h k))/\w.grownBy wr (some g))
   case atStart=>exact⟨i,by omega,aD _,rfl,rfl,by rw[aMy];exact d,hid (fun k h1 h2=>by omega),A⟩
   case round=>
    clear d A;obtain⟨q,c5,c6,a0,rfl,d,HK,A⟩:=hrel;have b3:=hid a0;clear a0
    by_cases b4:a<q
    ·have t1:decide (a<q)=true:=by simpa using b4
     have Z:=d.cell (k:=q) (by omega);have c2:=d.cell (k:=q-1) (by omega);have f1:=d.free q;have f2:=d.free (q-1);have e1:jN h q i q=h i:=by unfold jN;rw[aB rfl]
     have e2:jN h q i (q-1)=h (q-1):=by unfold jN;rw[aA (by omega),aA (by omega)]
     rw[e1] at Z;rw[e2] at c2;have E1:=hid e1;have E2:=hid e2;clear e1 e2;have b1:=a5 i (by omega);have b2:=a5 (q-1) (by omega);obtain⟨x,hx⟩:∃x,x=h i:=⟨_,rfl⟩;obtain⟨y,hy⟩:∃y,y=h (q-1):=⟨_,rfl⟩;rw[<-hx] at Z b1;rw[<-hy] at c2 b2;have L:=hid hx;have M:=hid hy;clear hx hy;have s1:aJ.wrap ((q:Int)-1)=(q:Int)-1:=yM _ (by omega);have s2:((q:Int)-1).toNat=q-1:=by omega
     have s3:(0:Int)<=(q:Int)-1:=by omega
     have s4:(q:Int)-1<(n:Int):=by omega
     have s5:q<n:=by omega
     have s6:(1:Int)<=(q:Int):=by omega
     have s7:1<=q:=by omega
     have s8:0<q:=by omega
     have s9:(q:Int)<=(n:Int):=by omega
     have c7:q<=n:=by omega
     go_wp2_with fail
     go_cut [34] (fun b5 wx=>b5=.bool (J x y)/\Dat wx g cap n (jN h q i)/\w.grownBy wx (some g))
     case first=>
      go_still_tail 14,(by kernel_rfl)
      change wpList _ _ _ _ _ wr.drew;have b6:=d.drew;have a6:=qP A;generalize wr.drew=c8 at*
      go_wp2_with (go_at_call 272;refine(a9.out _ a6 x y b1.1 b1.2 b2.1 b2.2).mono ?_;rintro e w2 ⟨c,rfl,hc,hb⟩);go_meet;exact⟨rfl,b6.grown (vS (row:=none) hb) (by simp),eU a6 (vS hb)⟩
     case rest=>
      obtain⟨rfl,I,a7⟩:=hcut;have a8:y<x:=by
       rw[L.out,M.out];obtain⟨k',O,k2,k3⟩:=H.1 (q-1) (by omega) (by omega);rw[k3,H.2 i (by omega)];exact HR.out k' i O (by omega) (by omega)
      have a1:=hid a8;clear a8
      by_cases U:J x y=true
      ·have a2:=hid ((C.iff y x a1.out).1 U);have d1:=I.cell (k:=q) (by omega);have d2:=I.cell (k:=q-1) (by omega);have g1:=I.free q;have g2:=I.free (q-1);rw[E1.out,<-L.out] at d1;rw[E2.out,<-M.out] at d2;have c9:q≠q-1:=by omega
       rw[U];clear Z c2 f1 f2 d A;go_wp2
       go_region
       all_goals go_wp2
       have a0:=b3.out
       go_roundg (q-1)
       case measure=>omega
       case rel=>
        refine⟨q-1,by omega,by omega,rfl,congrArg _ (by omega),?_,hid (fun k O k2=>?_),qP (eU (eU a7 (gD _ _ _ _)) (gD _ _ _ _))⟩
        ·have:=(I.set q y).set (q-1) x;have e:=aMz h (q-1) i (by omega);rw[show q-1+1=q by omega,E1.out,E2.out,<-L.out,<-M.out] at e;rw[e];exact this.drew
        ·rcases cF k q with F|F
         ·have:k=q-1:=by omega
          rw[this,<-L.out,<-M.out];exact a2.out
         ·exact HK.out k F k2
      ·have b7:J x y=false:=by simpa using U
       have a2:=hid ((C.S.tot y x (by have:=a1.out;omega)).resolve_right (fun h=>U ((C.iff y x a1.out).2 h)));rw[b7];clear U;have a3:=hid (YS (j:=q) (i:=i) (a:=a) (f:=h) (lt:=lt) (by have:=G.out.srt;rwa[jF (by omega)] at this) (by omega) (by omega)
        (fun k O k2=>by
         have e:lt (h (q-1)) (h i):=by rw[<-L.out,<-M.out];exact a2.out
         rcases cF k (q-1) with F|F
         ·have hs:=G.out.srt;rw[jF (by omega)] at hs;exact C.S.tr _ _ _ (hs k (q-1) O F (by omega)) e
         ·have:k=q-1:=by omega
          rw[this];exact e) HK.out)
       have a4:=hid ((H.wide (aD a) (show i<=i+1 by omega)).trans (YR h a q i (by omega) (by omega)));clear Z c2 f1 f2 d A;go_wp2;have V:=HG.out
       go_roundg (b-(i+1))
       case measure=>omega
       case rel=>exact⟨i+1,_,by omega,.inl (by omega),rfl,by go_num,I,hid (by rw[jF (by omega)];exact⟨a4.out,a3.out⟩),a7⟩
    ·have b8:q=a:=by omega
     have t1:decide (a<q)=false:=by simp;omega
     have a3:=hid (YS (j:=q) (i:=i) (a:=a) (f:=h) (lt:=lt) (by have:=G.out.srt;rwa[jF (by omega)] at this) (by omega) (by omega) (fun k O k2=>by omega) HK.out);have a4:=hid ((H.wide (aD a) (show i<=i+1 by omega)).trans (YR h a q i (by omega) (by omega)));clear b8;go_wp2
     go_quiet (fail)
     go_wp2;have V:=HG.out
     go_roundg (b-(i+1))
     case measure=>omega
     case rel=>exact⟨i+1,_,by omega,.inl (by omega),rfl,by go_num,d.drewN _,hid (by rw[jF (by omega)];exact⟨a4.out,a3.out⟩),aMw A _⟩
  ·go_wp2
   go_end0
   refine⟨rfl,⟨h,?_,d⟩,A⟩;have:=G.out;rcases b0 with F|F
   ·rwa[show min i b=b by omega] at this
   ·exact⟨(G.out.frm.wide (aD _) (by omega)),jM.tiny _ _ _ (by omega)⟩
theorem aM0 (f:Nat->Int) (a:Nat):cW f a (a+1) (a+1)=f:=by grind [cW]
theorem aM1 (f:Nat->Int) (a p:Nat) (h:a<=p):cW f a (a+1) (p+1+1)=iX (iX (cW f a (a+1) (p+1)) p (cW f a (a+1) (p+1) (p+1))) (p+1) (cW f a (a+1) (p+1) p):=by grind [cW,iX]
theorem aM2 (g cap n a m b bx:Nat) (hm:m=a+1) (f:Nat->Int) (J:Int->Int->Bool) (lt:Int->Int->Prop) (w:World) (hd:Dat w g cap n f) (hn:n<=1000000) (_hcap:cap<=maxLen) (c0:b<=n)
  (hf:InR n f) (hp:oS lt f a (a+1) b) (hc:tN w g n bx J) (C:Cmp lt J):
  Calls pG 308 #[.slice (some ⟨g,0,none⟩) n cap,.int .i64 (a:Int),.int .i64 (m:Int),.int .i64 (b:Int),qQ bx] w fun e w'=>
   e=.returned (.tuple #[])/\(∃h,nZ lt f h a b/\Dat w' g cap n h)/\w.grownBy w' (some g):=by
 unfold maxLen at _hcap;unfold qQ;have c3:=hp.mb;have b3:=hid hc;have L:=hid hp;clear hc hp;have t0:((m:Int)-(a:Int)==1)=true:=by rw[beq_iff_eq];omega
 have a3:(m:Int)=(a:Int)+1:=by omega
 have c4:m<n:=by omega
 have c5:a<m:=by omega
 have c6:=hid a3;have M:=hid hm;clear hm a3;go_enter func308,ntmps308;go_wp2
 go_loopg [10,11] (b-m) (fun gh i j wr=>∃p q:Nat,m<=p/\p<=q/\q<=b/\gh=q-p/\i=.int .i64 p/\j=.int .i64 q/\Dat wr g cap n f/\
   Hid (∀k,m<=k->k<p->lt (f k) (f a))/\Hid (∀k,q<=k->k<b->lt (f a) (f k))/\w.grownBy wr (some g))
 case atStart=>have hm:=M.out;exact⟨m,b,aD _,by omega,aD _,rfl,rfl,rfl,hd,hid (fun k O G=>by omega),hid (fun k O G=>by omega),yX _ _⟩
 case round=>
  obtain⟨p,q,c7,c8,a4,U,rfl,rfl,A,HL,HH,F⟩:=hrel;have HG:=hid U;clear U;have b4:a+1<=p:=by have:=M.out;omega
  by_cases c9:p<q
  ·obtain⟨d,a5⟩:∃d,d=(p+q)/2:=⟨_,rfl⟩;have O:p<=d:=by omega
   have G:d<q:=by omega
   have V:=A.cell (k:=d) (by omega);have Z:=A.cell (k:=a) (by omega);have b1:=hf d (by omega);have b2:=hf a (by omega);have E:=hid a5;have e0:((p:Int)+(q:Int))/2=((d:Nat):Int):=by omega
   clear a5;obtain⟨x,H⟩:∃x,x=f d:=⟨_,rfl⟩;obtain⟨y,I⟩:∃y,y=f a:=⟨_,rfl⟩;rw[<-H] at V b1;rw[<-I] at Z b2;have HX:=hid H;have HY:=hid I;clear H I;have s1:d<n:=by omega
   have s2:a<n:=by omega
   go_wp2
   go_cut [50] (fun b5 wx=>b5=.bool (J x y)/\Dat wx g cap n f/\w.grownBy wx (some g))
   case first=>
    go_still_tail 9,(by kernel_rfl)
    change wpList _ _ _ _ _ wr.drew;have b6:=A.drew;have a6:=qP F;generalize wr.drew=d0 at*
    go_wp2_with (go_at_call 272;refine(b3.out _ a6 x y b1.1 b1.2 b2.1 b2.2).mono ?_;rintro e w2 ⟨c,rfl,hc,hb⟩);go_meet;exact⟨rfl,b6.grown (vS (row:=none) hb) (by simp),eU a6 (vS hb)⟩
   case rest=>
    obtain⟨rfl,a7,a8⟩:=hcut;have a9:f a<f d:=L.out.ne a d (aD _) (by omega) (by omega) (by omega);have b0:=hid a9;clear a9;clear V Z A F
    by_cases a0:J x y=true
    ·have hl:=hid (aMq (h:=d) C.S L.out (by omega) ((C.iff _ _ b0.out).1 (by rw[<-HX.out,<-HY.out];exact a0)));rw[a0];go_wp2;have U:=HG.out
     go_roundg (q-(d+1))
     case measure=>omega
     case rel=>exact⟨d+1,q,by omega,by omega,a4,rfl,by go_num,rfl,a7,hid (fun k O G=>hl.out k (by have:=M.out;omega) G),HH,a8⟩
    ·have hl:=hid (aMr (h:=d) C.S L.out (by omega) (by omega) (fun h=>a0 (by rw[HX.out,HY.out];exact(C.iff _ _ b0.out).2 h)));have b7:J x y=false:=by simpa using a0
     rw[b7];go_wp2;have U:=HG.out
     go_roundg (d-p)
     case measure=>omega
     case rel=>exact⟨p,d,by omega,by omega,by omega,rfl,rfl,rfl,a7,HL,hl,a8⟩
  ·have a1:q=p:=by omega
   subst a1;have HM:=hid (aMm L.out b4 a4 (fun k O G=>HL.out k (by have:=M.out;omega) G) HH.out);clear HL HH;go_wp2
   go_loopg [13] (q-1-a) (fun gh k wr=>∃p:Nat,a<=p/\p<q/\gh=q-1-p/\k=.int .i64 p/\Dat wr g cap n (cW f a (a+1) (p+1))/\w.grownBy wr (some g))
   case atStart=>exact⟨a,aD _,by omega,rfl,rfl,by rw[aM0];exact A,F⟩
   case round=>
    clear A F;obtain⟨p,b8,d1,a2,rfl,A,F⟩:=hrel;have b9:=hid a2;clear a2
    by_cases d2:p+1<q
    ·have t1:decide ((p:Int)<(q:Int)-1)=true:=by simp;omega
     have V:=A.cell (k:=p) (by omega);have Z:=A.cell (k:=p+1) (by omega);have f1:=A.free p;have f2:=A.free (p+1);have e:=aM1 f a p b8;obtain⟨x,H⟩:∃x,x=cW f a (a+1) (p+1) p:=⟨_,rfl⟩;obtain⟨y,I⟩:∃y,y=cW f a (a+1) (p+1) (p+1):=⟨_,rfl⟩;rw[<-H] at V e;rw[<-I] at Z e;have E3:=hid e;clear H I e;have s3:p+1<n:=by omega
     have s4:p<n:=by omega
     have d3:p≠p+1:=by omega
     go_wp2
     go_region
     all_goals go_wp2
     have a2:=b9.out
     go_roundg (q-1-(p+1))
     case measure=>omega
     case rel=>
      refine⟨p+1,by omega,by omega,rfl,by go_num,?_,qP (eU (eU F (gD _ _ _ _)) (gD _ _ _ _))⟩;rw[E3.out];exact((A.set p y).set (p+1) x).drew
    ·have a1:p=q-1:=by omega
     have t1:decide ((p:Int)<(q:Int)-1)=false:=by simp;omega
     have e1:p+1=q:=by omega
     rw[e1] at A;clear a1 e1;go_wp2;refine fM (tI rfl _ _ _) rfl ?_;exact⟨rfl,⟨_,HM.out,A⟩,F⟩
theorem aM3 (f:Nat->Int) (m:Nat):cW f m m (m+1)=f:=by grind [cW]
theorem aM4 (f:Nat->Int) (q m:Nat) (h:q+1<=m):cW f q m (m+1)=iX (iX (cW f (q+1) m (m+1)) (q+1) (cW f (q+1) m (m+1) q)) q (cW f (q+1) m (m+1) (q+1)):=by grind [cW,iX]
theorem aM5 (g cap n a m b bx:Nat) (hm:b=m+1) (Z:a+1<m) (f:Nat->Int) (I:Int->Int->Bool) (lt:Int->Int->Prop) (w:World) (hd:Dat w g cap n f) (hn:n<=1000000) (_hcap:cap<=maxLen) (b7:b<=n)
  (hf:InR n f) (hp:oS lt f a m (m+1)) (hc:tN w g n bx I) (C:Cmp lt I):
  Calls pG 308 #[.slice (some ⟨g,0,none⟩) n cap,.int .i64 (a:Int),.int .i64 (m:Int),.int .i64 (b:Int),qQ bx] w fun e w'=>
   e=.returned (.tuple #[])/\(∃h,nZ lt f h a (m+1)/\Dat w' g cap n h)/\w.grownBy w' (some g):=by
 unfold maxLen at _hcap;unfold qQ;have a8:=hid hc;have J:=hid hp;clear hc hp;have t0:((m:Int)-(a:Int)==1)=false:=by rw[cB];omega
 have t1:((b:Int)-(m:Int)==1)=true:=by rw[beq_iff_eq];omega
 have b8:m<b:=by omega
 have b9:m<n:=by omega
 have c0:=hid hm;clear hm;go_enter func308,ntmps308;go_wp2
 go_loopg [14,15] (m-a) (fun gh i j wr=>∃p q:Nat,a<=p/\p<=q/\q<=m/\gh=q-p/\i=.int .i64 p/\j=.int .i64 q/\Dat wr g cap n f/\
   Hid (∀k,a<=k->k<p->lt (f k) (f m))/\Hid (∀k,q<=k->k<m->lt (f m) (f k))/\w.grownBy wr (some g))
 case atStart=>exact⟨a,m,aD _,by omega,aD _,rfl,rfl,rfl,hd,hid (fun k h1 Z=>by omega),hid (fun k h1 Z=>by omega),yX _ _⟩
 case round=>
  obtain⟨p,q,a9,c3,a0,L,rfl,rfl,A,HL,HH,F⟩:=hrel;have HG:=hid L;clear L
  by_cases c4:p<q
  ·obtain⟨d,a2⟩:∃d,d=(p+q)/2:=⟨_,rfl⟩;have h1:p<=d:=by omega
   have Z:d<q:=by omega
   have M:=A.cell (k:=m) (by omega);have O:=A.cell (k:=d) (by omega);have b1:=hf m (by omega);have b2:=hf d (by omega);have E:=hid a2;have e0:((p:Int)+(q:Int))/2=((d:Nat):Int):=by omega
   clear a2;obtain⟨x,G⟩:∃x,x=f m:=⟨_,rfl⟩;obtain⟨y,H⟩:∃y,y=f d:=⟨_,rfl⟩;rw[<-G] at M b1;rw[<-H] at O b2;have HX:=hid G;have HY:=hid H;clear G H;have s1:d<n:=by omega
   have s2:m<n:=by omega
   go_wp2
   go_cut [103] (fun b0 wx=>b0=.bool (!I x y)/\Dat wx g cap n f/\w.grownBy wx (some g))
   case first=>
    go_still_tail 9,(by kernel_rfl)
    change wpList _ _ _ _ _ wr.drew;have b3:=A.drew;have a3:=qP F;generalize wr.drew=c5 at*
    go_wp2_with (go_at_call 272;refine(a8.out _ a3 x y b1.1 b1.2 b2.1 b2.2).mono ?_;rintro e w2 ⟨c,rfl,hc,hb⟩);go_meet;exact⟨rfl,b3.grown (vS (row:=none) hb) (by simp),eU a3 (vS hb)⟩
   case rest=>
    obtain⟨rfl,a4,a5⟩:=hcut;have a6:f d<f m:=J.out.ne d m (by omega) (by omega) (by omega) (by omega);have a7:=hid a6;clear a6;clear M O A F
    by_cases U:I x y=true
    ·have hl:=hid (aMt (h:=d) C.S J.out (by omega) ((C.iff _ _ a7.out).1 (by rw[<-HX.out,<-HY.out];exact U)));rw[U];go_wp2;have L:=HG.out
     go_roundg (d-p)
     case measure=>omega
     case rel=>exact⟨p,d,by omega,by omega,by omega,rfl,rfl,rfl,a4,HL,hl,a5⟩
    ·have hl:=hid (aMs (h:=d) C.S J.out (by omega) (by omega) (fun h=>U (by rw[HX.out,HY.out];exact(C.iff _ _ a7.out).2 h)));have b4:I x y=false:=by simpa using U
     rw[b4];go_wp2;have L:=HG.out
     go_roundg (q-(d+1))
     case measure=>omega
     case rel=>exact⟨d+1,q,by omega,by omega,a0,rfl,by go_num,rfl,a4,hl,HH,a5⟩
  ·have V:q=p:=by omega
   subst V;have HM:=hid (aMn J.out a9 a0 HL.out HH.out);clear HL HH;go_wp2
   go_loopg [17] (m-q) (fun gh k wr=>∃p:Nat,q<=p/\p<=m/\gh=p-q/\k=.int .i64 p/\Dat wr g cap n (cW f p m (m+1))/\w.grownBy wr (some g))
   case atStart=>exact⟨m,a0,aD _,rfl,rfl,by rw[aM3];exact A,F⟩
   case round=>
    clear A F;obtain⟨p,c6,c7,a1,rfl,A,F⟩:=hrel;have b5:=hid a1;clear a1
    by_cases b6:q<p
    ·have t1:decide (q<p)=true:=by simpa using b6
     have M:=A.cell (k:=p) (by omega);have O:=A.cell (k:=p-1) (by omega);have f1:=A.free p;have f2:=A.free (p-1);have e:=aM4 f (p-1) m (by omega);rw[show p-1+1=p by omega] at e;obtain⟨x,G⟩:∃x,x=cW f p m (m+1) p:=⟨_,rfl⟩;obtain⟨y,H⟩:∃y,y=cW f p m (m+1) (p-1):=⟨_,rfl⟩;rw[<-G] at M e;rw[<-H] at O e;have E3:=hid e;clear G H e;have s1:aJ.wrap ((p:Int)-1)=(p:Int)-1:=yM _ (by omega);have s2:((p:Int)-1).toNat=p-1:=by omega
     have s3:(0:Int)<=(p:Int)-1:=by omega
     have s4:(p:Int)-1<(n:Int):=by omega
     have s5:p<n:=by omega
     have s6:(1:Int)<=(p:Int):=by omega
     have s7:1<=p:=by omega
     have s8:0<p:=by omega
     have s9:(p:Int)<=(n:Int):=by omega
     have c8:p<=n:=by omega
     have c9:p≠p-1:=by omega
     go_wp2
     go_region
     all_goals go_wp2
     have a1:=b5.out
     go_roundg (p-1-q)
     case measure=>omega
     case rel=>
      refine⟨p-1,by omega,by omega,rfl,congrArg _ (by omega),?_,qP (eU (eU F (gD _ _ _ _)) (gD _ _ _ _))⟩;rw[E3.out];exact((A.set p y).set (p-1) x).drew
    ·have V:p=q:=by omega
     have t1:decide (q<p)=false:=by simp;omega
     rw[V] at A;clear V;go_wp2;refine fM (tI rfl _ _ _) rfl ?_;exact⟨rfl,⟨_,HM.out,A⟩,F⟩
end
end Go.Proofs.YtihbnmlinkbnkaaGreatDoor
