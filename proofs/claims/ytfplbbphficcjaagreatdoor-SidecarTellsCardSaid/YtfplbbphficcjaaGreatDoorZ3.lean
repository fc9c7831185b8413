/-
  Texts put together (part 3): the walks and the plain laws on which the statement stands.
-/
import Derived.Laws.BitsAllLaws
import Derived.Laws.Bits64
import Derived.Test.YtfplbbphficcjaaGreatDoorZ1
set_option maxRecDepth 100000
set_option maxHeartbeats 12800000
set_option linter.unusedVariables false
set_option linter.unusedSimpArgs false
open Go.Proofs.Tryz
open Go.Proofs.Tryz renaming prog->pG
open Decidable renaming not_not->eB
open Go.IntKind renaming u64->eZ,u8->oQ
open Go.RowKit.Below renaming refl->aH
open Go.Value renaming int->bQ
open List renaming append_assoc->bU,countP_cons->aLg,getD_eq_getElem?_getD->bV,getElem?_eq_getElem->aN,getElem?_eq_none->fZ,length_append->aL,length_map->aS,length_singleton->fQ,map_congr_left->vH,map_cons->kI,map_replicate->DM,mem_cons_of_mem->iQ,mem_cons_self->jK,range->eT,replicate->aX,sum_cons->xB,take_append_drop->kH
open Nat renaming le_refl->aD,lt_of_lt_of_le->fB,mod_eq_of_lt->jT,mul_assoc->DK,mul_comm->pE,pow_le_pow_right->nF,pow_pos->DN,pow_succ->oP,testBit_lt_two_pow->bGj,zero_le->aO
open UInt8 renaming ofNat->eA,toNat_ofNat'->nD
namespace Go.Proofs.YtfplbbphficcjaaGreatDoor
section
def dO (s:List UInt8) (i:Nat):Bool:=(s.getD (i/8) 0).toNat.testBit (7-i%8)
def xN (l:List Bool):Nat:=(eT 8).foldl (fun n k=>2*n+(l.getD k false).toNat) 0
def zG (l:List Bool):UInt8:=eA (xN l)
def aI (l:List Bool):List UInt8:=(eT ((l.length+7)/8)).map (fun j=>zG (l.drop (8*j)))
theorem iJ (l:List Bool):(aI l).length=(l.length+7)/8:=by simp[aI]
theorem aSp (l:List Bool):xN l<256:=by
 unfold xN;simp only[eT,eT.loop,List.foldl];have h:∀b:Bool,b.toNat<=1:=fun b=>by cases b<;>decide
 grind
theorem aSq:∀d e h A D F G H:Bool,∀k:Fin 8,(2*(2*(2*(2*(2*(2*(2*(2*0+d.toNat)+e.toNat)+h.toNat)+A.toNat)+D.toNat)+F.toNat)+G.toNat)+H.toNat).testBit (7-k.val)=[d,e,h,A,D,F,G,H][k]:=by decide+kernel
theorem aSr (l:List Bool) (k:Nat) (d:k<8):(xN l).testBit (7-k)=l.getD k false:=by
 unfold xN;simp only[eT,eT.loop,List.foldl];have:=aSq (l.getD 0 false) (l.getD 1 false) (l.getD 2 false) (l.getD 3 false) (l.getD 4 false) (l.getD 5 false) (l.getD 6 false) (l.getD 7 false) ⟨k,d⟩
 grind
theorem aSs (l:List Bool):(zG l).toNat=xN l:=by grind [zG,nD,jT,aSp,xN]
theorem tR (l:List Bool) (i:Nat):dO (aI l) i=l.getD i false:=by
 unfold dO
 by_cases h:i/8<(l.length+7)/8
 ·grind [aI,zG,aSs,aSr,dO]
 ·have e:(aI l).getD (i/8) 0=0:=by
   rw[bV,fZ (by rw[iJ];omega)];rfl
  rw[e,bV,fZ (by omega)];simp
theorem aSt {a b:UInt8} (h:∀k,k<8->a.toNat.testBit (7-k)=b.toNat.testBit (7-k)):a=b:=by
 apply UInt8.toNat_inj.1;apply Nat.eq_of_testBit_eq;intro i
 by_cases d:i<8
 ·have:=h (7-i) (by omega)
  grind
 ·have e:a.toNat<2^i:=fB a.toNat_lt (nF (by decide) (by omega));have A:b.toNat<2^i:=fB b.toNat_lt (nF (by decide) (by omega))
  grind [bGj]
theorem BS {s t:List UInt8} (d:s.length=t.length) (h:∀i,i<8*s.length->dO s i=dO t i):s=t:=by
 apply List.ext_getElem d;intro j e A;apply aSt;intro k D;have:=h (8*j+k) (by omega);unfold dO at this;rw[show(8*j+k)/8=j by omega,show(8*j+k)%8=k by omega] at this
 grind
def eR (s:List UInt8):List Bool:=(eT (8*s.length)).map (dO s)
theorem qU (s:List UInt8):(eR s).length=8*s.length:=by simp[eR]
theorem wA (s:List UInt8) (i:Nat):(eR s)[i]? =if i<8*s.length then some (dO s i) else none:=by grind [eR,dO]
theorem EL (s t:List UInt8) (i:Nat):dO (s++t) i=if i<8*s.length then dO s i else dO t (i-8*s.length):=by grind [dO]
theorem aSu (l:List Bool):(eR (aI l)).take l.length=l:=by
 apply List.ext_getElem?
 grind [wA,iJ,tR,eR,aI]
def dG (l:List Bool):Nat:=l.foldl (fun v b=>2*v+b.toNat) 0
theorem wB (l:List Bool) (b:Bool):dG (l++[b])=2*dG l+b.toNat:=by simp[dG]
theorem EM {α:Type} {P:List α->Prop} (d:P []) (e:∀l b,P l->P (l++[b])):∀l,P l:=fun l=>by
 have h:∀m:List α,P m.reverse:=fun m=>by
  induction m with
  |nil=>exact d
  |cons b m A=>rw[List.reverse_cons];exact e _ _ A
 have:=h l.reverse
 grind
theorem wC (l:List Bool):dG l<2^l.length:=by
 refine EM (P:=fun l=>dG l<2^l.length) (by decide) (fun l b d=>?_) l
 ·rw[wB,aL,fQ,oP];have:b.toNat<=1:=by cases b<;>decide
  omega
def aT (v n:Nat):List Bool:=(eT n).map (fun i=>v.testBit (n-1-i))
theorem dV (v n:Nat):(aT v n).length=n:=by simp[aT]
theorem KI (v n i:Nat) (h:i<n):(aT v n)[i]? =some (v.testBit (n-1-i)):=by simp[aT,h]
theorem KJ (l:List Bool):∀i,i<l.length->(dG l).testBit i=l.getD (l.length-1-i) false:=by
 refine EM (P:=fun l=>∀i,i<l.length->(dG l).testBit i=l.getD (l.length-1-i) false) (fun i h=>by simp at h) (fun l b d=>?_) l
 ·intro i e;rw[wB];simp only[aL,fQ] at e ⊢
  cases i with
  |zero=>
   rw[bV,List.getElem?_append_right (by omega)];simp only[Nat.add_sub_cancel,Nat.sub_zero,Nat.sub_self,List.getElem?_cons_zero,Option.getD_some];rw[Nat.testBit_zero]
   cases b<;>simp<;>omega
  |succ i=>
   rw[Nat.testBit_succ,show(2*dG l+b.toNat)/2=dG l by cases b<;>simp<;>omega,d i (by omega)];rw[bV,bV,List.getElem?_append_left (by omega)]
   congr 2;omega
theorem RA (l:List Bool):aT (dG l) l.length=l:=by
 apply List.ext_getElem (dV _ _)
 grind [KI,dG,KJ,aT]
theorem aBt {v n:Nat} (h:v<2^n):dG (aT v n)=v:=by
 apply Nat.eq_of_testBit_eq
 grind [KJ,dV,KI,bGj,fB,nF,wC,aT,dG]
def cL (l:List Int) (n:Nat):Nat:=l.countP (fun x=>x==(n:Int))
def gY (l:List Int):Nat->Nat
 |0=>0
 |n+1=>2*(gY l n+cL l n)
def gM (l:List Int):Prop:=2<=l.length/\l.length<=258/\∀x∈l,1<=x/\x<=20
instance (l:List Int):Decidable (gM l):=inferInstanceAs (Decidable (2<=l.length/\l.length<=258/\∀x∈l,1<=x/\x<=20))
def kZ (l:List Int):Nat:=(l.map (fun x=>2^(20-x.toNat))).sum
def bM (l:List Int):Int:=if ¬gM l then 1 else if kZ l>1048576 then 6 else 0
theorem gE {l:List Int} (h:bM l=0):gM l/\kZ l<=1048576:=by grind [bM,gM,kZ]
theorem aSw {l:List Int} (d:gM l) (e:kZ l<=1048576):bM l=0:=by grind [bM,gM,kZ]
theorem aBv {l:List Int} (h:∀x∈l,1<=x):cL l 0=0:=by grind [cL]
theorem aBw {l:List Int} (h:∀x∈l,1<=x):gY l 1=0:=by grind [gY,aBv]
def pN (l:List Int) (n:Nat):Nat:=(l.map (fun x=>if x.toNat<=n then 2^(n-x.toNat) else 0)).sum
theorem aBx (l:List Int) (n:Nat) (h:∀x∈l,1<=x):pN l (n+1)=2*pN l n+cL l (n+1):=by
 induction l with
 |nil=>rfl
 |cons x l d=>
  have d:=d (fun y e=>h y (iQ _ e));have D:=h x (jK ..);unfold pN cL at*
  simp only[kI,xB,aLg];rw[d]
  by_cases A:x.toNat<=n
  ·rw[aB A,aB (by omega),aA (by simp;omega),show n+1-x.toNat=n-x.toNat+1 by omega,oP];omega
  ·grind
theorem aBy (l:List Int) (h:∀x∈l,1<=x):∀n,pN l n=gY l n+cL l n:=by
 intro n
 induction n with
 |zero=>
  have:pN l 0=cL l 0:=by
   induction l with
   |nil=>rfl
   |cons x l d=>
    have d:=d (fun y e=>h y (iQ _ e));have A:=h x (jK ..);unfold pN cL at*
    simp only[kI,xB,aLg,d];rw[aA (by omega),aA (by simp;omega)];omega
  rw[this];unfold gY;omega
 |succ n d=>rw[aBx l n h,d];rfl
theorem aBz (l:List Int) (n k:Nat):pN l n*2^k<=pN l (n+k):=by
 unfold pN
 induction l with
 |nil=>simp
 |cons x l d=>
  simp only[kI,xB];rw[Nat.add_mul];refine Nat.add_le_add ?_ d
  by_cases h:x.toNat<=n
  ·rw[aB h,aB (by omega),<-Nat.pow_add,show n-x.toNat+k=n+k-x.toNat by omega];simp
  ·grind
theorem RB {l:List Int} (h:∀x∈l,1<=x/\x<=20):pN l 20=kZ l:=by grind [pN,kZ,vH]
theorem aB0 {l:List Int} (h:∀x∈l,1<=x/\x<=20) (A:kZ l<=1048576) {n:Nat} (D:n<=20):gY l n+cL l n<=2^n:=by
 rw[<-aBy l (fun x d=>(h x d).1)];have:=aBz l n (20-n);rw[show n+(20-n)=20 by omega,RB h] at this;have F:2^n*2^(20-n)=1048576:=by rw[<-Nat.pow_add,show n+(20-n)=20 by omega]
 have e:pN l n*2^(20-n)<=2^n*2^(20-n):=by omega
 exact Nat.le_of_mul_le_mul_right e (DN (by decide))
def sS (l:List Int):Nat->Int
 |0=>1-(cL l 0:Int)
 |n+1=>2*sS l n-(cL l (n+1):Int)
theorem RC (l:List Int) (h:∀x∈l,1<=x):∀n,sS l n=2^n-(pN l n:Int):=by
 intro n
 induction n with
 |zero=>
  have:pN l 0=cL l 0:=by rw[aBy l h];unfold gY;omega
  unfold sS;rw[this];rfl
 |succ n d=>
  unfold sS;rw[d,aBx l n h];rw[Int.pow_succ];push_cast;omega
theorem aSx {l:List Int} (h:∀x∈l,1<=x/\x<=20) {n:Nat} (D:n<=20) (d:sS l n<0):1048576<kZ l:=by
 rw[RC l (fun x e=>(h x e).1)] at d;have A:2^n<pN l n:=by grind
 have:=aBz l n (20-n);rw[show n+(20-n)=20 by omega,RB h] at this;have F:2^n*2^(20-n)=1048576:=by rw[<-Nat.pow_add,show n+(20-n)=20 by omega]
 have G:(2^n+1)*2^(20-n)<=pN l n*2^(20-n):=Nat.mul_le_mul_right _ A
 grind
theorem aSy {l:List Int} (h:∀x∈l,1<=x/\x<=20) (d:∀n,n<=20->0<=sS l n):kZ l<=1048576:=by
 have:=d 20 (aD _)
 grind [RC,RB,sS,kZ]
theorem aSz {l:List Int} (h:∀x∈l,1<=x) {n:Nat}:sS l n<=2^n:=by
 rw[RC l h];omega
def bL (l:List Int) (s:Nat):Nat:=(l.getD s 0).toNat
def gZ (l:List Int) (s:Nat):Nat:=gY l (bL l s)+cL (l.take s) (bL l s)
theorem lX {l:List Int} (h:gM l) {s:Nat} (d:s<l.length):1<=bL l s/\bL l s<=20/\l[s]? =some ((bL l s:Nat):Int):=by
 have:=h.2.2 l[s] (List.getElem_mem d);unfold bL
 grind
theorem KK {l:List Int} {s:Nat} (d:s<l.length) {n:Nat} (e:l[s]? =some (n:Int)):cL (l.take s) n<cL l n:=by grind [cL,List.getElem_cons_drop,kH,aN]
theorem KL {l:List Int} (h:gM l) {s:Nat} (d:s<l.length):gY l (bL l s)<=gZ l s/\gZ l s<gY l (bL l s)+cL l (bL l s):=by
 have:=KK d (lX h d).2.2;unfold gZ;omega
theorem RD {l:List Int} (h:gM l) (e:kZ l<=1048576) {s:Nat} (d:s<l.length):gZ l s<2^bL l s:=by
 have:=KL h d;have:=aB0 h.2.2 e (lX h d).2.1;omega
theorem aS0 (l:List Int) (n k:Nat):(gY l n+cL l n)*2^(k+1)<=gY l (n+k+1):=by
 induction k with
 |zero=>show _<=2*(gY l n+cL l n);rw[pE];exact aD _
 |succ k d=>
  show _<=2*(gY l (n+(k+1))+_);rw[oP,<-DK];have e:n+(k+1)=n+k+1:=by omega
  rw[e];omega
def qG (l:List Int) (n m:Nat):List Nat:=(eT m).filter (fun s=>l.getD s 0==(n:Int))
theorem RF (l:List Int) (n m:Nat):qG l n (m+1)=qG l n m++if l.getD m 0==(n:Int) then[m] else[]:=by grind [qG,List.range_succ]
theorem KM {l:List Int} {m:Nat} (d:m<l.length) (n:Nat):cL (l.take (m+1)) n=cL (l.take m) n+if l.getD m 0==(n:Int) then 1 else 0:=by grind [cL,List.take_add_one,aN]
theorem KN (l:List Int) (n:Nat):∀m,m<=l.length->(qG l n m).length=cL (l.take m) n:=by
 intro m
 induction m with
 |zero=>intro _;rfl
 |succ m d=>
  intro e;rw[RF,aL,d (by omega),KM (by omega)];split<;>rfl
theorem aB1 (l:List Int) (n:Nat):∀m,m<=l.length->∀k s,(qG l n m)[k]? =some s->s<m/\l.getD s 0=(n:Int)/\cL (l.take s) n=k:=by
 intro m
 induction m with
 |zero=>intro _ k s h;simp[qG] at h
 |succ m d=>
  intro e k s h;rw[RF] at h
  by_cases A:k<(qG l n m).length
  ·grind
  ·grind [qG,KN,cL]
def seg (s:List UInt8) (a n:Nat):List Bool:=((eR s).drop a).take n
theorem BT {s:List UInt8} {a n:Nat} (h:a+n<=8*s.length):(seg s a n).length=n:=by grind [seg,qU]
theorem aS1 (l m:List Bool):dG (l++m)=dG l*2^m.length+dG m:=by
 refine EM (P:=fun m=>dG (l++m)=dG l*2^m.length+dG m) (by simp[dG]) (fun m b d=>?_) m;rw[<-bU,wB,wB,d,aL,fQ,oP,<-DK];omega
theorem aB2 {s:List UInt8} {a n k:Nat}:seg s a (n+k)=seg s a n++seg s (a+n) k:=by grind [seg,List.drop_drop]
theorem aS2 {s:List UInt8} {a n k:Nat} (h:a+(n+k)<=8*s.length):dG (seg s a (n+k))/2^k=dG (seg s a n):=by
 rw[aB2,aS1,BT (by omega)];have d:=wC (seg s (a+n) k);rw[BT (by omega)] at d;rw[pE,Nat.mul_add_div (DN (by decide)),Nat.div_eq_of_lt d,Nat.add_zero]
def lA (l:List Int) (s:List UInt8) (a i:Nat):Prop:=a+bL l i<=8*s.length/\dG (seg s a (bL l i))=gZ l i
instance (l:List Int) (s:List UInt8) (a i:Nat):Decidable (lA l s a i):=inferInstanceAs (Decidable (_/\_))
theorem aB3 {l:List Int} (d:gM l) {s:List UInt8} {a i j:Nat} (A:i<l.length) (D:j<l.length) (F:lA l s a i) (h:lA l s a j):¬bL l i<bL l j:=by
 intro J;obtain⟨k,G⟩:∃k,bL l j=bL l i+(k+1):=⟨bL l j-bL l i-1,by omega⟩;have L:=(KL d A).2;have M:=(KL d D).1;have H:=aS0 l (bL l i) k;have e:bL l i+k+1=bL l j:=by omega
 rw[e] at H;have I:=aS2 (s:=s) (a:=a) (n:=bL l i) (k:=k+1) (by have:=h.1;omega);rw[<-G,h.2,F.2] at I;have:gY l (bL l i)+cL l (bL l i)<=gZ l j/2^(k+1):=by
  rw[Nat.le_div_iff_mul_le (DN (by decide))];omega
 omega
theorem KO {l:List Int} {i j n:Nat} (e:i<j) (A:j<l.length) (D:l[i]? =some (n:Int)):cL (l.take i) n<cL (l.take j) n:=by
 have d:(l.take j)[i]? =some (n:Int):=by grind
 have h:=KK (l:=l.take j) (s:=i) (by grind) d
 grind
theorem aS3 {l:List Int} (d:gM l) {s:List UInt8} {a i j:Nat} (A:i<l.length) (D:j<l.length) (G:lA l s a i) (H:lA l s a j):i=j:=by
 have J:=aB3 d A D G H;have L:=aB3 d D A H G;have e:bL l i=bL l j:=by omega
 have I:=G.2;rw[e,H.2] at I;unfold gZ at I;rw[e] at I;rcases Nat.lt_trichotomy i j with h|h|h
 ·have F:=(lX d A).2.2;rw[e] at F;have:=KO h D F;omega
 ·exact h
 ·have F:=(lX d D).2.2;have:=KO h A F;omega
def mQ (l:List Int):Int:=l.foldl max 0
def dE (l:List Int) (s:List UInt8) (at':Int):Int×Int×Int:=
 if bM l≠0 then(0,0,bM l)
 else if at'<0 then(0,0,1)
 else match (eT l.length).find? (fun i=>decide (lA l s at'.toNat i)) with
  |some i=>((i:Int),at'+(bL l i:Int),0)
  |none=>if at'>8*(s.length:Int)-mQ l then(0,0,2) else(0,0,3)
theorem zH {l:List Int} (d:bM l=0) {s:List UInt8} {a i:Nat} (e:i<l.length) (h:lA l s a i):dE l s (a:Int)=((i:Int),(a:Int)+(bL l i:Int),0):=by grind [dE,Int.toNat_natCast,eT,lA,List.find?_eq_none,List.mem_of_find?_eq_some,aS3,gE,bM,bL]
theorem zI {l:List Int} (d:bM l=0) {s:List UInt8} {a:Nat} (h:∀i,i<l.length->¬lA l s a i):dE l s (a:Int)=if(a:Int)>8*(s.length:Int)-mQ l then(0,0,2) else(0,0,3):=by grind [dE,lA,bM,mQ]
def aP (n:Nat) (at':Int) (k:Nat):Int:=if at'<0 then 1 else if 8*(n:Int)-(k:Int)<at' then 2 else 0
def aK (s:List UInt8) (at':Int) (k:Nat):Nat:=if aP s.length at' k=0 then dG (seg s at'.toNat k) else 0
theorem iG {n:Nat} {at':Int} {k:Nat} (h:aP n at' k=0):0<=at'/\at'.toNat+k<=8*n/\at'+(k:Int)<=8*(n:Int):=by grind [aP]
theorem jV (s:List UInt8) (at':Int) (k:Nat):aK s at' k<2^k:=by
 unfold aK;split
 ·next h=>
  have:=iG h
  grind [wC,seg,BT,aK]
 grind
def iK (s:List UInt8) (k:Nat):List Bool:=(eT 16).map (fun i=>dZ s (16*k+i))
theorem zJ (s:List UInt8) (k:Nat):(iK s k).length=16:=by simp[iK]
def lP (s:List UInt8) (k:Nat):Bool:=(iK s k).any id
theorem EN (l:List Bool):dG l=0↔l.any id=false:=by
 refine EM (P:=fun l=>dG l=0↔l.any id=false) (by decide) (fun l b d=>?_) l
 grind [wB,dG]
def pO (s:List UInt8):List Bool:=(eT 16).map (lP s)
def iA (s:List UInt8):Nat->List Bool
 |0=>[]
 |k+1=>iA s k++if lP s k then iK s k else[]
def iL (s:List UInt8):List Bool:=pO s++iA s 16
theorem KP (s:List UInt8):∀k,(iA s k).length<=16*k
 |0=>by simp[iA]
 |k+1=>by
  have:=KP s k
  grind [iA,zJ]
theorem KR (s:List UInt8):(iL s).length<=272:=by grind [KP,iL,pO]
def nJ (v k:Nat):Nat->List UInt8
 |0=>[]
 |i+1=>nJ v k i++if v.testBit (15-i) then[eA (16*k+i)] else[]
def dQ (s:List UInt8) (at':Int):Nat->List UInt8×Int×Bool×Int
 |0=>([],at'+16,aK s at' 16==0,aP s.length at' 16)
 |k+1=>
  let p:=dQ s at' k
  if p.2.2.2≠0 then p
  else if(aK s at' 16).testBit (15-k) then
   if aP s.length p.2.1 16≠0 then(p.1,p.2.1,p.2.2.1,aP s.length p.2.1 16)
   else(p.1++nJ (aK s p.2.1 16) k 16,p.2.1+16,p.2.2.1||aK s p.2.1 16==0,0)
  else p
def dF (s:List UInt8) (at':Int):List UInt8×Int×Int:=
 let p:=dQ s at' 16
 if p.2.2.2≠0 then([],0,p.2.2.2) else if p.2.2.1 then([],0,3) else(p.1,p.2.1,0)
theorem KS (v k:Nat):∀i,(nJ v k i).length<=i
 |0=>by simp[nJ]
 |i+1=>by
  have:=KS v k i
  grind [nJ]
theorem EO (s:List UInt8) (at':Int):∀k,(dQ s at' k).1.length<=16*k/\((dQ s at' k).2.2.2=0->at'+16<=(dQ s at' k).2.1/\(dQ s at' k).2.1<=at'+16+16*k)
 |0=>⟨by simp[dQ],fun _=>by simp[dQ]⟩
 |k+1=>by
  obtain⟨d,e⟩:=EO s at' k
  grind [dQ,KS,aK]
end
section
open Go.RowKit Go
theorem aEa (x j:Nat):x/2^j%2=(x.testBit j).toNat:=by grind
theorem CE (x j:Nat):(x:Int)/2^j=((x/2^j:Nat):Int):=by simp
theorem FA (x j:Nat):((x:Int)/2^j).tmod 2=((x.testBit j).toNat:Int):=by grind
theorem aV2:∀x:Fin 256,∀k:Fin 8,((x.val*2^k.val%256)&&&128)=if x.val.testBit (7-k.val) then 128 else 0:=by decide+kernel
theorem aV3 (x k:Nat) (d:x<256) (A:k<8):bits .and .u8 (oQ.wrap ((x:Int)*2^k)) 128=if x.testBit (7-k) then 128 else 0:=by
 have e:((2:Int)^k)=((2^k:Nat):Int):=by push_cast;rfl
 have h:oQ.wrap ((x:Int)*2^k)=((x*2^k%256:Nat):Int):=by
  rw[IntKind.wrap_u8',e,<-Int.natCast_mul];omega
 rw[h,show(128:Int)=((128:Nat):Int) from rfl,u8_and_nat _ _ (Nat.mod_lt _ (by decide)) (by decide),aV2 ⟨x,d⟩ ⟨k,A⟩];split<;>rfl
theorem SU (v:Nat) (b:Bool) (h:2*v<18446744073709551616):bits .or .u64 (eZ.wrap ((v:Int)*2)) (b.toNat:Int)=((2*v+b.toNat:Nat):Int):=by
 have d:eZ.wrap ((v:Int)*2)=((2*v:Nat):Int):=by rw[IntKind.wrap_u64];omega
 have e:b.toNat<2:=by cases b<;>decide
 rw[d,u64_or_nat _ _ h (by omega),nat_join 1 (2*v) b.toNat (by omega) (by simpa using e)]
end
section
def mR (d x:Int):List Bool:=(aX (x-d).toNat [true,false]).flatten++(aX (d-x).toNat [true,true]).flatten++[false]
def fR (d:Int):List Int->List Bool
 |[]=>[]
 |x::l=>mR d x++fR x l
theorem KU (x:Int):∀(l:List Int) (d:Int),fR d (l++[x])=fR d l++mR (l.getLastD d) x
 |[],d=>by simp[fR]
 |y::l,d=>by
  show mR d y++fR y (l++[x])=(mR d y++fR y l)++_;rw[KU x l y,bU]
  grind
def fI (l:List Int):List Bool:=aT (l.getD 0 0).toNat 5++fR (l.getD 0 0) l
theorem aS5 (d x:Int) (e:1<=d) (h:d<=20) (A:1<=x) (D:x<=20):(mR d x).length<=39:=by grind [mR,aL,List.length_flatten,DM,List.sum_replicate_nat,List.length_cons,List.length_nil]
theorem KV:∀(l:List Int) (d:Int),1<=d->d<=20->(∀x∈l,1<=x/\x<=20)->(fR d l).length<=39*l.length
 |[],_,_,_,_=>by simp[fR]
 |x::l,d,D,F,h=>by
  have e:=h x (jK ..);have:=KV l x e.1 e.2 (fun y A=>h y (iQ _ A))
  grind [aS5,fR]
def lQ (s:List UInt8):Nat->Int->Int->Int×Int×Int
 |0,_,_=>(0,0,2)
 |f+1,at',n=>
  if aP s.length at' 1≠0 then(0,0,aP s.length at' 1)
  else if aK s at' 1=0 then(n,at'+1,0)
  else if aP s.length (at'+1) 1≠0 then(0,0,aP s.length (at'+1) 1)
  else
   let m:=if aK s (at'+1) 1=0 then n+1 else n-1
   if m<1\/20<m then(0,0,3) else lQ s f (at'+2) m
def fS (s:List UInt8) (at' n:Int):Int×Int×Int:=lQ s (8*s.length+2) at' n
theorem RG (s:List UInt8):∀(f g:Nat) (at' n:Int),0<=at'->8*(s.length:Int)+1-at'<=f->8*(s.length:Int)+1-at'<=g->1<=f->1<=g->lQ s f at' n=lQ s g at' n
 |0,_,_,_,_,_,_,h,_=>by omega
 |_,0,_,_,_,_,_,_,h=>by omega
 |f+1,g+1,at',n,D,F,G,_,_=>by
  unfold lQ;split
  ·rfl
  ·next e=>
   have e:=iG (eB.1 e);split
   ·rfl
   ·split
    ·rfl
    ·next A=>
     have A:=iG (eB.1 A);simp only
     generalize (if aK s (at'+1) 1=0 then n+1 else n-1)=m
     by_cases d:m<1\/20<m
     ·rw[aB d,aB d]
     ·rw[aA d,aA d];exact RG s f g _ _ (by omega) (by omega) (by omega) (by omega) (by omega)
theorem BU (s:List UInt8) (at' n:Int) (d:0<=at'):fS s at' n=
  if aP s.length at' 1≠0 then(0,0,aP s.length at' 1)
  else if aK s at' 1=0 then(n,at'+1,0)
  else if aP s.length (at'+1) 1≠0 then(0,0,aP s.length (at'+1) 1)
  else if(if aK s (at'+1) 1=0 then n+1 else n-1)<1\/20<(if aK s (at'+1) 1=0 then n+1 else n-1) then(0,0,3)
  else fS s (at'+2) (if aK s (at'+1) 1=0 then n+1 else n-1):=by grind [fS,lQ,iG,aK,RG,aP]
theorem KW (s:List UInt8):∀(f:Nat) (at' n:Int),0<=at'->1<=n->n<=20->(lQ s f at' n).2.2=0->1<=(lQ s f at' n).1/\(lQ s f at' n).1<=20/\at'<(lQ s f at' n).2.1/\(lQ s f at' n).2.1<=8*(s.length:Int)
 |0,_,_,_,_,_,h=>by unfold lQ at h;simp at h
 |f+1,at',n,A,D,F,h=>by
  unfold lQ at h ⊢;split at h
  ·grind
  ·next q=>
   have G:=iG (eB.1 q);rw[aA q];split at h
   ·grind
   ·next k=>
    rw[aA k];split at h
    ·grind
    ·next e=>
     rw[aA e];simp only at h ⊢;generalize (if aK s (at'+1) 1=0 then n+1 else n-1)=m at h ⊢
     by_cases d:m<1\/20<m
     ·rw[aB d] at h;simp at h
     ·rw[aA d] at h ⊢;have:=KW s f (at'+2) m (by omega) (by omega) (by omega) h;omega
def bC (s:List UInt8) (at':Int):Nat->List Int×Int×Int×Int
 |0=>([],(aK s at' 5:Int),at'+5,if aP s.length at' 5≠0 then aP s.length at' 5 else if(aK s at' 5:Int)<1\/20<(aK s at' 5:Int) then 3 else 0)
 |k+1=>
  let p:=bC s at' k
  if p.2.2.2≠0 then p
  else let q:=fS s p.2.2.1 p.2.1
   if q.2.2≠0 then(p.1,p.2.1,p.2.2.1,q.2.2) else(p.1++[q.1],q.1,q.2.1,0)
def gS (s:List UInt8) (at':Int) (n:Int):List Int×Int×Int:=
 if at'<0\/n<2\/258<n then([],0,1)
 else let p:=bC s at' n.toNat
  if p.2.2.2≠0 then([],0,p.2.2.2) else(p.1,p.2.2.1,0)
theorem EP (s:List UInt8) (at':Int) (A:0<=at'):∀k,(bC s at' k).2.2.2=0->(bC s at' k).1.length=k/\(∀x∈(bC s at' k).1,1<=x/\x<=20)/\(1<=(bC s at' k).2.1/\(bC s at' k).2.1<=20)/\at'<(bC s at' k).2.2.1/\(bC s at' k).2.2.1<=8*(s.length:Int)
 |0,h=>by
  unfold bC at h ⊢;simp only at h ⊢;split at h
  ·grind
  ·next q=>
   have D:=iG (eB.1 q)
   grind
 |k+1,h=>by
  unfold bC at h ⊢;simp only at h ⊢;split at h
  ·grind
  ·next q=>
   obtain⟨F,G,d,H,I⟩:=EP s at' A k (eB.1 q);rw[aA q];split at h
   ·grind
   ·next e=>
    rw[aA e];have:=KW s _ (bC s at' k).2.2.1 (bC s at' k).2.1 (by omega) d.1 d.2 (eB.1 e)
    grind [fS,bC]
theorem aB4 {a c:List UInt8} {i:Nat} (h:i<a.length):gC (a++c) i=gC a i++c:=by grind [gC]
theorem aB5:∀(l:List Int) (a c:List UInt8),(∀x∈l,0<=x/\x<(a.length:Int))->unL (a++c) l=unL a l/\unA (a++c) l=unA a l++c
 |[],_,_,_=>⟨rfl,rfl⟩
 |x::l,a,c,h=>by
  have d:=h x (jK ..);have e:=aB5 l (gC a x.toNat) c (fun y A=>by grind [BF,unL,unA])
  grind [gC,aB4,unL,unA]
def cT (n:Nat):List UInt8:=(eT n).map eA
theorem sT (n:Nat):(cT n).length=n:=by simp[cT]
theorem RH {n:Nat} (h:n<=6):cT 6=cT n++(cT 6).drop n:=by
 have e:(cT 6).take n=cT n:=by
  unfold cT;rw[<-List.map_take,List.take_range,Nat.min_eq_left h]
 rw[<-e,kH]
theorem RI {n:Nat} (h:n<=6) (b:UInt8):b∈cT n↔b.toNat<n:=by
 unfold cT;rw[List.mem_map];constructor
 ·grind [nD,jT,cT]
 ·intro d;exact⟨b.toNat,List.mem_range.2 d,by simp⟩
def oC (p:Int):List Bool:=aX p.toNat true++[false]
def eW (l:List Int):List Bool:=l.flatMap oC
theorem RJ (l:List Int) (p:Int):eW (l++[p])=eW l++oC p:=by simp[eW,oC]
def lY (s:List UInt8) (tables:Int):Nat->Int->Int->Int×Int×Int
 |0,_,_=>(0,0,2)
 |f+1,at',n=>
  if aP s.length at' 1≠0 then(0,0,aP s.length at' 1)
  else if aK s at' 1=0 then(n,at'+1,0)
  else if n+1=tables then(0,0,3)
  else lY s tables f (at'+1) (n+1)
def kN (s:List UInt8) (tables at' n:Int):Int×Int×Int:=lY s tables (8*s.length+2) at' n
theorem RK (s:List UInt8) (tables:Int):∀(f g:Nat) (at' n:Int),0<=at'->8*(s.length:Int)+1-at'<=f->8*(s.length:Int)+1-at'<=g->1<=f->1<=g->lY s tables f at' n=lY s tables g at' n
 |0,_,_,_,_,_,_,h,_=>by omega
 |_,0,_,_,_,_,_,_,h=>by omega
 |f+1,g+1,at',n,e,A,D,_,_=>by
  unfold lY;split
  ·rfl
  ·next d=>
   have d:=iG (eB.1 d);split
   ·rfl
   ·split
    ·rfl
    ·exact RK s tables f g _ _ (by omega) (by omega) (by omega) (by omega) (by omega)
theorem KX (s:List UInt8) (tables at' n:Int) (d:0<=at'):kN s tables at' n=
  if aP s.length at' 1≠0 then(0,0,aP s.length at' 1)
  else if aK s at' 1=0 then(n,at'+1,0)
  else if n+1=tables then(0,0,3)
  else kN s tables (at'+1) (n+1):=by grind [kN,lY,iG,RK,aP,aK]
theorem KY (s:List UInt8) (tables:Int):∀(f:Nat) (at' n:Int),0<=at'->0<=n->n<tables->(lY s tables f at' n).2.2=0->0<=(lY s tables f at' n).1/\(lY s tables f at' n).1<tables/\at'<(lY s tables f at' n).2.1/\(lY s tables f at' n).2.1<=8*(s.length:Int)
 |0,_,_,_,_,_,h=>by unfold lY at h;simp at h
 |f+1,at',n,e,A,D,h=>by
  unfold lY at h ⊢;split at h
  ·grind
  ·next q=>
   have F:=iG (eB.1 q);rw[aA q];split at h
   ·grind
   ·next k=>
    rw[aA k];split at h
    ·simp at h
    ·next d=>
     rw[aA d];have:=KY s tables f (at'+1) (n+1) (by omega) (by omega) (by omega) h;omega
def dR (s:List UInt8) (tables at':Int):Nat->List Int×Int×Int
 |0=>([],at',0)
 |k+1=>
  let p:=dR s tables at' k
  if p.2.2≠0 then p
  else let q:=kN s tables p.2.1 0
   if q.2.2≠0 then(p.1,p.2.1,q.2.2) else(p.1++[q.1],q.2.1,0)
theorem BV (s:List UInt8) (tables at':Int) (A:0<=at') (d:0<tables):∀k,(dR s tables at' k).2.2=0->(dR s tables at' k).1.length=k/\(∀x∈(dR s tables at' k).1,0<=x/\x<tables)/\at'<=(dR s tables at' k).2.1/\((dR s tables at' k).2.1=at'\/(dR s tables at' k).2.1<=8*(s.length:Int))
 |0,_=>⟨rfl,fun x D=>by grind [dR],Int.le_refl _,.inl rfl⟩
 |k+1,h=>by
  unfold dR at h ⊢;simp only at h ⊢;split at h
  ·grind
  ·next q=>
   obtain⟨F,G,H,I⟩:=BV s tables at' A d k (eB.1 q);rw[aA q];split at h
   ·grind
   ·next e=>
    rw[aA e];have:=KY s tables (8*s.length+2) (dR s tables at' k).2.1 0 (by omega) (by omega) d (eB.1 e)
    grind [kN,dR]
def eD (s:List UInt8) (at' n tables:Int):List Int×Int×Int:=
 if tables<2\/6<tables\/at'<0\/n<0\/1048576<n then([],0,1)
 else let p:=dR s tables at' n.toNat
  if p.2.2≠0 then([],0,p.2.2) else((unL (cT tables.toNat) p.1).map (fun b=>(b.toNat:Int)),p.2.1,0)
end
section
open Go.RowKit
theorem aQq (s:List UInt8) (k:Nat) (d:k<=256):(pL s k).length<=s.length:=by
 rw[JQ,<-ZA s];exact ZB s k 256 d
theorem aQr (s:List UInt8) (c n:Nat):(sM s c n).length<=n:=by grind [sM]
theorem aQs (s:ByteArray) (w:World) (Y:s.size<=1000000000):
  Calls pG 126 #[.string s] w fun e w'=>
   ∃v,e=.returned v/\OwI w' w.heap.size v (vU s.data.toList)/\Below w.heap.size w w':=by
 go_enter func126,ntmps126;go_wp2
 go_loopw [3,4] (fun out c wr=>∃k:Nat,k<=256/\c=.int .i64 k/\OwI wr w.heap.size out ((pL s.data.toList k).map Int.ofNat)/\Below w.heap.size w wr) (fun _ c _=>256-(intOf c).toNat)
 case atStart=>exact⟨0,aO _,rfl,OwI.nil _ _,aH _ _⟩
 case round=>
  obtain⟨k,Z,rfl,F,G⟩:=hrel
  by_cases a0:k<256
  ·obtain⟨H,rfl⟩:∃H:World,H=wr:=⟨_,rfl⟩;have hd:decide ((k:Int)<256)=true:=by simp;omega
   go_wp2
   go_loopw [3,5] (fun out i wr=>∃j:Nat,j<=s.size/\i=.int .i64 j/\OwI wr w.heap.size out ((pL s.data.toList k++sM s.data.toList k j).map Int.ofNat)/\Below w.heap.size w wr) (fun _ i _=>s.size-(intOf i).toNat)
   case atStart=>exact⟨0,aO _,rfl,by simpa [sM] using F,G⟩
   case round=>
    obtain⟨j,hj,rfl,A,d⟩:=hrel
    by_cases L:j<s.size
    ·have hb:s[j].toNat<256:=s[j].toNat_lt;have I:=hid (fW s j L);have M:=aQq s.data.toList k (by omega);have a1:=aQr s.data.toList k j;simp only[Array.length_toList,ByteArray.size_data] at M;go_wp2_with (at_builtin;refine gK rfl _ _ rfl w.heap.size _ _ rfl (A.alloc _) wr.heap.size (j:Int) rfl ?_ ?_ ?_ ?_;(exact bX _ _ _);(simp only[aL,aS];omega);(have:=d.size;simp;omega);intro v' w1 O T a2)
     ·have D:((s[j].toNat:Int)==(k:Int))=true:=by assumption
      have h:=JP s.data.toList k j _ I.out;rw[aB (by have:=eq_of_beq D;omega)] at h
      go_roundw
      case rel=>exact⟨j+1,by omega,by go_num,by rw[h,<-bU,List.map_append];exact O,(d.alloc (by have:=d.size;omega) _).trans T⟩
      case measure=>simp[intOf];omega
     ·have D:((s[j].toNat:Int)==(k:Int))=false:=by assumption
      have h:=JP s.data.toList k j _ I.out;rw[aA (by have:=ne_of_beq_false D;omega),List.append_nil] at h
      go_roundw
      case rel=>exact⟨j+1,by omega,by go_num,by rw[h];exact A,d⟩
      case measure=>simp[intOf];omega
    ·go_wp2
     go_roundw
     case rel=>exact⟨k+1,by omega,by go_num,by
      have U:j=s.data.toList.length:=by simp;omega
      rw[U] at A;simpa [pL] using A,d⟩
     case measure=>simp[intOf];omega
  ·have J:k=256:=by omega
   have V:=hid J;clear J;go_wp2;go_ret;have e:=V.out;subst e;exact⟨_,rfl,by rw[vU,aNr];exact F,G⟩
theorem aQp:Tryz.zeroCells301=(tab 257 (fun _=>0)).toArray:=by kernel_rfl
theorem aA5 (s:ByteArray) (w:World) (hs:s.size<=1000000000):
  Calls pG 198 #[.string s] w fun e w'=>
   ∃v,e=.returned v/\OwI w' w.heap.size v (vU s.data.toList)/\Below w.heap.size w w':=by
 have a1:s.data.toList.length=s.size:=by simp
 have D:=hid a1;clear a1;go_enter func198,ntmps198;go_wp2
 go_loopw [10] (fun i wr=>∃k:Nat,k<=s.size/\i=.int .i64 k/\Arr wr w.heap.size 301 (tab 257 (qC s.data.toList k))/\Below w.heap.size w wr) (fun i _=>s.size-(intOf i).toNat)
 case atStart=>exact⟨0,aO _,rfl,by rw[aNj,aQp];exact Arr.new _ _ _,(aH _ _).alloc (aD _) _⟩
 case round=>
  obtain⟨k,hk,rfl,h,A⟩:=hrel
  by_cases F:k<s.size
  ·have hb:s[k].toNat<256:=s[k].toNat_lt;have H:=hid (fW s k F);have I:=aNq s.data.toList k (s[k].toNat+1);rw[D.out] at I;have hc:=h.cell (lM 257 (qC s.data.toList k) (s[k].toNat+1) (by omega));have hf:=h.free (s[k].toNat+1);obtain⟨x,G⟩:∃x,x=qC s.data.toList k (s[k].toNat+1):=⟨_,rfl⟩;rw[<-G] at hc I;have Y:=hid G;clear G;go_wp2
   go_roundw
   case rel=>
    refine⟨k+1,by omega,by go_num,?_,A.setCell (aD _) _⟩;have:=h.set (s[k].toNat+1) (.int .i64 (x+1));rw[uE 257 _ (qC s.data.toList (k+1)) _ _ (fun d _=>by rw[aNk _ _ _ H.out,Y.out])] at this;exact this
   case measure=>simp[intOf];omega
  ·have J:k=s.size:=by omega
   have HK:=hid J;clear J;go_wp2
   go_loopw [23] (fun i wr=>∃c:Nat,c<=256/\i=.int .i64 c/\Arr wr w.heap.size 301 (tab 257 (nH s.data.toList c))/\Below w.heap.size w wr) (fun i _=>256-(intOf i).toNat)
   case atStart=>exact⟨0,aO _,rfl,by have:=h;rw[HK.out,<-D.out,aNl] at this;exact this,A⟩
   case round=>
    clear h A F;obtain⟨c,hc,rfl,h,A⟩:=hrel
    by_cases F:c<256
    ·have O:decide ((c:Int)<256)=true:=by simp;omega
     have I:=ZG s.data.toList c (c+1);have a2:=ZG s.data.toList c c;rw[D.out] at I a2;have T:=h.cell (lM 257 (nH s.data.toList c) (c+1) (by omega));have h2:=h.cell (lM 257 (nH s.data.toList c) c (by omega));have hf:=h.free (c+1);obtain⟨x,G⟩:∃x,x=nH s.data.toList c (c+1):=⟨_,rfl⟩;obtain⟨y,Z⟩:∃x,x=nH s.data.toList c c:=⟨_,rfl⟩;rw[<-G] at T I;rw[<-Z] at h2 a2;have Y:=hid G;have HY:=hid Z;clear G Z;go_wp2
     go_region
     go_wp2
     go_roundw
     case rel=>
      refine⟨c+1,by omega,by go_num,?_,(A.setCell (aD _) _).drew⟩;have:=h.set (c+1) (.int .i64 (x+y));rw[uE 257 _ (nH s.data.toList (c+1)) _ _ (fun d _=>by rw[aNm,Y.out,HY.out])] at this;exact this
     case measure=>simp[intOf];omega
    ·have a3:c=256:=by omega
     have HC:=hid a3;clear a3;have O:decide ((c:Int)<256)=false:=by simp;omega
     obtain⟨M,rfl⟩:∃M:World,M=wr:=⟨_,rfl⟩;go_wp2_with (at_make;refine mkA jL rfl _ _ rfl s.size rfl rfl ?_ ?_;omega);have a7:w.heap.size<M.heap.size:=h.lt
     go_loopw [41] (fun i wr=>∃k:Nat,k<=s.size/\i=.int .i64 k/\Arr wr w.heap.size 301 (tab 257 (sN s.data.toList k))/\(∃L:List Int,L.length=s.size/\Hid (∀j,j<k->L[kX s.data.toList j]? =some (j:Int))/\Arr wr M.heap.size 3 (L.map (bQ .i64)))/\Below w.heap.size w wr) (fun i _=>s.size-(intOf i).toNat)
     case atStart=>
      refine⟨0,aO _,rfl,?_,⟨aX s.size 0,by simp,hid (fun j hj=>by omega),?_⟩,A.alloc (by omega) _⟩
      ·have:=h.alloc (.cells (gW (.int .i64 0) s.size) 3);rw[HC.out] at this;rwa[show tab 257 (sN s.data.toList 0)=tab 257 (nH s.data.toList 256) from by
        apply vH;intro d O;rw[aNn _ _ (by simpa using O)]]
      ·rw[DM];exact Arr.made _ _ _ _
     case round=>
      clear h A F O;obtain⟨k,hk,rfl,h,⟨L,U,HP,V⟩,A⟩:=hrel
      by_cases F:k<s.size
      ·have hb:s[k].toNat<256:=s[k].toNat_lt;have H:=hid (fW s k F);have a4:=ZD s.data.toList k (by rw[D.out];exact F);have T:=h.cell (lM 257 (sN s.data.toList k) s[k].toNat (by omega));rw[ZE _ _ _ H.out] at T;rw[D.out] at a4;obtain⟨p,hp⟩:∃p,p=kX s.data.toList k:=⟨_,rfl⟩;rw[<-hp] at T a4;have a0:=hid hp;clear hp;have hf:=h.free s[k].toNat;have a8:=V.free p;obtain⟨v2,a5⟩:∃v2,(L.map (bQ .i64))[p]? =some v2:=⟨_,aN (by simp;omega)⟩;have h2:=V.cell a5;clear a5;go_wp2
       go_roundw
       case rel=>
        refine⟨k+1,by omega,by go_num,?_,⟨L.set p (k:Int),by simpa using U,hid ?_,?_⟩,(A.setCell (by simp;omega) _).setCell (aD _) _⟩
        ·have:=(h.other ⟨M.heap.size,p,none⟩ (by simp;omega) (.int .i64 (k:Int))).set s[k].toNat (.int .i64 ((p:Int)+1));rw[uE 257 _ (sN s.data.toList (k+1)) _ _ (fun d _=>by rw[aNo _ _ _ H.out,ZE _ _ _ H.out,<-a0.out])] at this;exact this
        ·intro j hj;rcases Nat.lt_or_ge j k with h'|h'
         ·rw[List.getElem?_set_ne (fun e=>?_)]
          ·exact HP.out j h'
          ·have:=aNf s.data.toList j k (by rw[D.out];omega) (by rw[D.out];omega) (by rw[<-a0.out,e]);omega
         ·have:j=k:=by omega
          subst this;rw[<-a0.out,List.getElem?_set_self (by omega)]
        ·have:=(V.set p (.int .i64 (k:Int))).other ⟨w.heap.size,s[k].toNat,none⟩ (by simp;omega) (.int .i64 ((p:Int)+1));rwa[<-List.map_set] at this
       case measure=>simp[intOf];omega
      ·have J:k=s.size:=by omega
       have a6:=hid J;clear J;go_wp2;go_ret;have e:=aNg s.data.toList L (by rw[D.out,U]) (fun j hj=>HP.out j (by rw[a6.out,<-D.out];exact hj));have ho:=V.own (B:=w.heap.size) (by omega) (by rw[aS,U];simp only[maxLen];omega);rw[aS,U] at ho;rw[e] at ho;exact⟨_,rfl,ho,A⟩
theorem zF {a b c d:Value} (e:a=c) (h:b=d):Ending.returned (.tuple #[a,b])=.returned (.tuple #[c,d]):=by rw[e,h]
theorem aA6 (s:List UInt8) (k:Nat) (h:k<s.length):(vU s)[k]? =some ((nxt s k:Nat):Int):=by grind [vU,nxt,vec,yY]
theorem QO (s:List UInt8):(vU s).length=s.length:=by simp[vU,yY]
theorem QP (s:ByteArray) (k:Nat) (h:k<s.size):s.data.toList.getD k 0=s[k]:=by grind [fW]
theorem aQt (s:ByteArray) (o:Int) (w:World) (hs:s.size<=1000000000) (a9: -9223372036854775808<=o) (b0:o<=9223372036854775807):
  Calls pG 182 #[.string s,.int .i64 o] w fun e w'=>
   e=.returned (.tuple #[.string (mkS (oU s.data.toList o)),.int .i64 (rK s.data.toList o)])/\Below w.heap.size w w':=by
 have J:s.data.toList.length=s.size:=by simp
 have G:=hid J
 by_cases L:qD s.data.toList o=true
 case neg=>
  have d:qD s.data.toList o=false:=by simpa using L
  have M:oU s.data.toList o=[]/\rK s.data.toList o=1:=by simp[oU,rK,d]
  have A:=hid M;unfold qD at d;rw[J] at d;clear M L J
  by_cases a5:o<0
  ·clear d;have hd:decide (o<0)=true:=by simpa using a5
   go_enter func182,ntmps182;go_wp2
   go_ret2
   exact⟨zF (by rw[A.out.1];rfl) (by rw[A.out.2];rfl),aH _ _⟩
  ·have Y:(max (s.size:Int) 1)<=o:=by simp at d;omega
   have h2:decide (max (s.size:Int) 1<=o)=true:=by simpa using Y
   have hd:decide (o<0)=false:=by simpa using a5
   clear d h2;go_enter func182,ntmps182;go_wp2
   all_goals go_ret2
   all_goals exact⟨zF (by rw[A.out.1];rfl) (by rw[A.out.2];rfl),aH _ _⟩
 case pos=>
  have d:=L;unfold qD at d;rw[J] at d;have Y:0<=o/\o<max (s.size:Int) 1:=by simpa using d
  obtain⟨n,rfl⟩:=Int.eq_ofNat_of_zero_le Y.1;have M:oU s.data.toList n=oA s.data.toList n s.size/\rK s.data.toList n=0:=by
   simp[oU,rK,L,ZH]
  have A:=hid M;have a0:n<s.size\/(s.size=0/\n=0):=by omega
  clear M L J d Y a9 b0;have hd:decide ((n:Int)<0)=false:=by simp
  have HN:=hid (show 0<s.size->n<s.size from fun h=>by omega);have b2:n<s.size\/s.size<=0/\n<=0:=by omega
  clear a0;rcases b2 with a0|⟨a0,b5⟩
  ·go_enter func182,ntmps182;go_wp2_with fail;refine(aA5 s _ hs).mono ?_;rintro e D ⟨v,rfl,O,H⟩;obtain⟨va,vc,rfl,a1,a2,T⟩:=O.rd.open;rw[QO,G.out] at T a1 ⊢;simp only[maxLen] at a2;clear O;go_wp2_with (at_make;refine mkA yU rfl _ _ rfl s.size rfl rfl ?_ ?_;omega)
   go_loopg [8,27] s.size (fun g a3 i wr=>∃k:Nat,k<=s.size/\g=s.size-k/\i=.int .i64 k/\a3=.int .i64 ((nI s.data.toList k n:Nat):Int)/\Arr wr D.heap.size 5 (fG (qO s.size 0 (oA s.data.toList n k)))/\Below w.heap.size w wr/\Below D.heap.size D wr)
   case atStart=>
    refine⟨0,aO _,rfl,rfl,rfl,?_,H.alloc (by have:=H.size;omega) _,(aH _ _).alloc (aD _) _⟩;have:=Arr.made D 5 (.int .u8 0) s.size;rwa[show aX s.size (bQ .u8 0)=fG (qO s.size 0 (oA s.data.toList n 0)) from by simp[fG,qO,oA]] at this
   case round=>
    obtain⟨k,hk,I,rfl,rfl,F,Z,a4⟩:=hrel
    by_cases a6:k<s.size
    ·have hn:=HN.out (by omega);have a7:=xG s.data.toList n (by rw[G.out];exact hn) k;have U:=xG s.data.toList n (by rw[G.out];exact hn) (k+1);rw[G.out] at a7 U;obtain⟨b1,o1,rfl,b3,a8⟩:=T (by omega);have c1:wr.cell? ⟨b1,o1+nI s.data.toList k n,none⟩=some (.int .i64 ((nI s.data.toList (k+1) n:Nat):Int)):=by
      rw[a4.cell (p:=⟨b1,o1+nI s.data.toList k n,none⟩) b3];exact a8 _ _ (aA6 _ _ (by rw[G.out];exact a7))
     have b6:=hid (fW s _ U);have hb:s[nI s.data.toList (k+1) n].toNat<256:=UInt8.toNat_lt _;obtain⟨x,hx⟩:=aMa s.size (0:UInt8) (oA s.data.toList n k) k a6 (by rw[xH];omega);have c2:=F.cell (IZ hx);have f2:=F.free k;have HG:=hid I;clear hx T a8 I;go_wp2;have I:=HG.out
     go_roundg (s.size-(k+1))
     case measure=>omega
     case rel=>
      refine⟨k+1,by omega,rfl,by go_num,rfl,?_,Z.setCell (by have:=H.size;simp;omega) _,a4.setCell (by simp) _⟩;have:=F.set k (.int .u8 ((s[nI s.data.toList (k+1) n].toNat:Nat):Int));rw[YG] at this;have e:=aL9 s.size (0:UInt8) s[nI s.data.toList (k+1) n] (oA s.data.toList n k) (by rw[xH];exact a6);rw[xH,<-QP s _ U,<-ZI] at e;rw[<-QP s _ U,e] at this;rw[<-QP s _ U];exact this
    ·have V:k=s.size:=by omega
     rw[V,YH _ _ _ (by rw[xH];exact aD _)] at F;have b4:=mP (F.rdB (n:=s.size) (by rw[xH]) (by simp only[maxLen];omega));clear V I;go_wp2
     go_ret2
     exact⟨zF (by rw[A.out.1];rfl) (by rw[A.out.2];rfl),Z⟩
  ·go_enter func182,ntmps182;go_wp2_with fail;refine(aA5 s _ hs).mono ?_;rintro e D ⟨v,rfl,O,H⟩;obtain⟨va,vc,rfl,a1,a2,T⟩:=O.rd.open;rw[QO,G.out] at T a1 ⊢;simp only[maxLen] at a2;clear O;go_wp2_with (at_make;refine mkA yU rfl _ _ rfl s.size rfl rfl ?_ ?_;omega)
   go_loopg [8,27] s.size (fun g a3 i wr=>∃k:Nat,k<=s.size/\g=s.size-k/\i=.int .i64 k/\a3=.int .i64 ((nI s.data.toList k n:Nat):Int)/\Arr wr D.heap.size 5 (fG (qO s.size 0 (oA s.data.toList n k)))/\Below w.heap.size w wr/\Below D.heap.size D wr)
   case atStart=>
    refine⟨0,aO _,rfl,rfl,rfl,?_,H.alloc (by have:=H.size;omega) _,(aH _ _).alloc (aD _) _⟩;have:=Arr.made D 5 (.int .u8 0) s.size;rwa[show aX s.size (bQ .u8 0)=fG (qO s.size 0 (oA s.data.toList n 0)) from by simp[fG,qO,oA]] at this
   case round=>
    obtain⟨k,hk,I,rfl,rfl,F,Z,a4⟩:=hrel;have V:k=s.size:=by omega
    rw[V,YH _ _ _ (by rw[xH];exact aD _)] at F;have b4:=mP (F.rdB (n:=s.size) (by rw[xH]) (by simp only[maxLen];omega));clear V I;go_wp2
    go_ret2
    exact⟨zF (by rw[A.out.1];rfl) (by rw[A.out.2];rfl),Z⟩
end
end Go.Proofs.YtfplbbphficcjaaGreatDoor
