/-
  Texts put together (part 3): the walks and the plain laws on which the statement stands.
-/
import Derived.Deep.RegionHeld
import Derived.Laws.BitsAllLaws
import Derived.Laws.Bits64
import Derived.Test.YtfckbfofgeilgaaGreatDoorZ1
set_option maxRecDepth 100000
set_option maxHeartbeats 12800000
set_option linter.unusedVariables false
set_option linter.unusedSimpArgs false
open Go.Proofs.Tryz
open Go.Proofs.Tryz renaming prog->pG
open BitVec renaming ofNat->pZ,toNat_shiftLeft->IR
open Bool renaming and_eq_true->DF
open Decidable renaming not_not->eB
open Go.AllReadyH renaming cons->DG
open Go.IntKind renaming u64->eZ,u8->oQ
open Go.Region renaming Mode->bKj,ready->bNu
open List renaming append_assoc->bU,cons_append->fF,countP_cons->aLg,ext_getElem?->lH,getD_eq_getElem?_getD->bV,getElem?_eq_getElem->aN,getElem?_eq_none->fZ,length_append->aL,length_eq_zero_iff->nX,length_singleton->fQ,length_take->aQ,map_cons->kI,mem_cons_of_mem->iQ,mem_cons_self->jK,range->eT,replicate->aX,replicate_append_replicate->bGn,replicate_succ->GX,sum_cons->xB,take_append_drop->kH,take_of_length_le->cD
open Nat renaming le_refl->aD,lt_of_lt_of_le->fB,mod_eq_of_lt->jT,mul_assoc->DK,mul_comm->pE,pow_le_pow_right->nF,pow_pos->DN,pow_succ->oP,shiftLeft_eq->IS,testBit_lt_two_pow->bGj
open Option renaming map_map->XJ
open UInt8 renaming ofNat->eA,toNat_ofNat'->nD
namespace Go.Proofs.YtfckbfofgeilgaaGreatDoor
section
open Go
theorem fV {P:Program} {e:Array Oper} {Q:Exit->Act->World->Prop} {md:bKj} {S:World->Prop} {i:Nat} {A:Oper} {v:Value} {G:Nat} {D:Array Bool} {a:Act} {w:World}
  (d c:Nat) (_:e.size+d-(G+1+c)=i) (I:e[i]? =some A) (F:(Region.noSelect e&&Region.free md e D i&&(bNu md e D).contains i)=true)
  (J:∀c a w,Q (.panic c) (a.put A.dst v) w->Q (.panic c) a w) (L:YieldsIf P e S A v a) (M:S w)
  (h:wpAnyH P md e Q S G (D.setIfInBounds i true) (a.put A.dst v) w):wpAnyH P md e Q S (G+1) D a w:=by
 rw[DF,DF] at F;exact wpAnyH_take I F.1.1 F.1.2 F.2 J L M h
theorem dJ {P:Program} {d:Array Oper} {Q:Exit->Act->World->Prop} {md:bKj} {S:World->Prop} {i:Nat} {o:Oper} {D:Nat} {e:Array Bool} {a:Act} {w:World}
  (F:bNu md d e=[i]) (G:d[i]? =some o)
  (h:∀A:Act->World->Prop,Shut (∀a w,S w->(S w->wpAnyH P md d Q S D (e.setIfInBounds i true) a w)->A a w)->if Region.wanted o (yielded d a.tmps)=true then Oper.wp P o a w A Q else A (a.put o.dst undef) w):wpAnyH P md d Q S (D+1) e a w:=
 wpAnyH_ready F (by simp) (DG G h AllReadyH.nil)
end
section
def dO (s:List UInt8) (i:Nat):Bool:=(s.getD (i/8) 0).toNat.testBit (7-i%8)
def xN (l:List Bool):Nat:=(eT 8).foldl (fun n k=>2*n+(l.getD k false).toNat) 0
def zG (l:List Bool):UInt8:=eA (xN l)
def aI (l:List Bool):List UInt8:=(eT ((l.length+7)/8)).map (fun j=>zG (l.drop (8*j)))
theorem iJ (l:List Bool):(aI l).length=(l.length+7)/8:=by simp[aI]
theorem aSp (l:List Bool):xN l<256:=by
 unfold xN;simp only[eT,eT.loop,List.foldl];have h:∀b:Bool,b.toNat<=1:=fun b=>by cases b<;>decide
 grind
theorem aSq:∀d e A D F G I J:Bool,∀k:Fin 8,(2*(2*(2*(2*(2*(2*(2*(2*0+d.toNat)+e.toNat)+A.toNat)+D.toNat)+F.toNat)+G.toNat)+I.toNat)+J.toNat).testBit (7-k.val)=[d,e,A,D,F,G,I,J][k]:=by decide+kernel
theorem aSr (l:List Bool) (k:Nat) (d:k<8):(xN l).testBit (7-k)=l.getD k false:=by
 unfold xN;simp only[eT,eT.loop,List.foldl];have:=aSq (l.getD 0 false) (l.getD 1 false) (l.getD 2 false) (l.getD 3 false) (l.getD 4 false) (l.getD 5 false) (l.getD 6 false) (l.getD 7 false) ⟨k,d⟩
 grind
theorem aSs (l:List Bool):(zG l).toNat=xN l:=by grind [zG,nD,jT,aSp,xN]
theorem tR (l:List Bool) (i:Nat):dO (aI l) i=l.getD i false:=by
 unfold dO
 by_cases h:i/8<(l.length+7)/8
 ·grind [aI,zG,aSs,aSr,dO]
 ·have e:(aI l).getD (i/8) 0=0:=by
   rw[bV,fZ (by rw[iJ];omega)];rfl
  rw[e,bV,fZ (by omega)];simp
theorem aSt {a b:UInt8} (h:∀k,k<8->a.toNat.testBit (7-k)=b.toNat.testBit (7-k)):a=b:=by
 apply UInt8.toNat_inj.1;apply Nat.eq_of_testBit_eq;intro i
 by_cases d:i<8
 ·have:=h (7-i) (by omega)
  grind
 ·have e:a.toNat<2^i:=fB a.toNat_lt (nF (by decide) (by omega));have A:b.toNat<2^i:=fB b.toNat_lt (nF (by decide) (by omega))
  grind [bGj]
theorem BS {s t:List UInt8} (d:s.length=t.length) (h:∀i,i<8*s.length->dO s i=dO t i):s=t:=by
 apply List.ext_getElem d;intro j e A;apply aSt;intro k D;have:=h (8*j+k) (by omega);unfold dO at this;rw[show(8*j+k)/8=j by omega,show(8*j+k)%8=k by omega] at this
 grind
def eR (s:List UInt8):List Bool:=(eT (8*s.length)).map (dO s)
theorem qU (s:List UInt8):(eR s).length=8*s.length:=by simp[eR]
theorem wA (s:List UInt8) (i:Nat):(eR s)[i]? =if i<8*s.length then some (dO s i) else none:=by grind [eR,dO]
theorem EL (s t:List UInt8) (i:Nat):dO (s++t) i=if i<8*s.length then dO s i else dO t (i-8*s.length):=by grind [dO]
theorem aSu (l:List Bool):(eR (aI l)).take l.length=l:=by
 apply lH
 grind [wA,iJ,tR,eR,aI]
def dG (l:List Bool):Nat:=l.foldl (fun v b=>2*v+b.toNat) 0
theorem wB (l:List Bool) (b:Bool):dG (l++[b])=2*dG l+b.toNat:=by simp[dG]
theorem EM {α:Type} {P:List α->Prop} (d:P []) (e:∀l b,P l->P (l++[b])):∀l,P l:=fun l=>by
 have h:∀m:List α,P m.reverse:=fun m=>by
  induction m with
  |nil=>exact d
  |cons b m A=>rw[List.reverse_cons];exact e _ _ A
 have:=h l.reverse
 grind
theorem wC (l:List Bool):dG l<2^l.length:=by
 refine EM (P:=fun l=>dG l<2^l.length) (by decide) (fun l b d=>?_) l
 ·rw[wB,aL,fQ,oP];have:b.toNat<=1:=by cases b<;>decide
  omega
def aT (v n:Nat):List Bool:=(eT n).map (fun i=>v.testBit (n-1-i))
theorem dV (v n:Nat):(aT v n).length=n:=by simp[aT]
theorem KI (v n i:Nat) (h:i<n):(aT v n)[i]? =some (v.testBit (n-1-i)):=by simp[aT,h]
theorem KJ (l:List Bool):∀i,i<l.length->(dG l).testBit i=l.getD (l.length-1-i) false:=by
 refine EM (P:=fun l=>∀i,i<l.length->(dG l).testBit i=l.getD (l.length-1-i) false) (fun i h=>by simp at h) (fun l b d=>?_) l
 ·intro i e;rw[wB];simp only[aL,fQ] at e ⊢
  cases i with
  |zero=>
   rw[bV,List.getElem?_append_right (by omega)];simp only[Nat.add_sub_cancel,Nat.sub_zero,Nat.sub_self,List.getElem?_cons_zero,Option.getD_some];rw[Nat.testBit_zero]
   cases b<;>simp<;>omega
  |succ i=>
   rw[Nat.testBit_succ,show(2*dG l+b.toNat)/2=dG l by cases b<;>simp<;>omega,d i (by omega)];rw[bV,bV,List.getElem?_append_left (by omega)]
   congr 2;omega
theorem RA (l:List Bool):aT (dG l) l.length=l:=by
 apply List.ext_getElem (dV _ _)
 grind [KI,dG,KJ,aT]
theorem aBt {v n:Nat} (h:v<2^n):dG (aT v n)=v:=by
 apply Nat.eq_of_testBit_eq
 grind [KJ,dV,KI,bGj,fB,nF,wC,aT,dG]
def cL (l:List Int) (n:Nat):Nat:=l.countP (fun x=>x==(n:Int))
def gY (l:List Int):Nat->Nat
 |0=>0
 |n+1=>2*(gY l n+cL l n)
def gM (l:List Int):Prop:=2<=l.length/\l.length<=258/\∀x∈l,1<=x/\x<=20
instance (l:List Int):Decidable (gM l):=inferInstanceAs (Decidable (2<=l.length/\l.length<=258/\∀x∈l,1<=x/\x<=20))
def kZ (l:List Int):Nat:=(l.map (fun x=>2^(20-x.toNat))).sum
def bM (l:List Int):Int:=if ¬gM l then 1 else if kZ l>1048576 then 6 else 0
theorem gE {l:List Int} (h:bM l=0):gM l/\kZ l<=1048576:=by grind [bM,gM,kZ]
theorem aSw {l:List Int} (d:gM l) (e:kZ l<=1048576):bM l=0:=by grind [bM,gM,kZ]
theorem aBv {l:List Int} (h:∀x∈l,1<=x):cL l 0=0:=by grind [cL]
theorem aBw {l:List Int} (h:∀x∈l,1<=x):gY l 1=0:=by grind [gY,aBv]
def pN (l:List Int) (n:Nat):Nat:=(l.map (fun x=>if x.toNat<=n then 2^(n-x.toNat) else 0)).sum
theorem aBx (l:List Int) (n:Nat) (h:∀x∈l,1<=x):pN l (n+1)=2*pN l n+cL l (n+1):=by
 induction l with
 |nil=>rfl
 |cons x l d=>
  have d:=d (fun y e=>h y (iQ _ e));have D:=h x (jK ..);unfold pN cL at*
  simp only[kI,xB,aLg];rw[d]
  by_cases A:x.toNat<=n
  ·rw[aB A,aB (by omega),aA (by simp;omega),show n+1-x.toNat=n-x.toNat+1 by omega,oP];omega
  ·grind
theorem aBy (l:List Int) (h:∀x∈l,1<=x):∀n,pN l n=gY l n+cL l n:=by
 intro n
 induction n with
 |zero=>
  have:pN l 0=cL l 0:=by
   induction l with
   |nil=>rfl
   |cons x l d=>
    have d:=d (fun y e=>h y (iQ _ e));have A:=h x (jK ..);unfold pN cL at*
    simp only[kI,xB,aLg,d];rw[aA (by omega),aA (by simp;omega)];omega
  rw[this];unfold gY;omega
 |succ n d=>rw[aBx l n h,d];rfl
theorem aBz (l:List Int) (n k:Nat):pN l n*2^k<=pN l (n+k):=by
 unfold pN
 induction l with
 |nil=>simp
 |cons x l d=>
  simp only[kI,xB];rw[Nat.add_mul];refine Nat.add_le_add ?_ d
  by_cases h:x.toNat<=n
  ·rw[aB h,aB (by omega),<-Nat.pow_add,show n-x.toNat+k=n+k-x.toNat by omega];simp
  ·grind
theorem RB {l:List Int} (h:∀x∈l,1<=x/\x<=20):pN l 20=kZ l:=by grind [pN,kZ,List.map_congr_left]
theorem aB0 {l:List Int} (h:∀x∈l,1<=x/\x<=20) (A:kZ l<=1048576) {n:Nat} (D:n<=20):gY l n+cL l n<=2^n:=by
 rw[<-aBy l (fun x d=>(h x d).1)];have:=aBz l n (20-n);rw[show n+(20-n)=20 by omega,RB h] at this;have F:2^n*2^(20-n)=1048576:=by rw[<-Nat.pow_add,show n+(20-n)=20 by omega]
 have e:pN l n*2^(20-n)<=2^n*2^(20-n):=by omega
 exact Nat.le_of_mul_le_mul_right e (DN (by decide))
def sS (l:List Int):Nat->Int
 |0=>1-(cL l 0:Int)
 |n+1=>2*sS l n-(cL l (n+1):Int)
theorem RC (l:List Int) (h:∀x∈l,1<=x):∀n,sS l n=2^n-(pN l n:Int):=by
 intro n
 induction n with
 |zero=>
  have:pN l 0=cL l 0:=by rw[aBy l h];unfold gY;omega
  unfold sS;rw[this];rfl
 |succ n d=>
  unfold sS;rw[d,aBx l n h];rw[Int.pow_succ];push_cast;omega
theorem aSx {l:List Int} (h:∀x∈l,1<=x/\x<=20) {n:Nat} (D:n<=20) (d:sS l n<0):1048576<kZ l:=by
 rw[RC l (fun x e=>(h x e).1)] at d;have A:2^n<pN l n:=by grind
 have:=aBz l n (20-n);rw[show n+(20-n)=20 by omega,RB h] at this;have F:2^n*2^(20-n)=1048576:=by rw[<-Nat.pow_add,show n+(20-n)=20 by omega]
 have G:(2^n+1)*2^(20-n)<=pN l n*2^(20-n):=Nat.mul_le_mul_right _ A
 grind
theorem aSy {l:List Int} (h:∀x∈l,1<=x/\x<=20) (d:∀n,n<=20->0<=sS l n):kZ l<=1048576:=by
 have:=d 20 (aD _)
 grind [RC,RB,sS,kZ]
theorem aSz {l:List Int} (h:∀x∈l,1<=x) {n:Nat}:sS l n<=2^n:=by
 rw[RC l h];omega
def bL (l:List Int) (s:Nat):Nat:=(l.getD s 0).toNat
def gZ (l:List Int) (s:Nat):Nat:=gY l (bL l s)+cL (l.take s) (bL l s)
theorem lX {l:List Int} (h:gM l) {s:Nat} (d:s<l.length):1<=bL l s/\bL l s<=20/\l[s]? =some ((bL l s:Nat):Int):=by
 have:=h.2.2 l[s] (List.getElem_mem d);unfold bL
 grind
theorem KK {l:List Int} {s:Nat} (d:s<l.length) {n:Nat} (e:l[s]? =some (n:Int)):cL (l.take s) n<cL l n:=by grind [cL,List.getElem_cons_drop,kH,aN]
theorem KL {l:List Int} (h:gM l) {s:Nat} (d:s<l.length):gY l (bL l s)<=gZ l s/\gZ l s<gY l (bL l s)+cL l (bL l s):=by
 have:=KK d (lX h d).2.2;unfold gZ;omega
theorem RD {l:List Int} (h:gM l) (e:kZ l<=1048576) {s:Nat} (d:s<l.length):gZ l s<2^bL l s:=by
 have:=KL h d;have:=aB0 h.2.2 e (lX h d).2.1;omega
theorem aS0 (l:List Int) (n k:Nat):(gY l n+cL l n)*2^(k+1)<=gY l (n+k+1):=by
 induction k with
 |zero=>show _<=2*(gY l n+cL l n);rw[pE];exact aD _
 |succ k d=>
  show _<=2*(gY l (n+(k+1))+_);rw[oP,<-DK];have e:n+(k+1)=n+k+1:=by omega
  rw[e];omega
def qG (l:List Int) (n m:Nat):List Nat:=(eT m).filter (fun s=>l.getD s 0==(n:Int))
theorem RF (l:List Int) (n m:Nat):qG l n (m+1)=qG l n m++if l.getD m 0==(n:Int) then[m] else[]:=by grind [qG,List.range_succ]
theorem KM {l:List Int} {m:Nat} (d:m<l.length) (n:Nat):cL (l.take (m+1)) n=cL (l.take m) n+if l.getD m 0==(n:Int) then 1 else 0:=by grind [cL,List.take_add_one,aN]
theorem KN (l:List Int) (n:Nat):∀m,m<=l.length->(qG l n m).length=cL (l.take m) n:=by
 intro m
 induction m with
 |zero=>intro _;rfl
 |succ m d=>
  intro e;rw[RF,aL,d (by omega),KM (by omega)];split<;>rfl
theorem aB1 (l:List Int) (n:Nat):∀m,m<=l.length->∀k s,(qG l n m)[k]? =some s->s<m/\l.getD s 0=(n:Int)/\cL (l.take s) n=k:=by
 intro m
 induction m with
 |zero=>intro _ k s h;simp[qG] at h
 |succ m d=>
  intro e k s h;rw[RF] at h
  by_cases A:k<(qG l n m).length
  ·grind
  ·grind [qG,KN,cL]
def seg (s:List UInt8) (a n:Nat):List Bool:=((eR s).drop a).take n
theorem BT {s:List UInt8} {a n:Nat} (h:a+n<=8*s.length):(seg s a n).length=n:=by grind [seg,qU]
theorem aS1 (l m:List Bool):dG (l++m)=dG l*2^m.length+dG m:=by
 refine EM (P:=fun m=>dG (l++m)=dG l*2^m.length+dG m) (by simp[dG]) (fun m b d=>?_) m;rw[<-bU,wB,wB,d,aL,fQ,oP,<-DK];omega
theorem aB2 {s:List UInt8} {a n k:Nat}:seg s a (n+k)=seg s a n++seg s (a+n) k:=by grind [seg,List.drop_drop]
theorem aS2 {s:List UInt8} {a n k:Nat} (h:a+(n+k)<=8*s.length):dG (seg s a (n+k))/2^k=dG (seg s a n):=by
 rw[aB2,aS1,BT (by omega)];have d:=wC (seg s (a+n) k);rw[BT (by omega)] at d;rw[pE,Nat.mul_add_div (DN (by decide)),Nat.div_eq_of_lt d,Nat.add_zero]
def lA (l:List Int) (s:List UInt8) (a i:Nat):Prop:=a+bL l i<=8*s.length/\dG (seg s a (bL l i))=gZ l i
instance (l:List Int) (s:List UInt8) (a i:Nat):Decidable (lA l s a i):=inferInstanceAs (Decidable (_/\_))
theorem aB3 {l:List Int} (d:gM l) {s:List UInt8} {a i j:Nat} (D:i<l.length) (F:j<l.length) (G:lA l s a i) (A:lA l s a j):¬bL l i<bL l j:=by
 intro M;obtain⟨k,I⟩:∃k,bL l j=bL l i+(k+1):=⟨bL l j-bL l i-1,by omega⟩;have O:=(KL d D).2;have R:=(KL d F).1;have J:=aS0 l (bL l i) k;have e:bL l i+k+1=bL l j:=by omega
 rw[e] at J;have L:=aS2 (s:=s) (a:=a) (n:=bL l i) (k:=k+1) (by have:=A.1;omega);rw[<-I,A.2,G.2] at L;have:gY l (bL l i)+cL l (bL l i)<=gZ l j/2^(k+1):=by
  rw[Nat.le_div_iff_mul_le (DN (by decide))];omega
 omega
theorem KO {l:List Int} {i j n:Nat} (e:i<j) (A:j<l.length) (D:l[i]? =some (n:Int)):cL (l.take i) n<cL (l.take j) n:=by
 have d:(l.take j)[i]? =some (n:Int):=by grind
 have h:=KK (l:=l.take j) (s:=i) (by grind) d
 grind
theorem aS3 {l:List Int} (d:gM l) {s:List UInt8} {a i j:Nat} (A:i<l.length) (D:j<l.length) (G:lA l s a i) (I:lA l s a j):i=j:=by
 have L:=aB3 d A D G I;have M:=aB3 d D A I G;have e:bL l i=bL l j:=by omega
 have J:=G.2;rw[e,I.2] at J;unfold gZ at J;rw[e] at J;rcases Nat.lt_trichotomy i j with h|h|h
 ·have F:=(lX d A).2.2;rw[e] at F;have:=KO h D F;omega
 ·exact h
 ·have F:=(lX d D).2.2;have:=KO h A F;omega
def mQ (l:List Int):Int:=l.foldl max 0
def dE (l:List Int) (s:List UInt8) (at':Int):Int×Int×Int:=
 if bM l≠0 then(0,0,bM l)
 else if at'<0 then(0,0,1)
 else match (eT l.length).find? (fun i=>decide (lA l s at'.toNat i)) with
  |some i=>((i:Int),at'+(bL l i:Int),0)
  |none=>if at'>8*(s.length:Int)-mQ l then(0,0,2) else(0,0,3)
theorem zH {l:List Int} (d:bM l=0) {s:List UInt8} {a i:Nat} (e:i<l.length) (h:lA l s a i):dE l s (a:Int)=((i:Int),(a:Int)+(bL l i:Int),0):=by grind [dE,Int.toNat_natCast,eT,lA,List.find?_eq_none,List.mem_of_find?_eq_some,aS3,gE,bM,bL]
theorem zI {l:List Int} (d:bM l=0) {s:List UInt8} {a:Nat} (h:∀i,i<l.length->¬lA l s a i):dE l s (a:Int)=if(a:Int)>8*(s.length:Int)-mQ l then(0,0,2) else(0,0,3):=by grind [dE,lA,bM,mQ]
def aP (n:Nat) (at':Int) (k:Nat):Int:=if at'<0 then 1 else if 8*(n:Int)-(k:Int)<at' then 2 else 0
def aK (s:List UInt8) (at':Int) (k:Nat):Nat:=if aP s.length at' k=0 then dG (seg s at'.toNat k) else 0
theorem iG {n:Nat} {at':Int} {k:Nat} (h:aP n at' k=0):0<=at'/\at'.toNat+k<=8*n/\at'+(k:Int)<=8*(n:Int):=by grind [aP]
theorem jV (s:List UInt8) (at':Int) (k:Nat):aK s at' k<2^k:=by
 unfold aK;split
 ·next h=>
  have:=iG h
  grind [wC,seg,BT,aK]
 grind
def iK (s:List UInt8) (k:Nat):List Bool:=(eT 16).map (fun i=>dZ s (16*k+i))
theorem zJ (s:List UInt8) (k:Nat):(iK s k).length=16:=by simp[iK]
def lP (s:List UInt8) (k:Nat):Bool:=(iK s k).any id
theorem EN (l:List Bool):dG l=0↔l.any id=false:=by
 refine EM (P:=fun l=>dG l=0↔l.any id=false) (by decide) (fun l b d=>?_) l
 grind [wB,dG]
def pO (s:List UInt8):List Bool:=(eT 16).map (lP s)
def iA (s:List UInt8):Nat->List Bool
 |0=>[]
 |k+1=>iA s k++if lP s k then iK s k else[]
def iL (s:List UInt8):List Bool:=pO s++iA s 16
theorem KP (s:List UInt8):∀k,(iA s k).length<=16*k
 |0=>by simp[iA]
 |k+1=>by
  have:=KP s k
  grind [iA,zJ]
theorem KR (s:List UInt8):(iL s).length<=272:=by grind [KP,iL,pO]
def nJ (v k:Nat):Nat->List UInt8
 |0=>[]
 |i+1=>nJ v k i++if v.testBit (15-i) then[eA (16*k+i)] else[]
def dQ (s:List UInt8) (at':Int):Nat->List UInt8×Int×Bool×Int
 |0=>([],at'+16,aK s at' 16==0,aP s.length at' 16)
 |k+1=>
  let p:=dQ s at' k
  if p.2.2.2≠0 then p
  else if(aK s at' 16).testBit (15-k) then
   if aP s.length p.2.1 16≠0 then(p.1,p.2.1,p.2.2.1,aP s.length p.2.1 16)
   else(p.1++nJ (aK s p.2.1 16) k 16,p.2.1+16,p.2.2.1||aK s p.2.1 16==0,0)
  else p
def dF (s:List UInt8) (at':Int):List UInt8×Int×Int:=
 let p:=dQ s at' 16
 if p.2.2.2≠0 then([],0,p.2.2.2) else if p.2.2.1 then([],0,3) else(p.1,p.2.1,0)
theorem KS (v k:Nat):∀i,(nJ v k i).length<=i
 |0=>by simp[nJ]
 |i+1=>by
  have:=KS v k i
  grind [nJ]
theorem EO (s:List UInt8) (at':Int):∀k,(dQ s at' k).1.length<=16*k/\((dQ s at' k).2.2.2=0->at'+16<=(dQ s at' k).2.1/\(dQ s at' k).2.1<=at'+16+16*k)
 |0=>⟨by simp[dQ],fun _=>by simp[dQ]⟩
 |k+1=>by
  obtain⟨d,e⟩:=EO s at' k
  grind [dQ,KS,aK]
end
section
open Go.RowKit Go
theorem aEa (x j:Nat):x/2^j%2=(x.testBit j).toNat:=by grind
theorem CE (x j:Nat):(x:Int)/2^j=((x/2^j:Nat):Int):=by simp
theorem FA (x j:Nat):((x:Int)/2^j).tmod 2=((x.testBit j).toNat:Int):=by grind
theorem aV2:∀x:Fin 256,∀k:Fin 8,((x.val*2^k.val%256)&&&128)=if x.val.testBit (7-k.val) then 128 else 0:=by decide+kernel
theorem aV3 (x k:Nat) (d:x<256) (A:k<8):bits .and .u8 (oQ.wrap ((x:Int)*2^k)) 128=if x.testBit (7-k) then 128 else 0:=by
 have e:((2:Int)^k)=((2^k:Nat):Int):=by push_cast;rfl
 have h:oQ.wrap ((x:Int)*2^k)=((x*2^k%256:Nat):Int):=by
  rw[IntKind.wrap_u8',e,<-Int.natCast_mul];omega
 rw[h,show(128:Int)=((128:Nat):Int) from rfl,u8_and_nat _ _ (Nat.mod_lt _ (by decide)) (by decide),aV2 ⟨x,d⟩ ⟨k,A⟩];split<;>rfl
theorem SU (v:Nat) (b:Bool) (h:2*v<18446744073709551616):bits .or .u64 (eZ.wrap ((v:Int)*2)) (b.toNat:Int)=((2*v+b.toNat:Nat):Int):=by
 have d:eZ.wrap ((v:Int)*2)=((2*v:Nat):Int):=by rw[IntKind.wrap_u64];omega
 have e:b.toNat<2:=by cases b<;>decide
 rw[d,u64_or_nat _ _ h (by omega),nat_join 1 (2*v) b.toNat (by omega) (by simpa using e)]
end
section
def mR (d x:Int):List Bool:=(aX (x-d).toNat [true,false]).flatten++(aX (d-x).toNat [true,true]).flatten++[false]
def fR (d:Int):List Int->List Bool
 |[]=>[]
 |x::l=>mR d x++fR x l
theorem KU (x:Int):∀(l:List Int) (d:Int),fR d (l++[x])=fR d l++mR (l.getLastD d) x
 |[],d=>by simp[fR]
 |y::l,d=>by
  show mR d y++fR y (l++[x])=(mR d y++fR y l)++_;rw[KU x l y,bU]
  grind
def fI (l:List Int):List Bool:=aT (l.getD 0 0).toNat 5++fR (l.getD 0 0) l
theorem aS5 (d x:Int) (e:1<=d) (A:d<=20) (D:1<=x) (F:x<=20):(mR d x).length<=39:=by grind [mR,aL,List.length_flatten,List.map_replicate,List.sum_replicate_nat,List.length_cons,List.length_nil]
theorem KV:∀(l:List Int) (d:Int),1<=d->d<=20->(∀x∈l,1<=x/\x<=20)->(fR d l).length<=39*l.length
 |[],_,_,_,_=>by simp[fR]
 |x::l,d,D,F,h=>by
  have e:=h x (jK ..);have:=KV l x e.1 e.2 (fun y A=>h y (iQ _ A))
  grind [aS5,fR]
def lQ (s:List UInt8):Nat->Int->Int->Int×Int×Int
 |0,_,_=>(0,0,2)
 |f+1,at',n=>
  if aP s.length at' 1≠0 then(0,0,aP s.length at' 1)
  else if aK s at' 1=0 then(n,at'+1,0)
  else if aP s.length (at'+1) 1≠0 then(0,0,aP s.length (at'+1) 1)
  else
   let m:=if aK s (at'+1) 1=0 then n+1 else n-1
   if m<1\/20<m then(0,0,3) else lQ s f (at'+2) m
def fS (s:List UInt8) (at' n:Int):Int×Int×Int:=lQ s (8*s.length+2) at' n
theorem RG (s:List UInt8):∀(f g:Nat) (at' n:Int),0<=at'->8*(s.length:Int)+1-at'<=f->8*(s.length:Int)+1-at'<=g->1<=f->1<=g->lQ s f at' n=lQ s g at' n
 |0,_,_,_,_,_,_,h,_=>by omega
 |_,0,_,_,_,_,_,_,h=>by omega
 |f+1,g+1,at',n,D,F,G,_,_=>by
  unfold lQ;split
  ·rfl
  ·next e=>
   have e:=iG (eB.1 e);split
   ·rfl
   ·split
    ·rfl
    ·next A=>
     have A:=iG (eB.1 A);simp only
     generalize (if aK s (at'+1) 1=0 then n+1 else n-1)=m
     by_cases d:m<1\/20<m
     ·rw[aB d,aB d]
     ·rw[aA d,aA d];exact RG s f g _ _ (by omega) (by omega) (by omega) (by omega) (by omega)
theorem BU (s:List UInt8) (at' n:Int) (d:0<=at'):fS s at' n=
  if aP s.length at' 1≠0 then(0,0,aP s.length at' 1)
  else if aK s at' 1=0 then(n,at'+1,0)
  else if aP s.length (at'+1) 1≠0 then(0,0,aP s.length (at'+1) 1)
  else if(if aK s (at'+1) 1=0 then n+1 else n-1)<1\/20<(if aK s (at'+1) 1=0 then n+1 else n-1) then(0,0,3)
  else fS s (at'+2) (if aK s (at'+1) 1=0 then n+1 else n-1):=by grind [fS,lQ,iG,aK,RG,aP]
theorem KW (s:List UInt8):∀(f:Nat) (at' n:Int),0<=at'->1<=n->n<=20->(lQ s f at' n).2.2=0->1<=(lQ s f at' n).1/\(lQ s f at' n).1<=20/\at'<(lQ s f at' n).2.1/\(lQ s f at' n).2.1<=8*(s.length:Int)
 |0,_,_,_,_,_,h=>by unfold lQ at h;simp at h
 |f+1,at',n,A,D,F,h=>by
  unfold lQ at h ⊢;split at h
  ·grind
  ·next q=>
   have G:=iG (eB.1 q);rw[aA q];split at h
   ·grind
   ·next k=>
    rw[aA k];split at h
    ·grind
    ·next e=>
     rw[aA e];simp only at h ⊢;generalize (if aK s (at'+1) 1=0 then n+1 else n-1)=m at h ⊢
     by_cases d:m<1\/20<m
     ·rw[aB d] at h;simp at h
     ·rw[aA d] at h ⊢;have:=KW s f (at'+2) m (by omega) (by omega) (by omega) h;omega
def bC (s:List UInt8) (at':Int):Nat->List Int×Int×Int×Int
 |0=>([],(aK s at' 5:Int),at'+5,if aP s.length at' 5≠0 then aP s.length at' 5 else if(aK s at' 5:Int)<1\/20<(aK s at' 5:Int) then 3 else 0)
 |k+1=>
  let p:=bC s at' k
  if p.2.2.2≠0 then p
  else let q:=fS s p.2.2.1 p.2.1
   if q.2.2≠0 then(p.1,p.2.1,p.2.2.1,q.2.2) else(p.1++[q.1],q.1,q.2.1,0)
def gS (s:List UInt8) (at':Int) (n:Int):List Int×Int×Int:=
 if at'<0\/n<2\/258<n then([],0,1)
 else let p:=bC s at' n.toNat
  if p.2.2.2≠0 then([],0,p.2.2.2) else(p.1,p.2.2.1,0)
theorem EP (s:List UInt8) (at':Int) (A:0<=at'):∀k,(bC s at' k).2.2.2=0->(bC s at' k).1.length=k/\(∀x∈(bC s at' k).1,1<=x/\x<=20)/\(1<=(bC s at' k).2.1/\(bC s at' k).2.1<=20)/\at'<(bC s at' k).2.2.1/\(bC s at' k).2.2.1<=8*(s.length:Int)
 |0,h=>by
  unfold bC at h ⊢;simp only at h ⊢;split at h
  ·grind
  ·next q=>
   have D:=iG (eB.1 q)
   grind
 |k+1,h=>by
  unfold bC at h ⊢;simp only at h ⊢;split at h
  ·grind
  ·next q=>
   obtain⟨F,G,d,I,J⟩:=EP s at' A k (eB.1 q);rw[aA q];split at h
   ·grind
   ·next e=>
    rw[aA e];have:=KW s _ (bC s at' k).2.2.1 (bC s at' k).2.1 (by omega) d.1 d.2 (eB.1 e)
    grind [fS,bC]
theorem aB4 {a c:List UInt8} {i:Nat} (h:i<a.length):gC (a++c) i=gC a i++c:=by grind [gC]
theorem aB5:∀(l:List Int) (a c:List UInt8),(∀x∈l,0<=x/\x<(a.length:Int))->unL (a++c) l=unL a l/\unA (a++c) l=unA a l++c
 |[],_,_,_=>⟨rfl,rfl⟩
 |x::l,a,c,h=>by
  have d:=h x (jK ..);have e:=aB5 l (gC a x.toNat) c (fun y A=>by grind [BF,unL,unA])
  grind [gC,aB4,unL,unA]
def cT (n:Nat):List UInt8:=(eT n).map eA
theorem sT (n:Nat):(cT n).length=n:=by simp[cT]
theorem RH {n:Nat} (h:n<=6):cT 6=cT n++(cT 6).drop n:=by
 have e:(cT 6).take n=cT n:=by
  unfold cT;rw[<-List.map_take,List.take_range,Nat.min_eq_left h]
 rw[<-e,kH]
theorem RI {n:Nat} (h:n<=6) (b:UInt8):b∈cT n↔b.toNat<n:=by
 unfold cT;rw[List.mem_map];constructor
 ·grind [nD,jT,cT]
 ·intro d;exact⟨b.toNat,List.mem_range.2 d,by simp⟩
def oC (p:Int):List Bool:=aX p.toNat true++[false]
def eW (l:List Int):List Bool:=l.flatMap oC
theorem RJ (l:List Int) (p:Int):eW (l++[p])=eW l++oC p:=by simp[eW,oC]
def lY (s:List UInt8) (tables:Int):Nat->Int->Int->Int×Int×Int
 |0,_,_=>(0,0,2)
 |f+1,at',n=>
  if aP s.length at' 1≠0 then(0,0,aP s.length at' 1)
  else if aK s at' 1=0 then(n,at'+1,0)
  else if n+1=tables then(0,0,3)
  else lY s tables f (at'+1) (n+1)
def kN (s:List UInt8) (tables at' n:Int):Int×Int×Int:=lY s tables (8*s.length+2) at' n
theorem RK (s:List UInt8) (tables:Int):∀(f g:Nat) (at' n:Int),0<=at'->8*(s.length:Int)+1-at'<=f->8*(s.length:Int)+1-at'<=g->1<=f->1<=g->lY s tables f at' n=lY s tables g at' n
 |0,_,_,_,_,_,_,h,_=>by omega
 |_,0,_,_,_,_,_,_,h=>by omega
 |f+1,g+1,at',n,e,A,D,_,_=>by
  unfold lY;split
  ·rfl
  ·next d=>
   have d:=iG (eB.1 d);split
   ·rfl
   ·split
    ·rfl
    ·exact RK s tables f g _ _ (by omega) (by omega) (by omega) (by omega) (by omega)
theorem KX (s:List UInt8) (tables at' n:Int) (d:0<=at'):kN s tables at' n=
  if aP s.length at' 1≠0 then(0,0,aP s.length at' 1)
  else if aK s at' 1=0 then(n,at'+1,0)
  else if n+1=tables then(0,0,3)
  else kN s tables (at'+1) (n+1):=by grind [kN,lY,iG,RK,aP,aK]
theorem KY (s:List UInt8) (tables:Int):∀(f:Nat) (at' n:Int),0<=at'->0<=n->n<tables->(lY s tables f at' n).2.2=0->0<=(lY s tables f at' n).1/\(lY s tables f at' n).1<tables/\at'<(lY s tables f at' n).2.1/\(lY s tables f at' n).2.1<=8*(s.length:Int)
 |0,_,_,_,_,_,h=>by unfold lY at h;simp at h
 |f+1,at',n,e,A,D,h=>by
  unfold lY at h ⊢;split at h
  ·grind
  ·next q=>
   have F:=iG (eB.1 q);rw[aA q];split at h
   ·grind
   ·next k=>
    rw[aA k];split at h
    ·simp at h
    ·next d=>
     rw[aA d];have:=KY s tables f (at'+1) (n+1) (by omega) (by omega) (by omega) h;omega
def dR (s:List UInt8) (tables at':Int):Nat->List Int×Int×Int
 |0=>([],at',0)
 |k+1=>
  let p:=dR s tables at' k
  if p.2.2≠0 then p
  else let q:=kN s tables p.2.1 0
   if q.2.2≠0 then(p.1,p.2.1,q.2.2) else(p.1++[q.1],q.2.1,0)
theorem BV (s:List UInt8) (tables at':Int) (A:0<=at') (d:0<tables):∀k,(dR s tables at' k).2.2=0->(dR s tables at' k).1.length=k/\(∀x∈(dR s tables at' k).1,0<=x/\x<tables)/\at'<=(dR s tables at' k).2.1/\((dR s tables at' k).2.1=at'\/(dR s tables at' k).2.1<=8*(s.length:Int))
 |0,_=>⟨rfl,fun x D=>by grind [dR],Int.le_refl _,.inl rfl⟩
 |k+1,h=>by
  unfold dR at h ⊢;simp only at h ⊢;split at h
  ·grind
  ·next q=>
   obtain⟨F,G,I,J⟩:=BV s tables at' A d k (eB.1 q);rw[aA q];split at h
   ·grind
   ·next e=>
    rw[aA e];have:=KY s tables (8*s.length+2) (dR s tables at' k).2.1 0 (by omega) (by omega) d (eB.1 e)
    grind [kN,dR]
def eD (s:List UInt8) (at' n tables:Int):List Int×Int×Int:=
 if tables<2\/6<tables\/at'<0\/n<0\/1048576<n then([],0,1)
 else let p:=dR s tables at' n.toNat
  if p.2.2≠0 then([],0,p.2.2) else((unL (cT tables.toNat) p.1).map (fun b=>(b.toNat:Int)),p.2.1,0)
def wH (x:BitVec 32):BitVec 32:=if x.msb then(x<<<1)^^^79764919#32 else x<<<1
def wI (x:BitVec 32) (b:Bool):BitVec 32:=if x.msb != b then(x<<<1)^^^79764919#32 else x<<<1
def mB:Nat->BitVec 32->BitVec 32
 |0,x=>x
 |k+1,x=>wH (mB k x)
theorem aCd (x y:BitVec 32):wH (x^^^y)=wH x^^^wH y:=by grind [wH]
theorem RQ (k:Nat) (x y:BitVec 32):mB k (x^^^y)=mB k x^^^mB k y:=by
 induction k with
 |zero=>rfl
 |succ k d=>unfold mB;rw[d,aCd]
def nL (i:Nat):BitVec 32:=mB 8 (pZ 32 i<<<24)
def rP (x:BitVec 32) (b:Nat):Nat->BitVec 32
 |0=>x
 |k+1=>wI (rP x b k) (b.testBit (7-k))
theorem aTe:∀b:Fin 256,∀k:Fin 8,wI (0#32) (b.val.testBit (7-k.val))^^^(pZ 32 b.val<<<(24+k.val+1))=wH (pZ 32 b.val<<<(24+k.val)):=by decide+kernel
theorem aTf (x:BitVec 32) (b:Bool):wI x b=wH x^^^wI (0#32) b:=by grind [wI,wH]
theorem aTg (x:BitVec 32) (b:Nat) (d:b<256):∀k,k<=8->rP x b k^^^(pZ 32 b<<<(24+k))=mB k (x^^^(pZ 32 b<<<24)):=by
 intro k
 induction k with
 |zero=>intro _;rfl
 |succ k e=>
  intro A;have h:=e (by omega);unfold mB rP;rw[<-h,aCd,aTf,BitVec.xor_assoc]
  congr 1
  exact aTe ⟨b,d⟩ ⟨k,by omega⟩
theorem aTh:∀b:Fin 256,pZ 32 b.val<<<32=0#32:=by decide+kernel
theorem aTi (x:BitVec 32) (b:Nat) (d:b<256):rP x b 8=mB 8 (x^^^(pZ 32 b<<<24)):=by grind [aTg,aTh,rP,mB]
theorem aTj:∀k (x:BitVec 32),x.toNat*2^k<4294967296->(mB k x).toNat=x.toNat*2^k:=by
 intro k
 induction k with
 |zero=>intro x _;simp[mB]
 |succ k d=>
  intro x e;rw[oP,<-DK] at e ⊢;have h:=d x (by omega);unfold mB wH;have A:(mB k x).msb=false:=by grind
  rw[A,aA (by decide),IR,h,IS];rw[jT (by simp;omega)]
theorem aTk (x:BitVec 32):x=(x&&&0xffffff#32)^^^((x>>>24)<<<24):=by
 apply BitVec.eq_of_getLsbD_eq;intro i d;simp only[BitVec.getLsbD_xor,BitVec.getLsbD_and,BitVec.getLsbD_shiftLeft,BitVec.getLsbD_ushiftRight]
 by_cases h:i<24
 ·have:(0xffffff#32).getLsbD i=true:=by
   rcases(show ∃j:Fin 24,j.val=i from⟨⟨i,h⟩,rfl⟩) with⟨j,rfl⟩;exact(by decide+kernel:∀j:Fin 24,(0xffffff#32).getLsbD j.val=true) j
  simp[h,this]
 ·have:(0xffffff#32).getLsbD i=false:=by
   rcases(show ∃j:Fin 8,j.val+24=i from⟨⟨i-24,by omega⟩,by simp;omega⟩) with⟨j,rfl⟩;exact(by decide+kernel:∀j:Fin 8,(0xffffff#32).getLsbD (j.val+24)=false) j
  grind
theorem aTl (c:BitVec 32) (b:Nat) (e:b<256):rP c b 8=(c<<<8)^^^nL ((c>>>24).toNat^^^b):=by
 rw[aTi c b e];have A:=aTk c;have D:mB 8 (c&&&0xffffff#32)=c<<<8:=by
  apply BitVec.eq_of_toNat_eq;have d:(c&&&0xffffff#32).toNat=c.toNat%16777216:=by
   rw[BitVec.toNat_and];exact Nat.and_two_pow_sub_one_eq_mod c.toNat 24
  rw[aTj 8 _ (by rw[d];omega),d,IR,IS];omega
 grind [pZ,BitVec.eq_of_toNat_eq,BitVec.toNat_ushiftRight,Nat.shiftRight_eq_div_pow,Nat.xor_lt_two_pow,BitVec.toNat_ofNat,BitVec.toNat_xor,jT,nL,BitVec.shiftLeft_xor_distrib,RQ,BitVec.xor_assoc,rP]
def nM (c:BitVec 32) (s:List UInt8):BitVec 32:=s.foldl (fun c b=>rP c b.toNat 8) c
def cH (s:List UInt8):BitVec 32:= ~~~ nM (0xffffffff#32) s
theorem aTm (c:BitVec 32) (s:List UInt8) (b:UInt8):nM c (s++[b])=rP (nM c s) b.toNat 8:=by simp[nM,rP]
def mG (c:UInt8):Nat->List UInt8->Nat
 |0,_=>0
 |_+1,[]=>0
 |n+1,b::s=>if b=c then mG c n s+1 else 0
theorem aCe (c:UInt8):∀n s,mG c n s<=n/\mG c n s<=s.length
 |0,_=>by simp[mG]
 |n+1,[]=>by simp[mG]
 |n+1,b::s=>by
  have:=aCe c n s
  grind [mG]
theorem aCf (c:UInt8):∀n s k,k<mG c n s->s[k]? =some c
 |0,_,k,h=>by simp[mG] at h
 |n+1,[],k,h=>by simp[mG] at h
 |n+1,b::s,k,h=>by
  unfold mG at h;split at h
  ·next e=>
   cases k with
   |zero=>simp[e]
   |succ k=>simpa using aCf c n s k (by omega)
  ·omega
theorem aCg (c:UInt8):∀n s,mG c n s<n->s[mG c n s]?≠some c
 |0,_,h=>by omega
 |n+1,[],h=>by simp[mG]
 |n+1,b::s,h=>by
  unfold mG at h ⊢;split
  ·next e=>
   rw[aB e] at h
   simpa using aCg c n s (by omega)
  grind
theorem aCh (c:UInt8):∀n s k,k<=n->(∀j,j<k->s[j]? =some c)->(k=n\/s[k]?≠some c)->mG c n s=k
 |0,_,k,h,_,_=>by simp[mG];omega
 |n+1,[],k,h,e,d=>by
  cases k with
  |zero=>rfl
  |succ k=>have:=e 0 (by omega);simp at this
 |n+1,b::s,k,h,e,d=>by
  unfold mG
  cases k with
  |zero=>
   rw[aA];rintro rfl;rcases d with d|d
   ·omega
   ·simp at d
  |succ k=>
   have A:=e 0 (by omega);rw[aB (by simpa using A),aCh c n s k (by omega) (fun j D=>by grind)];rcases d with d|d
   ·grind
   ·grind
def bF (s:List UInt8):Nat:=match s with
 |[]=>0
 |c::r=>mG c 255 (c::r)
theorem mH (s:List UInt8) (h:s≠[]):1<=bF s/\bF s<=255/\bF s<=s.length:=by
 cases s with
 |nil=>exact absurd rfl h
 |cons c r=>
  have:=aCe c 255 (c::r);refine⟨?_,this.1,this.2⟩;show 1<=mG c 255 (c::r);unfold mG;rw[aB rfl];omega
def pP (s:List UInt8) (n:Nat):List UInt8:=s.take (min n 4)++if 4<=n then[eA (n-4)] else[]
def xP:Nat->List UInt8->List UInt8
 |0,_=>[]
 |_+1,[]=>[]
 |f+1,c::r=>pP (c::r) (bF (c::r))++xP f ((c::r).drop (bF (c::r)))
theorem aCi:∀f g s,s.length<=f->s.length<=g->xP f s=xP g s
 |0,g,s,d,e=>by
  have:s=[]:=nX.1 (by omega);subst this
  cases g<;>rfl
 |f+1,0,s,d,e=>by grind [xP]
 |f+1,g+1,[],_,_=>rfl
 |f+1,g+1,c::r,d,e=>by
  unfold xP;have:=mH (c::r) (by simp);rw[aCi f g _ (by grind) (by grind)]
def bT (s:List UInt8):List UInt8:=xP s.length s
theorem LD:bT []=[]:=rfl
theorem CB (s:List UInt8) (h:s≠[]):bT s=pP s (bF s)++bT (s.drop (bF s)):=by
 cases s with
 |nil=>exact absurd rfl h
 |cons c r=>
  have:=mH (c::r) h;show xP (r.length+1) (c::r)=_;unfold xP bT;rw[aCi r.length ((c::r).drop (bF (c::r))).length _ (by grind) (aD _)]
theorem RR (s:List UInt8) (n:Nat) (h:n<=s.length):(pP s n).length=if n<4 then n else 5:=by grind [pP]
theorem aTn {s:List UInt8} {out:List UInt8} (h:s≠[]) {d:List UInt8} (e:out++bT s=d):(out++pP s (bF s))++bT (s.drop (bF s))=d:=by grind [CB,bT,pP,bF]
def unS:Nat->UInt8->List UInt8->Option (List UInt8)
 |r,_,[]=>if r=4 then none else some []
 |r,c,b::s=>if r=4 then(unS 0 c s).map (aX b.toNat c++·)
  else if 0<r/\b=c then(unS (r+1) c s).map (b::·)
  else(unS 1 b s).map (b::·)
def eX (s:List UInt8):Option (List UInt8):=unS 0 0 s
theorem aTo (c d:UInt8):∀s,unS 0 c s=unS 0 d s
 |[]=>rfl
 |b::s=>by simp[unS]
theorem aTp {r:Nat} {c:UInt8} {s:List UInt8} (d:r<4) (h:∀b,s.head? =some b->b≠c):unS r c s=unS 0 0 s:=by
 cases s with
 |nil=>unfold unS;rw[aA (by omega),aA (by decide)]
 |cons b s=>
  have:=h b rfl;unfold unS;rw[aA (by omega),aA (by grind),aA (by decide),aA (by simp)]
theorem RS (c:UInt8):∀(n r:Nat) (s:List UInt8),0<r->r+n<=4->unS r c (aX n c++s)=(unS (r+n) c s).map (aX n c++·)
 |0,r,s,_,_=>by simp
 |n+1,r,s,d,e=>by
  rw[GX,fF]
  conv=>lhs;unfold unS
  rw[aA (by omega),aB ⟨d,rfl⟩,RS c n (r+1) s (by omega) (by omega),XJ,show r+1+n=r+(n+1) by omega];rfl
theorem aCj {c:UInt8} {n:Nat} {s:List UInt8} (d:1<=n) (e:n<4) (h:∀b,s.head? =some b->b≠c):eX (aX n c++s)=(eX s).map (aX n c++·):=by
 obtain⟨k,rfl⟩:∃k,n=k+1:=⟨n-1,by omega⟩;unfold eX;rw[GX,fF]
 conv=>lhs;unfold unS
 rw[aA (by decide),aA (by simp),RS c k 1 s (by decide) (by omega),aTp (r:=1+k) (by omega) h,XJ];rfl
theorem RT (c:UInt8) (s:List UInt8):eX (aX 4 c++s)=match s with
  |[]=>none
  |b::r=>(eX r).map (aX 4 c++aX b.toNat c++·):=by
 unfold eX;rw[show aX 4 c=c::aX 3 c from rfl,fF]
 conv=>lhs;unfold unS
 rw[aA (by decide),aA (by simp),RS c 3 1 s (by decide) (by decide),XJ]
 cases s with
 |nil=>unfold unS;rfl
 |cons b r=>
  show Option.map _ (unS 4 c (b::r))=_
  conv=>lhs;unfold unS
  rw[aB rfl,XJ,aTo c 0]
  congr 1
theorem RU {s:List UInt8} {c:UInt8} (h:s.head? =some c):s.take (bF s)=aX (bF s) c/\(bF s<255->(s.drop (bF s)).head?≠some c):=by
 cases s with
 |nil=>simp at h
 |cons d r=>
  obtain rfl:d=c:=by simpa using h
  have e:=(mH (d::r) (by simp)).2.2;have A:=aCf d 255 (d::r);constructor
  ·apply lH
   grind [bF]
  ·grind [List.head?_drop,aCg,bF]
theorem aTq {s:List UInt8} (h:s≠[]):(bT s).head? =s.head? :=by
 rw[CB s h];have e:=mH s h
 cases s with
 |nil=>exact absurd rfl h
 |cons c r=>
  unfold pP;obtain⟨k,d⟩:∃k,min (bF (c::r)) 4=k+1:=⟨min (bF (c::r)) 4-1,by omega⟩;rw[d,List.take_succ_cons];rfl
theorem aCk:∀(n:Nat) (s:List UInt8),s.length<=n->eX (bT s)=some s
 |0,s,h=>by
  have:s=[]:=nX.1 (by omega);subst this;rfl
 |n+1,s,h=>by
  cases d:s with
  |nil=>rfl
  |cons c r=>
   rw[<-d];have A:s≠[]:=by rw[d];simp
   have J:=mH s A;obtain⟨D,L⟩:=RU (s:=s) (c:=c) (by rw[d];rfl);have F:=aCk n (s.drop (bF s)) (by grind);have G:aX (bF s) c++s.drop (bF s)=s:=by rw[<-D,kH]
   rw[CB s A];unfold pP
   by_cases I:4<=bF s
   ·rw[aB I,show min (bF s) 4=4 by omega];have e:s.take 4=aX 4 c:=by grind
    rw[e,bU,RT];simp only[List.singleton_append];rw[F,Option.map_some,nD,jT (by omega),bGn,show 4+(bF s-4)=bF s by omega,G]
   ·grind [bF,aCj,LD,aTq,eX,bT]
theorem uM:∀(n:Nat) (s:List UInt8),s.length<=n->(bT s).length<=2*s.length/\(s≠[]->bT s≠[])/\s.length<=52*(bT s).length
 |0,s,h=>by
  have:s=[]:=nX.1 (by omega);subst this;exact⟨by simp[LD],fun q=>absurd rfl q,by simp⟩
 |n+1,s,h=>by
  by_cases d:s=[]
  ·grind [LD,bT]
  ·have e:=mH s d;obtain⟨A,_,D⟩:=uM n (s.drop (bF s)) (by grind)
   grind [CB,RR,bT]
theorem aUx (d:List UInt8):eX d=(unS 0 0 d).map ([]++·):=by simp[eX,unS]
theorem EU {o m:List UInt8} (x:Option (List UInt8)):(x.map (m++·)).map (o++·)=x.map ((o++m)++·):=by
 cases x with
 |none=>rfl
 |some y=>simp
theorem aUy {d o s:List UInt8} {c b:UInt8} (h:eX d=(unS 4 c (b::s)).map (o++·)):eX d=(unS 0 c s).map ((o++aX b.toNat c)++·):=by grind [unS,EU,eX]
theorem aUz {d o s:List UInt8} {r:Nat} {c:UInt8} (h:eX d=(unS r c (c::s)).map (o++·)) (e:0<r) (A:r≠4):eX d=(unS (r+1) c s).map ((o++[c])++·):=by
 rw[h]
 conv=>lhs;unfold unS
 rw[aA A,aB ⟨e,rfl⟩];exact EU (m:=[c]) _
theorem aDg {d o s:List UInt8} {r:Nat} {c b:UInt8} (h:eX d=(unS r c (b::s)).map (o++·)) (e:r≠4) (A:¬(0<r/\b=c)):eX d=(unS 1 b s).map ((o++[b])++·):=by
 rw[h]
 conv=>lhs;unfold unS
 rw[aA e,aA A];exact EU (m:=[b]) _
theorem aU0 {d o:List UInt8} {r:Nat} {c:UInt8} (h:eX d=(unS r c []).map (o++·)):eX d=if r=4 then none else some o:=by grind [unS,eX]
theorem LN {α:Type} (o l:List α) (k:Nat):(o.take k++l).take k=(o++l).take k:=by grind [Nat.le_total,aQ,Nat.min_self,cD]
def jX (p:List UInt8) (most:Int):List UInt8×Int:=match eX p with
 |none=>([],3)
 |some o=>if most<(o.length:Int) then([],4) else(o,0)
theorem aDh {p:List UInt8} {most:Int} (h:eX p=none):jX p most=([],3):=by unfold jX;rw[h]
theorem SJ {p o:List UInt8} {most:Int} (h:eX p=some o):jX p most=if most<(o.length:Int) then([],4) else(o,0):=by unfold jX;rw[h]
theorem aU1:∀(s:List UInt8) (r:Nat) (c:UInt8) (o:List UInt8),unS r c s=some o->s≠[]->r≠4->o≠[]
 |[],_,_,_,_,h,_=>absurd rfl h
 |b::s,r,c,o,h,_,d=>by
  unfold unS at h;rw[aA d] at h;split at h
  ·cases q:unS (r+1) c s with
   |none=>rw[q] at h;simp at h
   |some y=>rw[q] at h;simp at h;rw[<-h];simp
  ·cases q:unS 1 b s with
   |none=>rw[q] at h;simp at h
   |some y=>rw[q] at h;simp at h;rw[<-h];simp
theorem aU2 {p:List UInt8} {most:Int} (d:p≠[]) (h:(jX p most).2=0):(jX p most).1≠[]/\((jX p most).1.length:Int)<=most:=by grind [jX,eX,aU1]
theorem zL {s:List UInt8} {k:Nat} (e:k<=255) (d:k<=s.length) (D:∀j,j<k->s[j]? =s[0]?) (A:k=255\/k=s.length\/s[k]?≠s[0]?):bF s=k:=by
 cases s with
 |nil=>simp at d;subst d;rfl
 |cons c r=>
  show mG c 255 (c::r)=k;refine aCh c 255 _ k e (fun j F=>by grind) ?_;rcases A with h|h|h
  ·exact .inl h
  ·grind
  ·grind
theorem aU3 {α:Type} {X Y:List α} {c:α} {k n M:Nat} (d:k<=n) (A:Y=(X++aX k c).take (M+1)) (D:M<Y.length):(X++aX n c).take (M+1)=Y:=by
 have F:M+1<=(X++aX k c).length:=by grind
 have e:aX n c=aX k c++aX (n-k) c:=by grind [bGn]
 grind
theorem aU4 {α:Type} {X Y:List α} {c:α} {k M:Nat} (d:Y=(X++aX k c).take (M+1)) (e:Y.length<=M):Y++[c]=(X++aX (k+1) c).take (M+1):=by grind [aX,aQ,cD,List.replicate_succ',bU,aL,fQ]
end
end Go.Proofs.YtfckbfofgeilgaaGreatDoor
