/-
  Texts put together (part 25): the walks and the plain laws on which the statement stands.
-/
import Derived.Test.YtiifmcicleljjaaGreatDoorZ24
set_option maxRecDepth 100000
set_option maxHeartbeats 12800000
open Go renaming bodyPost_ret->gJ
open Go.IntKind renaming i64->aI,u64->fU,wrap_i64->aM,wrap_u64->gF
open Go.RowKit.Below renaming refl->aB
open Int renaming natCast_zero->OF,toNat_natCast->eG
open List renaming append_assoc->cF,getD_eq_getElem?_getD->aV,getElem?_eq_getElem->aN,getElem_mem->gT,length_append->aL,length_cons->cR,length_nil->cX,length_take->aX,mem_of_getElem?->cH,mem_of_mem_take->nO,replicate->bB,take_add_one->cQ,take_length->kE,take_of_length_le->cS
open Nat renaming le_refl->aA,min_eq_left->gU,mul_assoc->vH,mul_comm->oG,mul_le_mul_left->aCp,pow_le_pow_right->jC,pow_pos->xL,pow_succ->nQ,zero_le->aU
namespace Go.Proofs.YtiifmcicleljjaaGreatDoor
open Go.RowKit Go Go.Shelf
theorem aHs {l:List Int} {k:Nat} {x:Int} (h:l[k]? =some x):jR (l.take (k+1))=jR (l.take k)+2^(20-x.toNat):=by
 unfold jR;rw[cQ,h];simp
theorem SV (l:List Int):jR l<=1048576*l.length:=by
 unfold jR
 induction l with
 |nil=>simp
 |cons x l ih=>
  rw[List.map_cons,List.sum_cons,cR];have:2^(20-x.toNat)<=2^20:=jC (by decide) (by omega);have e:(2:Nat)^20=1048576:=by decide
  omega
theorem DH (v:Value) (l:List Int) (w:World) (hr:RdI w v l):
  Calls Tryz.prog 161 #[v] w fun e w'=>e=.returned (.int .i64 (bL l))/\w'=w:=by
 obtain⟨a,ca,rfl,hca,hma,hA⟩:=hr.open;unfold maxLen at hma;clear hr
 by_cases h2:2<=l.length/\l.length<=258
 rotate_left
 ·have HC:=hid (ST h2)
  by_cases h3:l.length<2
  ·have t1:decide ((l.length:Int)<2)=true:=decide_eq_true (by omega);go_enter Tryz.func161,Tryz.ntmps161;go_wp2_with fail;go_ret;exact⟨by rw[HC.out];rfl,rfl⟩
  ·have t1:decide ((l.length:Int)<2)=false:=decide_eq_false (by omega);have t2:decide ((l.length:Int)>258)=true:=decide_eq_true (by omega);have t3:decide ((258:Int)<(l.length:Int))=true:=decide_eq_true (by omega);go_enter Tryz.func161,Tryz.ntmps161;go_wp2_with fail;go_ret;exact⟨by rw[HC.out];rfl,rfl⟩
 ·have t1:decide ((l.length:Int)<2)=false:=decide_eq_false (by omega);have t2:decide ((l.length:Int)>258)=false:=decide_eq_false (by omega);have t3:decide ((258:Int)<(l.length:Int))=false:=decide_eq_false (by omega);go_enter Tryz.func161,Tryz.ntmps161;go_wp2_with fail;clear t1 t2 t3
  go_loopg [3] l.length (fun g s3 wr=>∃k:Nat,k<=l.length/\g=l.length-k/\s3=.int .i64 (k:Int)/\Hid (∀x∈l.take k,1<=x/\x<=20)/\wr=w)
  case atStart=>exact⟨0,aU _,rfl,rfl,hid (fun x hx=>by simp at hx),rfl⟩
  case round=>
   obtain⟨k,hk,hg,rfl,HX,rfl⟩:=hrel;have HG:=hid hg;clear hg
   by_cases hlt:k<l.length
   ·have t1:decide ((k:Int)<(l.length:Int))=true:=decide_eq_true (by omega);obtain⟨b1,o1,rfl,hb1,hc1⟩:=hA (by omega);obtain⟨x,hx⟩:=dH hlt;have c1:=hc1 k x hx;clear hc1 hA
    by_cases hx1:x<1
    ·have u1:decide (x<1)=true:=decide_eq_true hx1;have HC:=hid (DG hx (by omega));clear hx;go_wp2_with fail;go_ret;exact⟨by rw[HC.out];rfl,rfl⟩
    ·have u1:decide (x<1)=false:=decide_eq_false hx1
     by_cases hx2:20<x
     ·have u2:decide (20<x)=true:=decide_eq_true hx2;have u3:decide (x>20)=true:=decide_eq_true hx2;have HC:=hid (DG hx (by omega));clear hx;go_wp2_with fail;go_ret;exact⟨by rw[HC.out];rfl,rfl⟩
     ·have u2:decide (20<x)=false:=decide_eq_false hx2;have u3:decide (x>20)=false:=decide_eq_false hx2;have HS:=hid (show ∀y∈l.take (k+1),1<=y/\y<=20 from fun y hy=>by
       rw[cQ,hx] at hy;rcases List.mem_append.1 hy with hy|hy
       ·exact HX.out y hy
       ·simp at hy;omega)
      clear hx;go_wp2_with fail;have hg:=HG.out
      go_roundg (l.length-(k+1))
      case measure=>omega
      case rel=>exact⟨k+1,by omega,rfl,by go_num,HS,rfl⟩
   ·have t1:decide ((k:Int)<(l.length:Int))=false:=decide_eq_false (by omega);have hall:=HX.out;rw[cS (by omega)] at hall;have HALL:=hid hall;have HC:=hid (SU ⟨h2.1,h2.2,hall⟩);have hkl:=SV l;clear hall HX;go_wp2_with fail
    go_loopg [4,5] l.length (fun g s4 s5 wx=>∃k K:Nat,k<=l.length/\g=l.length-k/\s5=.int .i64 (k:Int)/\s4=.int .i64 (K:Int)/\Hid (K=jR (l.take k))/\wx=wr)
    case atStart=>exact⟨0,0,aU _,rfl,rfl,rfl,hid rfl,rfl⟩
    case round=>
     obtain⟨k,K,hk,hg,rfl,rfl,HK,rfl⟩:=hrel;have HG:=hid hg;clear hg;have hKb:=SV (l.take k);rw[<-HK.out,aX] at hKb;have hKb2:K<=300000000:=by omega
     clear hKb
     by_cases hlt:k<l.length
     ·have t1:decide ((k:Int)<(l.length:Int))=true:=decide_eq_true (by omega);obtain⟨b1,o1,rfl,hb1,hc1⟩:=hA (by omega);obtain⟨x,hx⟩:=dH hlt;have c1:=hc1 k x hx;have hxb:=HALL.out x (cH hx);obtain⟨q,hq⟩:∃q:Nat,q=20-x.toNat:=⟨_,rfl⟩;have m1:aI.wrap (20-x)=(q:Int):=by rw[aM];omega
      have m1':20-x=(q:Int):=by omega
      have m2:min q 64=q:=by omega
      obtain⟨P,hP⟩:∃P:Nat,P=2^q:=⟨_,rfl⟩;have hPb:P<=1048576:=by rw[hP];exact jC (n:=2) (i:=q) (j:=20) (by decide) (by omega)
      have e1:(2:Int)^q=(P:Int):=by rw[hP];push_cast;rfl
      have m3:aI.wrap (P:Int)=(P:Int):=by rw[aM];omega
      have HS:=hid (show jR (l.take (k+1))=K+P by rw[aHs hx,<-HK.out,hP,hq]);obtain⟨K2,hK2⟩:∃K2:Nat,K2=K+P:=⟨_,rfl⟩;have m4:aI.wrap ((K:Int)+(P:Int))=(K2:Int):=by rw[aM];omega
      have m4':(K:Int)+(P:Int)=(K2:Int):=by omega
      have HK2:=hid hK2;clear hq hP hx hc1 hA hK2;go_wp2_with fail;have hg:=HG.out
      go_roundg (l.length-(k+1))
      case measure=>omega
      case rel=>exact⟨k+1,K2,by omega,rfl,by go_num,rfl,hid (by rw[HS.out,HK2.out]),rfl⟩
     ·have t1:decide ((k:Int)<(l.length:Int))=false:=decide_eq_false (by omega);have hKK:=HK.out;rw[cS (by omega)] at hKK;have hC:=HC.out;rw[<-hKK] at hC
      by_cases hbig:1048576<K
      ·rw[if_pos hbig] at hC;have HC2:=hid hC;have u1:decide ((1048576:Int)<(K:Int))=true:=decide_eq_true (by omega);have u2:decide ((K:Int)>1048576)=true:=decide_eq_true (by omega);clear hC hKK;go_wp2_with fail;go_ret;exact⟨by rw[HC2.out];rfl,rfl⟩
      ·rw[if_neg hbig] at hC;have HC2:=hid hC;have u1:decide ((1048576:Int)<(K:Int))=false:=decide_eq_false (by omega);have u2:decide ((K:Int)>1048576)=false:=decide_eq_false (by omega);clear hC hKK;go_wp2_with fail;go_ret;exact⟨by rw[HC2.out];rfl,rfl⟩
def lH (l:List Int) (n i d:Nat):Value×Value:=if bG l d<n\/(bG l d=n/\d<i) then qP l d else(.int .i64 0,.int .u64 0)
theorem aHt {l:List Int} (h:fY l):cD l.length (lH l 1 0)=cD l.length (fun _=>(.int .i64 0,.int .u64 0)):=
 rS fun d hd=>by
  have:=(jG h hd).1;unfold lH;rw[if_neg (by omega)]
theorem aHu (l:List Int) (n:Nat):cD l.length (lH l n l.length)=cD l.length (lH l (n+1) 0):=
 rS fun d hd=>by
  unfold lH
  by_cases h:bG l d<=n
  ·rw[if_pos (by omega),if_pos (by omega)]
  ·rw[if_neg (by omega),if_neg (by omega)]
theorem aHv {l:List Int} (h:fY l):cD l.length (lH l 21 0)=cD l.length (qP l):=
 rS fun d hd=>by
  have:=(jG h hd).2.1;unfold lH;rw[if_pos (by omega)]
theorem aHw {l:List Int} {n i:Nat} (h:bG l i≠n):cD l.length (lH l n i)=cD l.length (lH l n (i+1)):=
 rS fun d hd=>by
  unfold lH
  by_cases h1:d=i
  ·subst h1
   by_cases h2:bG l d<n
   ·rw[if_pos (by omega),if_pos (by omega)]
   ·rw[if_neg (by omega),if_neg (by omega)]
  ·by_cases h2:bG l d<n\/(bG l d=n/\d<i)
   ·rw[if_pos h2,if_pos (by omega)]
   ·rw[if_neg h2,if_neg (by omega)]
theorem aHx {l:List Int} {n i:Nat} (h:bG l i=n):((cD l.length (lH l n i)).set (i*2) (.int .i64 (n:Int))).set (i*2+1) (.int .u64 (fO l i:Int))=cD l.length (lH l n (i+1)):=
 KG _ _ _ _ _ _ fun d hd=>by
  unfold lH
  by_cases h1:d=i
  ·subst h1;rw[if_pos (by omega),if_pos rfl];unfold qP;rw[h]
  ·rw[if_neg h1]
   by_cases h2:bG l d<n\/(bG l d=n/\d<i)
   ·rw[if_pos h2,if_pos (by omega)]
   ·rw[if_neg h2,if_neg (by omega)]
theorem aHy (l:List Int) (n:Nat):iW l (n+1) 0=2*iW l n l.length:=by
 unfold iW;rw[List.take_zero,kE];rfl
theorem aHz {l:List Int} {n i:Nat} (hi:i<l.length) (h:l.getD i 0≠(n:Int)):iW l n (i+1)=iW l n i:=by
 unfold iW;rw[BN hi,if_neg (by simpa using h)];rfl
theorem aH0 {l:List Int} {n i:Nat} (h:bG l i=n):iW l n i=fO l i:=by
 unfold iW fO;rw[h]
theorem aH1 {l:List Int} {n i:Nat} (hi:i<l.length) (h:l.getD i 0=(n:Int)):iW l n (i+1)=iW l n i+1:=by
 unfold iW;rw[BN hi,if_pos (by simpa using h)];omega
def tA (N V L n:Nat):Prop:=(L=0/\V=0/\N=0)\/(1<=L/\L<=n/\(V+1)*2^(n-L)=N)
theorem aH2 {N V L n:Nat} (h:tA N V L n):tA (2*N) V L (n+1):=by
 rcases h with⟨h1,h2,h3⟩|⟨h1,h2,h3⟩
 ·exact .inl ⟨h1,h2,by omega⟩
 ·refine .inr ⟨h1,by omega,?_⟩;rw[show n+1-L=n-L+1 by omega,nQ,<-vH,h3,oG]
theorem SY {N n:Nat} (h:1<=n):tA (N+1) N n n:=.inr ⟨h,aA _,by simp⟩
theorem aH3 {N V L n:Nat} (h:tA N V L n):V<=N/\L<=n:=by
 rcases h with⟨h1,h2,h3⟩|⟨h1,h2,h3⟩
 ·omega
 ·have:1<=2^(n-L):=xL (by decide);have h4:=aCp (V+1) this;omega
theorem SZ (v:Value) (l:List Int) (w:World) (hr:RdI w v l):
  Calls Tryz.prog 109 #[v] w fun e w'=>∃u,e=.returned (.tuple #[u,.int .i64 (bL l)])/\(bL l=0->Wds w' w.heap.size u l)/\(bL l≠0->u=.slice none 0 0)/\Below w.heap.size w w':=by
 obtain⟨a,ca,rfl,hca,hma,hA⟩:=hr.open;unfold maxLen at hma
 by_cases hE:bL l=0
 rotate_left
 ·have HE:=hid hE;obtain⟨E,hEE⟩:∃E,E=bL l:=⟨_,rfl⟩;rw[<-hEE] at hE;have t0:decide (E=0)=false:=decide_eq_false hE;have t0':(E != 0)=true:=by simpa using hE
  go_enter Tryz.func109,Tryz.ntmps109;go_wp2_with fail;refine(DH _ l _ hr).mono ?_;rintro e w1 ⟨rfl,rfl⟩;rw[<-hEE];have HEE:=hid hEE;clear hEE;go_wp2_with fail
  go_ret2
  exact⟨_,by rw[HEE.out];rfl,fun q=>absurd q HE.out,fun _=>rfl,aB _ _⟩
 ·have hok:=eH hE;have HO:=hid hok.1;have HLN:=hid (fun n i hn=>DJ (l:=l) (n:=n) (i:=i) hok.1 hok.2 hn);have hl2:=hok.1.2.1;have hl1:=hok.1.1;go_enter Tryz.func109,Tryz.ntmps109;go_wp2_with fail;refine(DH _ l _ hr).mono ?_;rintro e w1 ⟨rfl,rfl⟩;rw[hE];have HE:=hid hE;clear hE hok hr;go_wp2_with (at_make;refine mk2 Tryz.underlying149 SX rfl rfl _ _ rfl l.length rfl rfl ?_ ?_ ?_;(omega);(omega));have hA0:=Arr.new w1 153 (cD l.length (fun _=>(.int .i64 0,.int .u64 0)));rw[<-aHt HO.out] at hA0 ⊢
  have hB0:Below w1.heap.size w1 (w1.alloc (.cells (cD l.length (lH l 1 0)).toArray 153)):=bD (aB _ _) _;generalize w1.alloc (.cells (cD l.length (lH l 1 0)).toArray 153)=w0 at*
  have HLT:=hid (fun i (h:i<l.length)=>(jG HO.out h));go_wp2_with fail
  go_loopg [6,7,8,9,10] 20 (fun g s6 s7 s8 _s9 _s10 wr=>∃n V L N:Nat,1<=n/\n<=21/\g=21-n/\s8=.int .i64 (n:Int)/\s7=.int .i64 (L:Int)/\s6=.int .u64 (V:Int)/\tA N V L n/\Hid (N=iW l n 0)/\Arr wr w1.heap.size 153 (cD l.length (lH l n 0))/\Below w1.heap.size w1 wr)
  case atStart=>exact⟨1,0,0,0,by omega,by omega,rfl,rfl,rfl,rfl,.inl ⟨rfl,rfl,rfl⟩,hid (by unfold iW;rw[PA (fun x hx=>(HO.out.2.2 x hx).1)];rfl),hA0,hB0⟩
  case round=>
   obtain⟨n,V,L,N,hn1,hn2,hg,rfl,rfl,rfl,hLW,HN,hArr,hBel⟩:=hrel;have HG:=hid hg;clear hg
   by_cases hn:n<=20
   ·have t1:decide ((n:Int)<=20)=true:=decide_eq_true (by omega);go_wp2_with fail
    go_loopg [6,7,9,10] l.length (fun g s6 s7 s9 _s10 wx=>∃i V L N:Nat,i<=l.length/\g=l.length-i/\s9=.int .i64 (i:Int)/\s7=.int .i64 (L:Int)/\s6=.int .u64 (V:Int)/\tA N V L n/\Hid (N=iW l n i)/\Arr wx w1.heap.size 153 (cD l.length (lH l n i))/\Below w1.heap.size w1 wx)
    case atStart=>exact⟨0,V,L,N,by omega,rfl,rfl,rfl,rfl,hLW,HN,hArr,hBel⟩
    case round=>
     clear hArr hBel hLW HN;obtain⟨i,V,L,N,hi,hg,rfl,rfl,rfl,hLW,HN,hArr,hBel⟩:=hrel;have HG2:=hid hg;clear hg;have hNb:=HLN.out n i hn;rw[<-HN.out] at hNb;have hle:=aH3 hLW
     by_cases hlt:i<l.length
     ·have t2:decide ((i:Int)<(l.length:Int))=true:=decide_eq_true (by omega);obtain⟨b1,o1,rfl,hb1,hc1⟩:=hA (by omega);obtain⟨hx1,hx2,hx⟩:=HLT.out i hlt;have c1:=((lP hBel).1 b1 (o1+i) hb1).trans (hc1 i _ hx);have hgD:l.getD i 0=(bG l i:Int):=by rw[aV,hx];rfl
      have HLE:=hid (rfl:bG l i=bG l i);obtain⟨x,hxe⟩:∃x,x=bG l i:=⟨_,rfl⟩;rw[<-hxe] at c1 hgD hx1 hx2;have HX:=hid hxe;clear hxe hx HLE
      by_cases hxn:x=n
      ·subst hxn;have t3:decide ((x:Int)=(x:Int))=true:=decide_eq_true rfl;have t3':(!decide ((x:Int)=(x:Int)))=false:=by rw[t3];rfl
       have HW:=hid (aH0 (l:=l) HX.out.symm);have HP:=hid (aH1 hlt hgD);have HWP:=hid (aHx (l:=l) (n:=x) (i:=i) HX.out.symm);have d0:=hArr.cell (uR _ _ i hlt);have d1:=hArr.cell (uS _ _ i hlt);have f0:=hArr.free (i*2);have f1:=hArr.free (i*2+1);have hB2:∀u u',Below w1.heap.size w1 ((wr.setCell ⟨w1.heap.size,i*2,none⟩ u).setCell ⟨w1.heap.size,i*2+1,none⟩ u'):=fun u u'=>(hBel.setCell (p:=⟨w1.heap.size,i*2,none⟩) (aA _) u).setCell (p:=⟨w1.heap.size,i*2+1,none⟩) (aA _) u'
       rcases hLW with⟨hL,hV,hN0⟩|⟨hL1,hL2,hL3⟩
       ·have t4:decide ((L:Int)>0)=false:=decide_eq_false (by omega);have t5:decide (0<L)=false:=decide_eq_false (by omega);have t5':¬0<L:=by omega
        have hVW:fO l i=V:=by rw[<-HW.out,<-HN.out];omega
        have hwp:=HWP.out;rw[hVW] at hwp;have HWP2:=hid hwp;have HLW:=hid (show tA (N+1) V x x by rw[show V=N by omega];exact SY hn1);have HN2:=hid (show N+1=iW l x (i+1) by rw[HP.out,HN.out]);clear hwp HWP hVW hL hV hN0 HN HP HW HX hgD HLN;go_wp2_with fail;have hg2:=HG2.out
        go_roundg (l.length-(i+1))
        case measure=>omega
        case rel=>exact⟨i+1,V,x,N+1,by omega,rfl,by go_num,rfl,rfl,HLW.out,HN2,by rw[<-HWP2.out];exact(hArr.set _ _).set _ _,hB2 _ _⟩
       ·have t4:decide ((L:Int)>0)=true:=decide_eq_true (by omega);have t5:decide (0<L)=true:=decide_eq_true (by omega);have t5':0<L:=by omega
        obtain⟨U0,hU0⟩:∃U0,U0=V+1:=⟨_,rfl⟩;have m1:fU.wrap (U0:Int)=(U0:Int):=by rw[gF];omega
        have m1':(V:Int)+1=(U0:Int):=by omega
        have HU0:=hid (show U0*2^(x-L)=N by rw[hU0];exact hL3);have HNW:=hid (show fO l i=N by rw[<-HW.out,<-HN.out]);have HN2:=hid (show N+1=iW l x (i+1) by rw[HP.out,HN.out]);clear hL3 hU0 HN HP HW HX hgD HLN hle;go_wp2_with fail
        go_loopg [6,10] (x-L) (fun g s6 s10 wy=>∃k U:Nat,L<=k/\k<=x/\g=x-k/\s10=.int .i64 (k:Int)/\s6=.int .u64 (U:Int)/\Hid (U*2^(x-k)=N)/\wy=wr)
        case atStart=>exact⟨L,U0,aA _,hL2,rfl,rfl,rfl,HU0,rfl⟩
        case round=>
         obtain⟨k,U,hk1,hk2,hg,rfl,rfl,HU,rfl⟩:=hrel;have HG3:=hid hg;clear hg
         by_cases hkx:k<x
         ·have t6:decide ((k:Int)<(x:Int))=true:=decide_eq_true (by omega);obtain⟨U2,hU2⟩:∃U2,U2=2*U:=⟨_,rfl⟩;have HU2:=hid (show U2*2^(x-(k+1))=N by
           have e:=HU.out;rw[show x-k=x-(k+1)+1 by omega,nQ] at e;rw[hU2,<-e,oG 2 U,vH,oG 2])
          have hU2b:U2<=N:=by
           have e:=HU2.out;have:1<=2^(x-(k+1)):=xL (by decide);have:=aCp U2 this;omega
          have m2:fU.wrap (2*(U:Int))=(U2:Int):=by rw[gF];omega
          have m2':2*(U:Int)=(U2:Int):=by omega
          have m2'':2*(U:Int)%18446744073709551616=(U2:Int):=by omega
          clear hU2;go_wp2_with fail;have hg3:=HG3.out
          go_roundg (x-(k+1))
          case measure=>omega
          case rel=>exact⟨k+1,U2,by omega,by omega,rfl,by go_num,rfl,HU2,rfl⟩
         ·have t6:decide ((k:Int)<(x:Int))=false:=decide_eq_false (by omega);have hke:k=x:=by omega
          have hUN:U=N:=by
           have e:=HU.out;rw[show x-k=0 by omega] at e;omega
          have hwp:=HWP.out;rw[HNW.out,<-hUN] at hwp;have HWP2:=hid hwp;have HLW:=hid (show tA (N+1) U x x by rw[hUN];exact SY hn1);clear hwp HWP hUN HU HNW hke;go_wp2_with fail;have hg2:=HG2.out
          go_roundg (l.length-(i+1))
          case measure=>omega
          case rel=>exact⟨i+1,U,x,N+1,by omega,rfl,by go_num,rfl,rfl,HLW.out,HN2,by rw[<-HWP2.out];exact(hArr.set _ _).set _ _,hB2 _ _⟩
      ·have t3:decide ((x:Int)=(n:Int))=false:=decide_eq_false (by omega);have t3':(!decide ((x:Int)=(n:Int)))=true:=by rw[t3];rfl
       have hne:bG l i≠n:=by rw[<-HX.out];exact hxn
       have hP:=aHz (n:=n) hlt (by rw[hgD];omega);rw[aHw hne] at hArr;have HP:=hid hP;clear hP hgD hne;go_wp2_with fail;have hg2:=HG2.out
       go_roundg (l.length-(i+1))
       case measure=>omega
       case rel=>exact⟨i+1,V,L,N,by omega,rfl,by go_num,rfl,rfl,hLW,hid (by rw[HP.out];exact HN.out),hArr,hBel⟩
     ·have t2:decide ((i:Int)<(l.length:Int))=false:=decide_eq_false (by omega);have hie:i=l.length:=by omega
      subst hie;rw[aHu] at hArr;have hLW2:=aH2 hLW;have HN2:=hid (show 2*N=iW l (n+1) 0 by rw[aHy,<-HN.out]);obtain⟨N2,hN2⟩:∃N2,N2=2*N:=⟨_,rfl⟩;rw[<-hN2] at hLW2 HN2;clear hN2;go_wp2_with fail;have hg:=HG.out
      go_roundg (21-(n+1))
      case measure=>omega
      case rel=>exact⟨n+1,V,L,N2,by omega,by omega,rfl,by go_num,rfl,rfl,hLW2,HN2,hArr,hBel⟩
   ·have t1:decide ((n:Int)<=20)=false:=decide_eq_false (by omega);have hne:n=21:=by omega
    subst hne;rw[aHv HO.out] at hArr;go_wp2_with fail
    go_ret2
    exact⟨_,by rw[HE.out];rfl,fun _=>⟨w1.heap.size,aA _,rfl,hArr⟩,fun q=>absurd HE.out q,hBel⟩
theorem aIk {v n:Nat} (h:1<=n):0<(bI (aY v n)).length:=by rw[cN,cY];omega
theorem aIl {l syms:List Int} {k:Nat} {x:Int} (h:syms[k]? =some x):eR l (syms.take (k+1))=eR l (syms.take k)++aY (fO l x.toNat) (bG l x.toNat):=by
 rw[cQ,h];exact SI ..
theorem TO (v u:Value) (l syms:List Int) (w:World) (hr:RdI w v l) (hu:RdI w u syms) (hE:bL l=0) (hs:∀x∈syms,0<=x/\x<(l.length:Int)) (hn:syms.length<=10000):
  Calls Tryz.prog 48 #[v,u] w fun e w'=>e=.returned (.tuple #[eL (eR l syms),.int .i64 0])/\Below w.heap.size w w':=by
 have hok:=eH hE;have HLT:=hid (fun i (h:i<l.length)=>(jG hok.1 h));have HWB:=hid (fun i (h:i<l.length)=>(IG hok.1 hok.2 h));have hl2:=hok.1.2.1;have HS:=hid hs;have HCL:=hid (fun k=>rR hok.1 (syms.take k) (fun x hx=>hs x (nO hx)));clear hs hok;have hA0:=Arr.new w 29 [.string ⟨#[]⟩,.int .i64 0];have hs0:(w.alloc (.cells #[.string ⟨#[]⟩,.int .i64 0] 29)).heap.size=w.heap.size+1:=by simp
 have hb0:Below w.heap.size w (w.alloc (.cells #[.string ⟨#[]⟩,.int .i64 0] 29)):=bD (aB _ _) _;change Arr (w.alloc (.cells #[.string ⟨#[]⟩,.int .i64 0] 29)) _ _ _ at hA0;go_enter Tryz.func48,Tryz.ntmps48;go_wp2_with fail;generalize w.alloc (.cells #[.string ⟨#[]⟩,.int .i64 0] 29)=w0 at*
 refine(SZ _ l _ (hr.below hb0)).mono ?_;rintro e w1 ⟨uw,rfl,hW,-,hb1⟩;obtain⟨bw,hbw,rfl,hArr⟩:=hW hE;rw[hE];have hu1:=(hu.below hb0).below hb1;have hA1:=hA0.below hb1 (by omega);have hB1:=hb0.trans (hb1.mono (by omega));have hs1:=hb1.size;obtain⟨a,ca,rfl,hca,hma,hA⟩:=hu1.open;unfold maxLen at hma;clear hu hu1 hr hA0 hb0 hb1 hW;go_wp2_with fail
 go_loopg [8,9] syms.length (fun g s8 s9 wr=>∃k:Nat,k<=syms.length/\g=syms.length-k/\s9=.int .i64 (k:Int)/\OwI wr w1.heap.size s8 (bI (eR l (syms.take k)))/\Below w1.heap.size w1 wr)
 case atStart=>exact⟨0,aU _,rfl,rfl,OwI.nil _ _,aB _ _⟩
 case round=>
  obtain⟨k,hk,hg,rfl,ho8,hbel⟩:=hrel;have HG:=hid hg;clear hg;have hsz:=hbel.size
  by_cases hlt:k<syms.length
  ·have t1:decide ((k:Int)<(syms.length:Int))=true:=decide_eq_true (by omega);obtain⟨b1,o1,rfl,hb1,hc1⟩:=hA (by omega);obtain⟨x,hx⟩:=dH hlt;have c1:=((lP hbel).1 b1 (o1+k) hb1).trans (hc1 k _ hx);have hxb:=HS.out x (cH hx);have HT:=hid (aIl (l:=l) hx);have hcl:=HCL.out k;rw[aX,gU hk] at hcl;obtain⟨y,rfl⟩:∃y:Nat,x=(y:Int):=⟨x.toNat,by omega⟩;rw[eG] at HT;have hyl:y<l.length:=by omega
   have hArr':=hArr.below hbel hArr.lt;have d0:=hArr'.cell (uR _ _ y hyl);have d1:=hArr'.cell (uS _ _ y hyl);obtain⟨hy1,hy2,_⟩:=HLT.out y hyl;have hwb:=HWB.out y hyl;unfold qP at d0 d1;obtain⟨n,hn⟩:∃n,n=bG l y:=⟨_,rfl⟩;obtain⟨W,hW⟩:∃W,W=fO l y:=⟨_,rfl⟩;rw[<-hn,<-hW] at d0 d1 HT hwb;rw[<-hn] at hy1 hy2;have hW64:W<18446744073709551616:=Nat.lt_of_lt_of_le hwb (Nat.le_trans (jC (by decide) hy2) (by decide));have u1:decide ((y:Int)<0)=false:=decide_eq_false (by omega);have u2:decide ((y:Int)>=(l.length:Int))=false:=decide_eq_false (by omega)
   have u3:decide ((l.length:Int)<=(y:Int))=false:=decide_eq_false (by omega);have u4:decide (l.length<=y)=false:=decide_eq_false (by omega);clear hn hW hx hc1 hA hxb hwb;go_wp2_with fail;have hln:=aIk (v:=W) hy1;have hnl:(bI (aY W n)).length<=20:=by rw[cN,cY];exact hy2
   have hcl8:(bI (eR l (syms.take k))).length<=20*k:=by rw[cN];exact hcl
   have hS0:=kZ ⟨c1,d0,d1,hbel,hsz⟩ (aB wr.heap.size wr).drew;have hbw1:bw<w1.heap.size:=hArr.lt;have ho8d:OwI wr.drew w1.heap.size u8 (bI (eR l (syms.take k))):=ho8;have hsd:wr.drew.heap.size=wr.heap.size:=rfl;clear c1 d0 d1 hArr' ho8
   go_region_held3 (fun w'=>w'.cell? ⟨b1,o1+k,none⟩=some (.int .i64 (y:Int))/\w'.cell? ⟨bw,y*2,none⟩=some (.int .i64 (n:Int))/\w'.cell? ⟨bw,y*2+1,none⟩=some (.int .u64 (W:Int))/\Below w1.heap.size w1 w'/\w1.heap.size<=w'.heap.size)
    (first
     |with_reducible assumption
     |with_reducible exact kZ (by assumption) (by assumption)
     |with_reducible exact CX (by assumption) (by assumption) hb1 hbw1 hbw1)
    (first
     |(go_at_call 41;refine(uF W n _ hW64 (by omega)).mono ?_;rintro e w2 ⟨x2,rfl,ho2,hb2⟩)
     |(refine JW rfl _ _ rfl w1.heap.size u8 (bI (eR l (syms.take k))) rfl (OwI.below ho8d (by assumption) (aA _)) x2 (bI (aY W n)) rfl (OwI.src ho2) ?_ ?_ ?_;(omega);(have:=hb2.size;omega);intro v3 w3 p1 p2 p3))
   all_goals go_wp2_with fail
   all_goals
    have hg:=HG.out
    go_roundg (syms.length-(k+1))
    case measure=>omega
    case rel=>exact⟨k+1,by omega,rfl,by go_num,by rw[HT.out,gB];exact p1,hS0.2.2.2.1.trans ((hb2.mono (by omega)).trans p2)⟩
  ·have t1:decide ((k:Int)<(syms.length:Int))=false:=decide_eq_false (by omega);have hke:k=syms.length:=by omega
   subst hke;rw[kE] at ho8;have hcl:=HCL.out syms.length;rw[kE] at hcl;go_wp2_with fail;refine(uG _ (eR l syms) _ (OwI.rd ho8) (by omega)).mono ?_;rintro e w6 ⟨rfl,hb6⟩;have hA6:=(hA1.below hbel (by omega)).below hb6 (by omega);have hB6:Below w.heap.size w w6:=(hB1.trans (hbel.mono (by omega))).trans (hb6.mono (by omega));have d0:=hA6.cell (i:=0) rfl;have d1:=hA6.cell (i:=1) rfl;have f0:=hA6.free 0;have f1:=hA6.free 1;clear hA1 hb6 ho8 hbel hB1 hArr;generalize hmm:eR l syms=m at*
   have HM:=hid hmm;clear hmm;go_wp2_with fail;have z0:Arr ((w6.setCell ⟨w.heap.size,0,none⟩ (.string (mkS (aD m)))).setCell ⟨w.heap.size,1,none⟩ (.int .i64 (m.length:Int))) w.heap.size 29 [.string (mkS (aD m)),.int .i64 (m.length:Int)]:=(hA6.set 0 _).set 1 _;refine gJ (qH rfl _ _ w.heap.size _ _ (0,0) _ rfl z0 Tryz.underlying29 rfl mF) rfl ?_;exact⟨by rw[HM.out];rfl,(hB6.setCell (p:=⟨w.heap.size,0,none⟩) (aA _) _).setCell (p:=⟨w.heap.size,1,none⟩) (aA _) _⟩
theorem aIn (w:World) (x:Int):RdI (w.alloc (.cells #[.int .i64 x] 3)) (.slice (some ⟨w.heap.size,0,none⟩) 1 1) [x]:=xY w 3 [.int .i64 x] 1 rfl (by decide)
theorem TQ (w:World) (x y:Int):RdI (w.alloc (.cells #[.int .i64 x,.int .i64 y] 3)) (.slice (some ⟨w.heap.size,0,none⟩) 2 2) [x,y]:=xY w 3 [.int .i64 x,.int .i64 y] 2 rfl (by decide)
theorem TR (v:Value) (l:List Int) (w:World) (hr:RdI w v l) (hok:fY l):
  Calls Tryz.prog 46 #[v] w fun e w'=>e=.returned (.tuple #[eL (dW l),.int .i64 0])/\Below w.heap.size w w':=by
 obtain⟨hl1,hl2,hall⟩:=hok;have HB:=hid hall;have HDL:=hid (fun k=>CZ (l.take k) (l.getD 0 0) (by
  rw[aV,aN (show 0<l.length by omega)];exact(hall _ (gT _)).1) (by
  rw[aV,aN (show 0<l.length by omega)];exact(hall _ (gT _)).2) (fun x hx=>hall x (nO hx)))
 have hgD:∀i,i<l.length->1<=l.getD i 0/\l.getD i 0<=20/\l[i]? =some (l.getD i 0):=fun i hi=>by
  rw[aV,aN hi];exact⟨(hall _ (gT hi)).1,(hall _ (gT hi)).2,rfl⟩
 have HGD:=hid hgD;clear hall;have t1:decide ((l.length:Int)<2)=false:=decide_eq_false (by omega);have t2:decide ((l.length:Int)>258)=false:=decide_eq_false (by omega);have t3:decide ((258:Int)<(l.length:Int))=false:=decide_eq_false (by omega);have hA0:=Arr.new w 29 [.string ⟨#[]⟩,.int .i64 0];have hs0:(w.alloc (.cells #[.string ⟨#[]⟩,.int .i64 0] 29)).heap.size=w.heap.size+1:=by simp
 have hb0:Below w.heap.size w (w.alloc (.cells #[.string ⟨#[]⟩,.int .i64 0] 29)):=bD (aB _ _) _;change Arr (w.alloc (.cells #[.string ⟨#[]⟩,.int .i64 0] 29)) _ _ _ at hA0;have hr1:=hr.below hb0;obtain⟨a,ca,rfl,hca,hma,hA⟩:=hr1.open;unfold maxLen at hma;clear hr hr1 hgD;obtain⟨b1,o1,rfl,hb1,hc1⟩:=hA (by omega);clear hA;go_enter Tryz.func46,Tryz.ntmps46;go_wp2_with fail;generalize w.alloc (.cells #[.string ⟨#[]⟩,.int .i64 0] 29)=w0 at*
 go_loopg [4] l.length (fun g s4 wr=>∃k:Nat,k<=l.length/\g=l.length-k/\s4=.int .i64 (k:Int)/\wr=w0)
 case atStart=>exact⟨0,aU _,rfl,rfl,rfl⟩
 case round=>
  obtain⟨k,hk,hg,rfl,rfl⟩:=hrel;have HG:=hid hg;clear hg
  by_cases hlt:k<l.length
  ·have u1:decide ((k:Int)<(l.length:Int))=true:=decide_eq_true (by omega);obtain⟨x1,x2,hx⟩:=HGD.out k hlt;have c1:=hc1 k _ hx;obtain⟨x,hxe⟩:∃x,x=l.getD k 0:=⟨_,rfl⟩;rw[<-hxe] at x1 x2 c1;have v1:decide (x<1)=false:=decide_eq_false (by omega);have v2:decide (x>20)=false:=decide_eq_false (by omega);have v3:decide (20<x)=false:=decide_eq_false (by omega);clear hxe hx hc1;go_wp2_with fail;have hg:=HG.out
   go_roundg (l.length-(k+1))
   case measure=>omega
   case rel=>exact⟨k+1,by omega,rfl,by go_num,rfl⟩
  ·have u1:decide ((k:Int)<(l.length:Int))=false:=decide_eq_false (by omega);obtain⟨x1,x2,hx⟩:=HGD.out 0 (by omega);have c0:=hc1 0 _ hx;rw[Nat.add_zero] at c0;obtain⟨y,hy⟩:∃y:Nat,l.getD 0 0=(y:Int):=⟨(l.getD 0 0).toNat,by omega⟩;have HY:=hid hy;rw[hy] at c0 x1 x2;have y1:y<18446744073709551616:=by omega
   have m1:fU.wrap (y:Int)=(y:Int):=by rw[gF];omega
   have m2:(y:Int)%18446744073709551616=(y:Int):=by omega
   have z1:0<l.length:=by omega
   have z2:(0:Int)<(l.length:Int):=by omega
   clear hy hx hk;go_wp2_with fail;refine(uF y 5 _ y1 (by decide)).mono ?_;rintro e w1 ⟨u5,rfl,ho5,hb5⟩;have hs5:=hb5.size;have hA1:=hA0.below hb5 (by omega);have hB1:=hb0.trans (hb5.mono (by omega));have hc2:∀j x,l[j]? =some x->w1.cell? ⟨b1,o1+j,none⟩=some (.int .i64 x):=fun j x hj=>((lP hb5).1 b1 (o1+j) hb1).trans (hc1 j x hj)
   have HC2:=hid hc2;clear hc1 hc2 c0 hA0 hb0;rw[hs0] at ho5 hb1 hs5;go_wp2_with fail
   go_loopg [5,6,7,8,9] l.length (fun g s5 s6 _s7 _s8 _s9 wx=>∃i:Nat,i<=l.length/\g=l.length-i/\s6=.int .i64 (i:Int)/\OwI wx (w.heap.size+1) s5 (bI (aY y 5++eI (l.getD 0 0) (l.take i)))/\Below (w.heap.size+1) w1 wx)
   case atStart=>exact⟨0,aU _,rfl,rfl,by simpa [eI] using ho5,aB _ _⟩
   case round=>
    obtain⟨i,hi,hg,rfl,ho,hbel⟩:=hrel;have HG2:=hid hg;clear hg ho5 HG;have hsz:=hbel.size;have hdl:=HDL.out i;rw[aX,gU hi] at hdl;obtain⟨D,hD⟩:∃D,D=aY y 5++eI (l.getD 0 0) (l.take i):=⟨_,rfl⟩;have hDl:D.length<=5+39*i:=by rw[hD,aL,cY];omega
    rw[<-hD] at ho;have HD:=hid hD;clear hD hdl
    by_cases hlt2:i<l.length
    ·have u2:decide ((i:Int)<(l.length:Int))=true:=decide_eq_true (by omega);obtain⟨x1',x2',hx⟩:=HGD.out i hlt2;obtain⟨p1,p2,hp⟩:=HGD.out (i-1) (by omega);have c1:=(hbel.cell (p:=⟨b1,o1+i,none⟩) hb1).trans (HC2.out i _ hx);obtain⟨M,hM⟩:∃M:Nat,M=i-1:=⟨_,rfl⟩;have c3:=(hbel.cell (p:=⟨b1,o1+(i-1),none⟩) hb1).trans (HC2.out (i-1) _ hp);have hdt:=TP hx;obtain⟨x,hxe⟩:∃x,x=l.getD i 0:=⟨_,rfl⟩;obtain⟨p,hpe⟩:∃p,p=l.getD (i-1) 0:=⟨_,rfl⟩;rw[<-hxe] at x1' x2' c1 hdt;rw[<-hpe] at p1 p2 c3 hdt;rw[<-hM] at c3
     have HDT:=hid (show aY y 5++eI (l.getD 0 0) (l.take (i+1))=D++((bB (x-p).toNat [true,false]).flatten++(bB (p-x).toNat [true,true]).flatten++[false]) by rw[hdt,HD.out,cF];rfl);obtain⟨A,hAe⟩:∃A,A=(x-p).toNat:=⟨_,rfl⟩;obtain⟨B,hBe⟩:∃B,B=(p-x).toNat:=⟨_,rfl⟩;rw[<-hAe,<-hBe] at HDT;have HA:=hid hAe;have HBE:=hid hBe;have hA40:A<=20:=by omega
     have hB40:B<=20:=by omega
     have m3:max (aI.wrap ((i:Int)-1)) 0=(M:Int):=by rw[aM];omega
     have m4:max ((i:Int)-1) 0=(M:Int):=by omega
     have m5:aI.wrap ((i:Int)-1)=(i:Int)-1:=by rw[aM];omega
     have q1:(M:Int)<(l.length:Int):=by omega
     have q2:M<l.length:=by omega
     rw[<-hxe] at hx;have HX:=hid hx;clear hM hxe hpe hdt hx hp hAe hBe;go_wp2_with fail
     go_loopg [5,8] A (fun g s5 s8 wy=>∃c:Nat,c<=A/\g=A-c/\s8=.int .i64 (p+(c:Int))/\OwI wy (w.heap.size+1) s5 (bI (D++(bB c [true,false]).flatten))/\Below (w.heap.size+1) w1 wy)
     case atStart=>exact⟨0,aU _,rfl,by rw[OF,Int.add_zero],by simpa using ho,hbel⟩
     case round=>
      clear ho c1 c3;obtain⟨c,hcc,hg,rfl,ho,hbel1⟩:=hrel;have HG3:=hid hg;clear hg;have hsz1:=hbel1.size;have c1:=(hbel1.cell (p:=⟨b1,o1+i,none⟩) hb1).trans (HC2.out i _ HX.out);have hol:(bI (D++(bB c [true,false]).flatten)).length<=20000:=by rw[cN,aL,yT];omega
      by_cases hcx:c<A
      ·have u3:decide (p+(c:Int)<x)=true:=decide_eq_true (by have:=HA.out;omega);have m6:aI.wrap (p+(c:Int)+1)=p+(c:Int)+1:=by rw[aM];omega
       go_wp2_with (at_builtin;refine kG rfl _ _ rfl (w.heap.size+1) _ _ [1,0] rfl (OwI.alloc ho _) _ rfl (TQ wr 1 0) (by decide) ?_ ?_ ?_;(simp only[cR,cX];omega);(simp;omega);intro v3 w3 r1 r2 r3 r4);have hg3:=HG3.out
       go_roundg (A-(c+1))
       case measure=>omega
       case rel=>exact⟨c+1,by omega,rfl,congrArg _ (by push_cast;omega),by rw[yS,<-cF,gB];exact r1,(hbel1.alloc (by omega) _).trans r2⟩
      ·have u3:decide (p+(c:Int)<x)=false:=decide_eq_false (by have:=HA.out;omega);obtain rfl:A=c:=by omega
       obtain⟨E,hE⟩:∃E,E=D++(bB A [true,false]).flatten:=⟨_,rfl⟩;have hEl:E.length<=5+39*i+40:=by rw[hE,aL,yT];omega
       rw[<-hE] at ho;have HE:=hid hE;clear hE hol;go_wp2_with fail
       go_loopg [5,9] B (fun g s5 s9 wy=>∃c:Nat,c<=B/\g=B-c/\s9=.int .i64 (p-(c:Int))/\OwI wy (w.heap.size+1) s5 (bI (E++(bB c [true,true]).flatten))/\Below (w.heap.size+1) w1 wy)
       case atStart=>exact⟨0,aU _,rfl,by rw[OF,Int.sub_zero],by simpa using ho,hbel1⟩
       case round=>
        clear ho c1;obtain⟨c,hcc,hg,rfl,ho,hbel2⟩:=hrel;have HG4:=hid hg;clear hg;have hsz2:=hbel2.size;have c1:=(hbel2.cell (p:=⟨b1,o1+i,none⟩) hb1).trans (HC2.out i _ HX.out);have hol:(bI (E++(bB c [true,true]).flatten)).length<=20000:=by rw[cN,aL,yT];omega
        by_cases hcx:c<B
        ·have v3:decide (p-(c:Int)>x)=true:=decide_eq_true (by have:=HBE.out;omega);have v4:decide (x<p-(c:Int))=true:=decide_eq_true (by have:=HBE.out;omega);have m6:aI.wrap (p-(c:Int)-1)=p-(c:Int)-1:=by rw[aM];omega
         go_wp2_with (at_builtin;refine kG rfl _ _ rfl (w.heap.size+1) _ _ [1,1] rfl (OwI.alloc ho _) _ rfl (TQ wr 1 1) (by decide) ?_ ?_ ?_;(simp only[cR,cX];omega);(simp;omega);intro v3 w3 r1 r2 r3 r4);have hg4:=HG4.out
         go_roundg (B-(c+1))
         case measure=>omega
         case rel=>exact⟨c+1,by omega,rfl,congrArg _ (by push_cast;omega),by rw[yS,<-cF,gB];exact r1,(hbel2.alloc (by omega) _).trans r2⟩
        ·have v3:decide (p-(c:Int)>x)=false:=decide_eq_false (by have:=HBE.out;omega);have v4:decide (x<p-(c:Int))=false:=decide_eq_false (by have:=HBE.out;omega);obtain rfl:B=c:=by omega
         have HT:=hid (show bI (E++(bB B [true,true]).flatten)++[0]=bI (aY y 5++eI (l.getD 0 0) (l.take (i+1))) by
          rw[HDT.out,HE.out,gB,gB,gB,gB,gB];simp only[cF];rfl)
         go_wp2_with (at_builtin;(refine kG rfl _ _ rfl (w.heap.size+1) _ _ [0] rfl (OwI.alloc ho _) _ rfl (aIn wr 0) (by decide) ?_ ?_ ?_;(simp only[cR,cX];omega);(simp;omega);intro v3 w3 r1 r2 r3 r4));have hg2:=HG2.out
         go_roundg (l.length-(i+1))
         case measure=>omega
         case rel=>exact⟨i+1,by omega,rfl,by go_num,by rw[<-HT.out];exact r1,(hbel2.alloc (by omega) _).trans r2⟩
    ·have u2:decide ((i:Int)<(l.length:Int))=false:=decide_eq_false (by omega);have hie:i=l.length:=by omega
     subst hie;have HF:=hid (show D=dW l by
      rw[HD.out,kE];unfold dW;rw[HY.out,eG])
     go_wp2_with fail;refine(uG _ D _ (OwI.rd ho) (by omega)).mono ?_;rintro e w6 ⟨rfl,hb6⟩;have hA6:=(hA1.below hbel (by omega)).below hb6 (by omega);have hB6:Below w.heap.size w w6:=(hB1.trans (hbel.mono (by omega))).trans (hb6.mono (by omega));have d0:=hA6.cell (i:=0) rfl;have d1:=hA6.cell (i:=1) rfl;have f0:=hA6.free 0;have f1:=hA6.free 1;clear hA1 hb6 ho hbel hB1;go_wp2_with fail
     have z0:Arr ((w6.setCell ⟨w.heap.size,0,none⟩ (.string (mkS (aD D)))).setCell ⟨w.heap.size,1,none⟩ (.int .i64 (D.length:Int))) w.heap.size 29 [.string (mkS (aD D)),.int .i64 (D.length:Int)]:=(hA6.set 0 _).set 1 _;refine gJ (qH rfl _ _ w.heap.size _ _ (0,0) _ rfl z0 Tryz.underlying29 rfl mF) rfl ?_;exact⟨by rw[<-HF.out];rfl,(hB6.setCell (p:=⟨w.heap.size,0,none⟩) (aA _) _).setCell (p:=⟨w.heap.size,1,none⟩) (aA _) _⟩
end Go.Proofs.YtiifmcicleljjaaGreatDoor
