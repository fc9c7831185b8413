/-
  Texts put together (part 8): the walks and the plain laws on which the statement stands.
-/
import Derived.Sort.OwnSortedInts
import Derived.Deep.AppendLies
import Derived.Test.YtjkjeamepgjicaaGreatDoorZ7
set_option maxRecDepth 100000
set_option maxHeartbeats 12800000
set_option linter.unusedVariables false
set_option linter.unusedSimpArgs false
open Classical renaming byContradiction->aCc
open Go renaming Program->gD
open Go.IntKind renaming i64->aI,u32->rA,wrap_i64->aM,wrap_u32->vP
open Go.Lib renaming toList_data->AW
open Go.RowKit.Below renaming refl->aB
open Go.World.ownsRow renaming alloc->aBy,kept->NH,lt->aT4
open Int renaming toNat_natCast->eG
open List renaming append_assoc->cF,drop_eq_getElem_cons->oH,drop_of_length_le->qY,eq_of_mem_replicate->aCo,ext_getElem?->jA,getD->fF,getElem?_append_left->gS,getElem?_concat_length->AQ,getElem?_drop->gR,getElem?_eq_getElem->aN,getElem?_eq_none->dL,getElem?_eq_some_iff->eU,getElem?_map->dY,getElem?_take_of_lt->mB,length_append->aL,length_drop->cI,length_map->bJ,length_nil->cX,length_replicate->vO,length_singleton->fK,length_take->aX,mem_append->cU,mem_cons->kD,mem_cons_of_mem->jD,mem_map->dU,mem_of_getElem?->cH,mem_range->jF,range->dG,replicate->bB,take_of_length_le->cS
open List.Pairwise renaming imp_of_mem->aB5
open Nat renaming add_assoc->dZ,add_mod_right->aCi,add_mul_mod_self_left->aTo,add_zero->pH,le_refl->aA,lt_of_lt_of_le->dR,lt_or_ge->bT,mod_add_div->NU,mod_add_mod->AO,mod_eq_of_lt->kU,mod_lt->jQ,zero_add->iZ,zero_le->aU
open Option.some renaming inj->bW
namespace Go.Proofs.YtjkjeamepgjicaaGreatDoor
section
open Go.RowKit
theorem WS (l:List Int):dA l=bB (num (l.take (eY 1 l))) 0++dA (l.drop (eY 1 l)):=by
 have hr:=IR (l.take (eY 1 l)) 0 1 (l.drop (eY 1 l)) (fun x hx=>by have:=yM 1 l x hx;omega);rw[List.take_append_drop] at hr;have e0:dA l=zx 0 1 l:=rfl;rw[e0,hr];rcases bT (eY 1 l) l.length with h|h
 ·have hx:=aN h;have:=vY 1 l hx;rw[oH h];have e1:dA (l[eY 1 l]::l.drop (eY 1 l+1))=(l[eY 1 l]-1)::dA (l.drop (eY 1 l+1)):=by rw[dA,CB (by omega)];simp
  rw[e1,CB (by omega)];simp
 ·rw[qY h,IS];simp[dA,IS]
theorem WT {x:Int} {l:List Int} (h:1<x):dA (x::l)=(x-1)::dA l:=by
 rw[dA,CB (by omega)];simp
def oX (m:List Int) (most:Int):List Int:=if((dA m).length:Int)<=most then dA m else[]
def nZ (m:List Int) (most:Int):Int:=if((dA m).length:Int)<=most then 0 else 4
theorem rW {m:List Int} {most:Int} (h:¬((dA m).length:Int)<=most):oX m most=[]/\nZ m most=4:=by
 unfold oX nZ;rw[if_neg h,if_neg h];exact⟨rfl,rfl⟩
theorem wO {m:List Int} {most:Int} (h:((dA m).length:Int)<=most):oX m most=dA m/\nZ m most=0:=by
 unfold oX nZ;rw[if_pos h,if_pos h];exact⟨rfl,rfl⟩
theorem WU {w:World} {b off cap:Nat} {l:List Int} (hb:b<w.heap.size) (hc:∀j x,l[j]? =some x->w.cell? ⟨b,off+j,none⟩=some (.int .i64 x)) (i n:Nat) (hi:i+n<=l.length) (hcap:l.length<=cap) (hm:cap<=maxLen):
  RdI w (.slice (some ⟨b,off+i,none⟩) n (cap-i)) ((l.drop i).take n):=by
 have hl:((l.drop i).take n).length=n:=by rw[aX,cI];omega
 refine⟨some ⟨b,off+i,none⟩,cap-i,by rw[hl],by rw[hl];omega,by omega,.inr ⟨b,off+i,rfl,hb,fun j hj=>?_⟩⟩;rw[bJ,hl] at hj;have hx:l[i+j]? =some (l[i+j]'(by omega)):=aN _;rw[dZ,hc _ _ hx];have h2:((l.drop i).take n)[j]? =some (l[i+j]'(by omega)):=by rw[mB hj,gR,hx]
 rw[fF,dY,h2];rfl
theorem aLn (w:World) (n:Nat):pQ (w.alloc (.cells (fB (.int .i64 0) n) 3)) (.slice (some ⟨w.heap.size,0,none⟩) n n) (bB n 0):=by
 refine .inr ⟨w.heap.size,0,n,by rw[vO],by simp,fun j x hx=>?_⟩;obtain⟨hj,hx'⟩:=eU.1 hx;rw[vO] at hj;rw[List.getElem_replicate] at hx';subst hx';rw[iZ];exact(Arr.made w 3 (.int .i64 0) n).cell (by simp[hj])
theorem aLo {l:List Int} (h0:∀x∈l,0<=x):∀x∈l.take (eY 1 l),x=0\/x=1:=fun x hx=>by
 have h1:=yM 1 l x hx;have h2:=h0 x (List.mem_of_mem_take hx);omega
theorem aLp (v:Value) (m:List Int) (most:Int) (w:World) (hr:RdI w v m) (hlen:m.length<=1000000) (hv:∀x∈m,0<=x/\x<=1000000) (hm1: -9223372036854775808<=most) (hm2:most<=1000000) (hne:0<m.length):
  Calls Tryz.prog 87 #[v,.int .i64 most] w fun e w'=>∃v',e=.returned (.tuple #[v',.int .i64 (nZ m most)])/\OwI w' w.heap.size v' (oX m most)/\Below w.heap.size w w':=by
 have hb:Calls Tryz.prog 99 #[v] w fun e w'=>e=.returned (.bool false)/\w'=w:=(JI v m w hr).mono fun e w' ⟨h1,h2⟩=>by
  rw[oN (fun x hx=>decide_eq_false (by have:=hv x hx;omega))] at h1;exact⟨h1,h2⟩
 have HB:=hid hb;obtain⟨a,ca,rfl,hca,hma,hA⟩:=hr.open;obtain⟨b0,o0,rfl,hb0,hc0⟩:=hA hne;have HV:=hid hv;have HA:=hid hc0;have HM0:=hid hma;unfold maxLen at hma;obtain⟨M,hM1,hM2,hM3,hM4,hM5⟩:∃M:Nat,(if most<0 then 0 else most)=(M:Int)/\max most 0=(M:Int)/\M<=1000000/\most<=(M:Int)/\(if 0<most then most else 0)=(M:Int):=⟨most.toNat,by split<;>omega,by omega,by omega,by omega,by split<;>omega⟩;clear hr hA hv hc0 hb;go_enter Tryz.func87,Tryz.ntmps87;go_wp2_with fail;refine HB.out.mono ?_;rintro e w1 ⟨rfl,rfl⟩;clear HB;go_wp2_with fail
 go_loopg [0,8,9,10] m.length (fun gh s0 _s8 _s9 _s10 wq=>∃(rest pre:List Int) (off cap:Nat),s0=.slice (some ⟨b0,off,none⟩) rest.length cap/\rest.length<=cap/\cap<=maxLen/\rest.length<=m.length/\gh=rest.length/\qK wq w1.heap.size pre/\Hid (pre++dA rest=dA m)/\pre.length<=1000001/\
  Below w1.heap.size w1 wq/\Hid (∀j x,rest[j]? =some x->w1.cell? ⟨b0,off+j,none⟩=some (.int .i64 x))/\Hid (∀x∈rest,0<=x/\x<=1000000))
 case atStart=>exact⟨m,[],o0,ca,rfl,hca,HM0.out,aA _,rfl,⟨.slice none 0 0,Arr.new w1 _ _,OwI.nil _ _⟩,hid rfl,by simp,(aB _ _).alloc (aA _) _,HA,HV⟩
 case round=>
 obtain⟨rest,pre,off,cap,rfl,hkc,hcm,hrm,hg,hlay,HP,hpl,hbel,HCL,HR⟩:=hrel;have HG:=hid hg;clear hg
 by_cases hrl:0<rest.length
 ·have hrd:RdI wr (.slice (some ⟨b0,off,none⟩) rest.length cap) rest:=
   ⟨_,_,rfl,hkc,hcm,.inr ⟨b0,off,rfl,dR hb0 hbel.size,fun j hj=>by
    rw[bJ] at hj;rw[hbel.cell (p:=⟨b0,off+j,none⟩) hb0,HCL.out j _ (aN hj)];simp[fF,hj]⟩⟩
  have HRD:=hid hrd;have HCM:=hid hcm;have hle:=vX 1 rest;obtain⟨k,hk⟩:∃k,k=eY 1 rest:=⟨_,rfl⟩;have hzl:=WS rest;have hbits:=aLo (l:=rest) (fun x hx=>(HR.out x hx).1);rw[<-hk] at hle hzl hbits;have HK:=hid hk;obtain⟨N,hN⟩:∃N,N=num (rest.take k):=⟨_,rfl⟩;rw[<-hN] at hzl;have HN:=hid hN;have HZ:=hid hzl;have HBT:=hid hbits;unfold maxLen at hcm;have hlz:=hid (show(dA m).length=pre.length+N+(dA (rest.drop k)).length by
   rw[<-HP.out,aL,HZ.out,aL,vO];omega)
  clear hrd hk hzl hbits hN;go_wp2_with fail;refine(RF _ rest 1 _ HRD.out).mono ?_;rintro e w2 ⟨rfl,h2⟩;rw[<-HK.out];have hlay2:=hlay.below h2;have hB2:=bV hbel h2;have HSUB:=hid (show RdI w2 (.slice (some ⟨b0,off,none⟩) k cap) (rest.take k) by
   have:=WU (w:=w2) (b:=b0) (off:=off) (cap:=cap) (dR hb0 hB2.size) (fun j x hx=>by rw[hB2.cell (p:=⟨b0,off+j,none⟩) hb0];exact HCL.out j x hx) 0 k (by omega) hkc HCM.out
   simpa using this)
  clear hlay hbel HRD h2;go_wp2_with fail;refine(aLl _ (rest.take k) _ HSUB.out (by rw[aX];omega) HBT.out).mono ?_;rintro e w3 ⟨rfl,h3⟩;have hlay3:=hlay2.below h3;have hB3:=bV hB2 h3;clear hlay2 hB2 h3;obtain⟨lv,harr,hown⟩:=hlay3;obtain⟨la,lc,rfl,hlc,hlm,_⟩:=hown.rd.open;have c1:=harr.cell (i:=0) rfl;have hlay3:qK w3 w1.heap.size pre:=⟨_,harr,hown⟩;unfold maxLen at hlm
  by_cases hbig:N<=1099511627776
  ·have nv:nL (rest.take k)=(N:Int):=by unfold nL;rw[<-HN.out,if_pos hbig]
   have ne:lA (rest.take k)=0:=by unfold lA;rw[<-HN.out,if_pos hbig]
   rw[nv,ne];clear nv ne
   by_cases hlong:(M:Int)-(pre.length:Int)<(N:Int)
   ·have t6:decide ((M:Int)-(pre.length:Int)<(N:Int))=true:=decide_eq_true hlong;go_wp2_with fail
    go_ret2
    have e1:¬((dA m).length:Int)<=most:=by have:=hlz.out;omega
    obtain⟨d1,d2⟩:=rW e1;rw[d1,d2];exact⟨_,rfl,OwI.nil _ _,hB3⟩
   ·have t6:decide ((M:Int)-(pre.length:Int)<(N:Int))=false:=decide_eq_false hlong;go_wp2_with (at_make;refine mkA gL rfl _ _ rfl N rfl rfl ?_ ?_;omega);refine(CP w1.heap.size _ pre (bB N 0) _ (hlay3.below ((aB _ _).alloc (aA _) _)) (aLn _ _) (by rw[vO];omega)).mono ?_;rintro e w4 ⟨rfl,hlay4,h4⟩;have hB4:=(bD hB3 _).trans h4;have hl4:(pre++bB N (0:Int)).length=pre.length+N:=by simp
    have HL4:=hid hl4;clear hlay3 harr hown c1 h4 hB3 hl4 t6
    by_cases hend:k=rest.length
    ·have hnew:=hid (show(pre++bB N 0)++dA []=dA m by
      have:=HZ.out;rw[qY (by omega)] at this;rw[cF,<-this];exact HP.out)
     have d1:decide (0<rest.length-k)=false:=decide_eq_false (by omega);have e0:rest.length-k=0:=by omega
     by_cases hcn:cap=k
     all_goals
      go_wp2_with fail;have hg:=HG.out
      go_roundg 0
      case measure=>omega
      case rel=>exact⟨[],_,_,_,rfl,aU _,by unfold maxLen;omega,aU _,rfl,hlay4,hnew,by rw[HL4.out];omega,hB4,hid (fun j x hx=>by simp at hx),hid (fun x hx=>by simp at hx)⟩
    ·have hml:k<rest.length:=by omega
     obtain⟨x,hx⟩:=dH hml;have hxb:=HR.out x (cH hx);have hx1:1<x:=vY 1 rest (by rw[<-HK.out];exact hx);have c1:w4.cell? ⟨b0,off+k,none⟩=some (.int .i64 x):=by
      rw[hB4.cell (p:=⟨b0,off+k,none⟩) hb0];exact HCL.out k x hx
     have hnew:=hid (show((pre++bB N 0)++[x-1])++dA (rest.drop (k+1))=dA m by
      have:=HZ.out;rw[oH hml,(eU.1 hx).2,WT hx1] at this;rw[cF,cF,List.singleton_append,<-this];exact HP.out)
     have d1:decide (0<rest.length-k)=true:=decide_eq_true (by omega);have d2:0<rest.length-k:=by omega
     have hcn:¬cap=k:=by omega
     have hl:=hid (show rest.length-k-1=(rest.drop (k+1)).length by rw[cI];omega);have hR':Hid (∀x∈rest.drop (k+1),0<=x/\x<=1000000):=hid (fun y hy=>HR.out y (List.mem_of_mem_drop hy));have HE:=hid hend;clear hx hend
     by_cases hc1:cap-k=1
     all_goals
      go_wp2_with fail;refine(CP w1.heap.size _ (pre++bB N 0) [x-1] _ (hlay4.below ((aB _ _).alloc (aA _) _)) (RG _ _ _) (by rw[HL4.out,fK];omega)).mono ?_;rintro e w5 ⟨rfl,hlay5,h5⟩;have hB5:=(bD hB4 _).trans h5;go_wp2_with fail;rw[hl.out];have hg:=HG.out
      go_roundg (rest.drop (k+1)).length
      case measure=>rw[cI];omega
     ·refine⟨rest.drop (k+1),_,off+k,0,rfl,by rw[cI];omega,by simp[maxLen],by rw[cI];omega,rfl,hlay5,hnew,by rw[aL,HL4.out,fK];omega,hB5,hid (fun j y hy=>?_),hR'⟩;rw[qY (by omega)] at hy;simp at hy
     ·refine⟨rest.drop (k+1),_,off+k+1,cap-k-1,rfl,by rw[cI];omega,by unfold maxLen;omega,by rw[cI];omega,rfl,hlay5,hnew,by rw[aL,HL4.out,fK];omega,hB5,hid (fun j y hy=>?_),hR'⟩;have:=RdI.dropS HCL.out (k+1) j y hy;rw[dZ off k 1];exact this
  ·have ne:lA (rest.take k)=4:=by unfold lA;rw[<-HN.out,if_neg hbig]
   rw[ne];clear ne;go_wp2_with fail
   go_ret2
   have e1:¬((dA m).length:Int)<=most:=by have:=hlz.out;omega
   obtain⟨d1,d2⟩:=rW e1;rw[d1,d2];exact⟨_,rfl,OwI.nil _ _,hB3⟩
 ·have hre:rest=[]:=List.eq_nil_of_length_eq_zero (by omega);subst hre;obtain⟨lv,harr,hown⟩:=hlay;obtain⟨la,lc,rfl,hlc,hlm,_⟩:=hown.rd.open;have c1:=harr.cell (i:=0) rfl;unfold maxLen at hlm;have hie:=hid (show pre=dA m by have:=HP.out;rw[show dA []=[] from rfl,List.append_nil] at this;exact this)
  by_cases hlong:most<(pre.length:Int)
  ·have t6:decide (most<(pre.length:Int))=true:=decide_eq_true hlong;go_wp2_with fail
   go_ret2
   have e1:¬((dA m).length:Int)<=most:=by rw[<-hie.out];omega
   obtain⟨d1,d2⟩:=rW e1;rw[d1,d2];exact⟨_,rfl,OwI.nil _ _,hbel⟩
  ·have t6:decide (most<(pre.length:Int))=false:=decide_eq_false hlong;go_wp2_with fail
   go_ret2
   have e1:((dA m).length:Int)<=most:=by rw[<-hie.out];omega
   obtain⟨d1,d2⟩:=wO e1;rw[d1,d2,<-hie.out];exact⟨_,rfl,Ow.base hown (Nat.le_succ _),hbel⟩
theorem Dat.other {w:World} {g cap n:Nat} {f:Nat->Int} (h:Dat w g cap n f) (p:Addr) (hp:p.block≠g) (v:Value):Dat (w.setCell p v) g cap n f:=by
 obtain⟨cur,h,hr⟩:=h;exact⟨cur,by rw[Below.heap_setCell w p v g (fun e=>hp e.symm)];exact h,hr⟩
def bX (s:ByteArray) (i:Nat):Nat:=(s.data.toList.getD (i%s.size) 0).toNat
theorem sX (s:ByteArray):Cyc (bX s) s.size:=fun i=>by unfold bX;rw[aCi]
def rot (s:ByteArray) (k:Nat):List UInt8:=s.data.toList.drop k++s.data.toList.take k
theorem yO (s:ByteArray) (k:Nat) (h:k<=s.size):(rot s k).length=s.size:=by
 simp[rot];omega
theorem JQ (s:ByteArray) (k i:Nat) (hk:k<s.size) (hi:i<s.size):(rot s k)[i]? =some (s.data.toList.getD ((k+i)%s.size) 0):=by
 have hl:s.data.toList.length=s.size:=by simp
 unfold rot;rcases bT i (s.size-k) with h|h
 ·rw[gS (by rw[cI];omega),gR,kU (by omega),fF,aN (by omega)];rfl
 ·rw[List.getElem?_append_right (by rw[cI];omega),cI,mB (by omega),hl];have e:(k+i)%s.size=i-(s.size-k):=by
   rw[Nat.mod_eq_sub_mod (by omega),kU (by omega)];omega
  rw[e,fF,aN (by omega)];rfl
def dM (s:ByteArray) (o:Nat->Int) (k:Nat):List UInt8:=(dG k).map (fun i=>s.data.toList.getD (((o i).toNat+(s.size-1))%s.size) 0)
theorem sY (s:ByteArray) (o:Nat->Int) (k:Nat):(dM s o k).length=k:=by simp[dM]
def fD (o:Nat->Int):Nat->Nat
 |0=>0
 |k+1=>if o k=0 then k else fD o k
end
section
theorem aLq {n x:Nat} (hn:0<n):(x+(n-1))%n<n:=jQ _ hn
theorem aLr {n x y:Nat} (hx:x<n) (hy:y<n) (h:(x+(n-1))%n=(y+(n-1))%n):x=y:=by
 have e:∀z,z<n->(z+(n-1))%n=if z=0 then n-1 else z-1:=by
  intro z hz
  by_cases h0:z=0
  ·rw[if_pos h0,h0,iZ];exact kU (by omega)
  ·rw[if_neg h0,show z+(n-1)=(z-1)+n by omega,aCi];exact kU (by omega)
 rw[e x hx,e y hy] at h;split at h<;>split at h<;>omega
theorem aLs {n y:Nat} (hy:y<n):((y+1)%n+(n-1))%n=y:=by
 rw[AO,show y+1+(n-1)=y+n by omega,aCi];exact kU hy
theorem aLt {c:Nat->Nat} {n m:Nat} {o:Nat->Int} (h:Ord c n m o):((dG n).map (fun i=>((o i).toNat+(n-1))%n)).Perm (dG n):=by
 rw[List.perm_ext_iff_of_nodup ?_ List.nodup_range]
 ·intro y;rw[dU,jF];constructor
  ·rintro⟨i,hi,rfl⟩;exact aLq (by have:=jF.1 hi;omega)
  ·intro hy;obtain⟨k,hk,e⟩:=h.onto (y:=(y+1)%n) (jQ _ (by omega));exact⟨k,jF.2 hk,by rw[e,eG];exact aLs hy⟩
 ·unfold List.Nodup;rw[List.pairwise_map];refine aB5 ?_ List.pairwise_lt_range;intro a b ha hb hab e;have ha':=jF.1 ha;have hb':=jF.1 hb;have ra:=h.rng a ha';have rb:=h.rng b hb';have:=aLr (by omega) (by omega) e;exact h.ne ha' hb' (by omega) (by omega)
theorem aLu (l:List UInt8):(dG l.length).map (fun i=>l.getD i 0)=l:=by
 apply jA;intro i
 by_cases h:i<l.length
 ·simp[h]
 ·rw[dL (by simp;omega),dL (by omega)]
theorem LN (s:ByteArray) {c:Nat->Nat} {m:Nat} {o:Nat->Int} (h:Ord c s.size m o):(dM s o s.size).Perm s.data.toList:=by
 have h1:=(aLt h).map (fun i=>s.data.toList.getD i 0);rw[List.map_map] at h1;have h2:=aLu s.data.toList;rw[show s.data.toList.length=s.size by simp] at h2;rw[h2] at h1;exact h1
theorem aLv (o:Nat->Int):∀k,(∃j,j<k/\o j=0)->fD o k<k/\o (fD o k)=0:=by
 intro k
 induction k with
 |zero=>rintro⟨j,hj,_⟩;omega
 |succ k ih=>
  rintro⟨j,hj,e⟩;unfold fD
  by_cases h:o k=0
  ·rw[if_pos h];exact⟨by omega,h⟩
  ·rw[if_neg h];have hjk:j<k:=by
    rcases bT j k with q|q
    ·exact q
    ·have:j=k:=by omega
     subst this;exact absurd e h
   have:=ih ⟨j,hjk,e⟩;exact⟨by omega,this.2⟩
theorem aLw {c:Nat->Nat} {n m:Nat} {o:Nat->Int} (h:Ord c n m o) (hn:0<n):fD o n<n/\o (fD o n)=0:=
 aLv o n (by obtain⟨k,hk,e⟩:=h.onto (y:=0) hn;exact⟨k,hk,by simpa using e⟩)
end
section
open Go.RowKit
theorem aLx (v:Value) (most:Int) (w:World) (hr:RdI w v []) (hm1: -9223372036854775808<=most) (hm2:most<=1000000):
  Calls Tryz.prog 87 #[v,.int .i64 most] w fun e w'=>∃v',e=.returned (.tuple #[v',.int .i64 (nZ [] most)])/\OwI w' w.heap.size v' (oX [] most)/\Below w.heap.size w w':=by
 have hb:Calls Tryz.prog 99 #[v] w fun e w'=>e=.returned (.bool false)/\w'=w:=(JI v [] w hr).mono fun e w' ⟨h1,h2⟩=>by
  rw[oN (fun x hx=>by simp at hx)] at h1;exact⟨h1,h2⟩
 obtain⟨a,ca,rfl,hca,hma,hA⟩:=hr.open;simp only[cX] at hca hA hb ⊢;go_enter Tryz.func87,Tryz.ntmps87;go_wp2_with fail;refine hb.mono ?_;rintro e w1 ⟨rfl,rfl⟩;go_wp2_with fail
 go_loopg [0,8,9,10] 0 (fun gh s0 _s8 _s9 _s10 wq=>gh=0/\s0=.slice a 0 ca/\wq=w1.alloc (.cells #[.slice none 0 0] 207))
 case atStart=>exact⟨rfl,rfl,rfl⟩
 case round=>
 obtain⟨hg,rfl,rfl⟩:=hrel;have hc:=bS w1 (.slice none 0 0) 207
 by_cases hm:most<0
 ·have t1:decide (most<0)=true:=decide_eq_true hm;have hE:nZ [] most=4:=(rW (by show ¬((([]:List Int).length:Nat):Int)<=most;simp;omega)).2;have hL:oX [] most=[]:=(rW (by show ¬((([]:List Int).length:Nat):Int)<=most;simp;omega)).1;go_wp2_with fail
  go_ret2
  exact⟨.slice none 0 0,by first|(rw[hE];rfl)|rfl,by first|(rw[hL];exact OwI.nil _ _)|exact OwI.nil _ _,(aB _ _).alloc (aA _) _⟩
 ·have t1:decide (most<0)=false:=decide_eq_false hm;have hE:nZ [] most=0:=(wO (by show((([]:List Int).length:Nat):Int)<=most;simp;omega)).2;have hL:oX [] most=[]:=(wO (by show((([]:List Int).length:Nat):Int)<=most;simp;omega)).1;go_wp2_with fail
  go_ret2
  exact⟨.slice none 0 0,by first|(rw[hE];rfl)|rfl,by first|(rw[hL];exact OwI.nil _ _)|exact OwI.nil _ _,(aB _ _).alloc (aA _) _⟩
theorem aLy (v:Value) (m:List Int) (most:Int) (w:World) (hr:RdI w v m) (hlen:m.length<=1000000) (hv:∀x∈m,0<=x/\x<=1000000) (hm1: -9223372036854775808<=most) (hm2:most<=1000000):
  Calls Tryz.prog 87 #[v,.int .i64 most] w fun e w'=>∃v',e=.returned (.tuple #[v',.int .i64 (nZ m most)])/\OwI w' w.heap.size v' (oX m most)/\Below w.heap.size w w':=by
 rcases Nat.eq_zero_or_pos m.length with h0|h0
 ·obtain rfl:=List.length_eq_zero_iff.1 h0;exact aLx v most w hr hm1 hm2
 ·exact aLp v m most w hr hlen hv hm1 hm2 h0
theorem wP (a:ByteArray) (o:Int) (y:Value) (_hy:y.oneCell'=true) (w:World) (ha:a.size<=140737488355328):
  Calls Tryz.prog 54 #[.agg #[.string a,.int .i64 o,y]] w fun e w'=>e=.returned (.int .i64 ((a.size:Int)+1))/\Below w.heap.size w w':=by
 have e1:aI.wrap ((a.size:Int)+1)=(a.size:Int)+1:=by rw[aM];omega
 go_enter Tryz.func54,Tryz.ntmps54;go_wp2_with fail;go_ret;exact⟨rfl,(aB _ _).alloc (aA _) _⟩
def oA (s:ByteArray) (o:Nat->Int):List Int:=cZ 0 (cM (bK s.data.toList) (dM s o s.size))++[((bK s.data.toList).length:Int)+1]
def cW:ByteArray:={data:=#[]}
theorem rX (s:List UInt8):(bK s).length<=256:=by
 unfold bK jH;rw[bJ];have:=List.length_filter_le (dB s) (dG 256)
 simpa using this
theorem yP (s:ByteArray) {k i:Nat} (hk:k<s.size) (hi:i<s.size):∃b,(rot s k)[i]? =some b/\b.toNat=bX s (k+i):=⟨_,JQ s k i hk hi,rfl⟩
theorem WV (a:ByteArray) (o:Int) (y:Value) (hy:y.oneCell'=true) (w:World) (ha:a.size<=140737488355328):
  Calls Tryz.prog 48 #[.agg #[.string a,.int .i64 o,y]] w fun e w'=>e=.returned (.int .i64 ((a.size:Int)+2))/\Below w.heap.size w w':=by
 have e1:aI.wrap ((a.size:Int)+1+1)=(a.size:Int)+2:=by rw[aM];omega
 have harr:=Arr.new w 127 [.string a,.int .i64 o,y];have c0:=harr.cell (i:=0) rfl;have c1:=harr.cell (i:=1) rfl;have c2:=harr.cell (i:=2) rfl;have hb:=(aB w.heap.size w).alloc (aA _) (.cells #[.string a,.int .i64 o,y] 127);go_enter Tryz.func48,Tryz.ntmps48;go_wp2_with fail;refine(wP a o y hy _ ha).mono ?_;rintro e w1 ⟨rfl,hb1⟩;go_wp2_with fail;go_ret;exact⟨rfl,hb.trans (hb1.mono hb.size)⟩
theorem WW {a b:ByteArray} (h:a≠b):(a.toList==b.toList)=false:=by
 rw[AW,AW,<-Bool.not_eq_true,beq_iff_eq];exact fun e=>h (by rw[<-pL a,e,pL])
def gW (l:List Int) (e:Int):Prop:=0<l.length/\l[l.length-1]? =some e/\∀x∈l.take (l.length-1),0<=x/\x<e
instance (l:List Int) (e:Int):Decidable (gW l e):=inferInstanceAs (Decidable (0<l.length/\l[l.length-1]? =some e/\∀x∈l.take (l.length-1),0<=x/\x<e))
def cE (l:List Int):List Int:=dA (l.take (l.length-1))
def rest (a:ByteArray) (o:Int) (l:List Int) (most:Int):ByteArray×Int:=
 if ¬(a.data.toList≠[]/\bK a.data.toList=a.data.toList) then(cW,1)
 else if ¬gW l ((a.size:Int)+1) then(cW,3)
 else if ¬((cE l).length:Int)<=most then(cW,4)
 else if ¬(0<=o/\o<((cE l).length:Int)) then(cW,3)
 else(mkS (nF (unL a.data.toList (cE l)) o.toNat),0)
theorem wQ {a:ByteArray} {o:Int} {l:List Int} {most:Int} (h:¬(a.data.toList≠[]/\bK a.data.toList=a.data.toList)):rest a o l most=(cW,1):=if_pos h
theorem zK {a:ByteArray} {o:Int} {l:List Int} {most:Int} (h:a.data.toList≠[]/\bK a.data.toList=a.data.toList) (h2:¬gW l ((a.size:Int)+1)):rest a o l most=(cW,3):=by
 unfold rest;rw[if_neg (fun k=>k h),if_pos h2]
theorem zL {a:ByteArray} {o:Int} {l:List Int} {most:Int} (h:a.data.toList≠[]/\bK a.data.toList=a.data.toList) (h2:gW l ((a.size:Int)+1)) (h3:¬((cE l).length:Int)<=most):rest a o l most=(cW,4):=by
 unfold rest;rw[if_neg (fun k=>k h),if_neg (fun k=>k h2),if_pos h3]
theorem zM {a:ByteArray} {o:Int} {l:List Int} {most:Int} (h:a.data.toList≠[]/\bK a.data.toList=a.data.toList) (h2:gW l ((a.size:Int)+1)) (h3:((cE l).length:Int)<=most) (h4:¬(0<=o/\o<((cE l).length:Int))):rest a o l most=(cW,3):=by
 unfold rest;rw[if_neg (fun k=>k h),if_neg (fun k=>k h2),if_neg (fun k=>k h3),if_pos h4]
theorem wR {a:ByteArray} {o:Int} {l:List Int} {most:Int} (h:a.data.toList≠[]/\bK a.data.toList=a.data.toList) (h2:gW l ((a.size:Int)+1)) (h3:((cE l).length:Int)<=most) (h4:0<=o/\o<((cE l).length:Int)):rest a o l most=(mkS (nF (unL a.data.toList (cE l)) o.toNat),0):=by
 unfold rest;rw[if_neg (fun k=>k h),if_neg (fun k=>k h2),if_neg (fun k=>k h3),if_neg (fun k=>k h4)]
theorem aMd:∀(m:List Int) (n p:Nat),∀y∈zx n p m,y=0\/∃x∈m,2<=x/\y=x-1:=by
 intro m
 induction m with
 |nil=>intro n p y hy;exact .inl (aCo hy)
 |cons x m ih=>
  intro n p y hy;unfold zx at hy
  by_cases h:x<2
  ·rw[if_pos h] at hy;rcases ih _ _ y hy with q|⟨z,hz,q⟩
   ·exact .inl q
   ·exact .inr ⟨z,jD _ hz,q⟩
  ·rw[if_neg h,cU,kD] at hy;rcases hy with hy|rfl|hy
   ·exact .inl (aCo hy)
   ·exact .inr ⟨x,by simp,by omega,rfl⟩
   ·rcases ih _ _ y hy with q|⟨z,hz,q⟩
    ·exact .inl q
    ·exact .inr ⟨z,jD _ hz,q⟩
theorem LQ {l:List Int} {n:Nat} (h:gW l ((n:Int)+1)) (hn:0<n):∀y∈cE l,0<=y/\y<(n:Int):=fun y hy=>by
 rcases aMd _ _ _ y hy with q|⟨x,hx,h2,q⟩
 ·omega
 ·have:=h.2.2 x hx;omega
theorem WZ {w:World} {ad:Option Addr} {n ca:Nat} {l:List Int} (h:RdI w (.slice ad n ca) l) (h0:0<l.length):∃b off,ad=some ⟨b,off,none⟩/\b<w.heap.size/\∀j x,l[j]? =some x->w.cell? ⟨b,off+j,none⟩=some (.int .i64 x):=by
 obtain⟨a,c,e,_,_,hA⟩:=h.open;obtain⟨b,off,rfl,q⟩:=hA h0;exact⟨b,off,by injection e,q⟩
theorem EB {w:World} {b off ca:Nat} {l:List Int} (hb:b<w.heap.size) (hc:∀j x,l[j]? =some x->w.cell? ⟨b,off+j,none⟩=some (.int .i64 x)) (k:Nat) (hk:k<=l.length) (hca:l.length<=ca) (hma:ca<=maxLen):RdI w (.slice (some ⟨b,off,none⟩) k ca) (l.take k):=by
 have hl:(l.take k).length=k:=by rw[aX];omega
 refine⟨_,_,by rw[hl],by rw[hl];omega,hma,.inr ⟨b,off,rfl,hb,fun j hj=>?_⟩⟩;rw[bJ] at hj;have hj':j<l.length:=by omega
 rw[hc j _ (aN hj')];simp[fF,hj',show j<k by omega]
theorem vA {s:ByteArray} (h:s.data.toList=[]):s.toList.isEmpty=true:=by
 rw[AW,h];rfl
theorem LR {s:ByteArray} (h:s.data.toList≠[]):s.toList.isEmpty=false:=by
 rw[AW]
 cases e:s.data.toList with
 |nil=>exact absurd e h
 |cons b l=>rfl
theorem XF {W w w':World} {wb:Nat} {x:Value} (h:w.cell? ⟨wb,0,none⟩=some x/\Below W.heap.size W w) (hl:wb<W.heap.size) (hb:Below w.heap.size w w'):w'.cell? ⟨wb,0,none⟩=some x/\Below W.heap.size W w':=
 ⟨by rw[hb.cell (p:=⟨wb,0,none⟩) (dR hl h.2.size)];exact h.1,h.2.trans (hb.mono h.2.size)⟩
theorem XG {w:World} {wb:Nat} {x:Value} (h:w.cell? ⟨wb,0,none⟩=some x):w.drew.cell? ⟨wb,0,none⟩=some x/\Below w.heap.size w w.drew:=⟨h,(aB _ _).drew⟩
theorem aMi (wb:Nat) (a:ByteArray) (o most:Int) (v lv:Value) (b:ByteArray) (w:World) (ha:a.size<=140737488355328) (harr:Arr w wb 144 [.string a,.int .i64 o,v,.int .i64 most,lv,.string b]):
  Calls Tryz.prog 60 #[.pointer (some ⟨wb,0,none⟩)] w fun e w'=>e=.returned (.int .i64 (if a.data.toList≠[]/\bK a.data.toList=a.data.toList then 0 else 1))/\Below w.heap.size w w':=by
 have c0:=harr.cell (i:=0) rfl;have hlt:=harr.lt
 by_cases hne:a.data.toList=[]
 ·have t1:=vA hne;rw[if_neg (fun h=>h.1 hne)];go_enter Tryz.func60,Tryz.ntmps60;go_wp2_with fail
  go_quiet (fail)
  go_wp2_with fail;go_ret;exact⟨rfl,iI (aB _ _) _⟩
 have t1:=LR hne
 by_cases hal:bK a.data.toList=a.data.toList
 ·rw[if_pos ⟨hne,hal⟩];have t2:(a.toList==a.toList)=true:=by simp
  have HAL:=hid hal;clear hal;go_enter Tryz.func60,Tryz.ntmps60;go_upto_region 1 with fail
  go_cut [22] (fun s22 wx=>s22=.bool false/\Below w.heap.size w wx)
  case first=>
   go_region_held3 (fun w'=>w'.cell? ⟨wb,0,none⟩=some (.string a)/\Below w.heap.size w w')
    (first
     |with_reducible assumption
     |with_reducible exact XG c0
     |with_reducible exact XF (by assumption) hlt (by assumption))
    (first
     |(go_at_call 84;refine(KY a _ ha).mono ?_;rintro e w1 ⟨rfl,hb⟩;rw[HAL.out,pL]))
   all_goals go_wp2_with fail
   all_goals go_meet
   all_goals exact⟨rfl,And.right (show w1.cell? ⟨wb,0,none⟩=some (.string a)/\Below w.heap.size w w1 by assumption)⟩
  case rest=>
   obtain⟨rfl,hbx⟩:=hcut;go_wp2_with fail;go_ret;exact⟨rfl,hbx⟩
 ·rw[if_neg (fun h=>hal h.2)];have t2:((mkS (bK a.data.toList)).toList==a.toList)=false:=WW (fun e=>hal (by have:=congrArg (fun s=>s.data.toList) e;simpa using this));go_enter Tryz.func60,Tryz.ntmps60;go_upto_region 1 with fail
  go_cut [22] (fun s22 wx=>s22=.bool true/\Below w.heap.size w wx)
  case first=>
   go_region_held3 (fun w'=>w'.cell? ⟨wb,0,none⟩=some (.string a)/\Below w.heap.size w w')
    (first
     |with_reducible assumption
     |with_reducible exact XG c0
     |with_reducible exact XF (by assumption) hlt (by assumption))
    (first
     |(go_at_call 84;refine(KY a _ ha).mono ?_;rintro e w1 ⟨rfl,hb⟩))
   all_goals go_wp2_with fail
   all_goals go_meet
   all_goals exact⟨rfl,And.right (show w1.cell? ⟨wb,0,none⟩=some (.string a)/\Below w.heap.size w w1 by assumption)⟩
  case rest=>
   obtain⟨rfl,hbx⟩:=hcut;go_wp2_with fail;go_ret;exact⟨rfl,hbx⟩
end
section
open Go.RowKit Go.Shelf
def EC (w0:World) (g:Nat) (caps:Array Value) (p:Int->Bool) (l:List Int):Prop:=
 ∀W,Below w0.heap.size w0 W->∀x∈l,Calls Tryz.prog g (#[Value.int .i64 x]++caps) W fun e W'=>e=.returned (.bool (p x))/\Below W.heap.size W W'
theorem aMj (g:Nat) (caps:Array Value) (p:Int->Bool) (v:Value) (l:List Int) (w:World) (hr:RdI w v l) (hg:Enters Tryz.prog g) (hp:EC w g caps p l):
  Calls Tryz.prog 98 #[v,.func (.func g) #[] caps] w fun e w'=>e=.returned (.int .i64 (fP p l))/\Below w.heap.size w w':=by
 obtain⟨a,ca,rfl,hca,hma,hA⟩:=hr.open;unfold maxLen at hma;clear hr;have HP:=hid hp;have hE:∀args W,(callFunc g args).run Tryz.prog W=.ok (.enter g args) W:=hg;clear hp hg;go_enter Tryz.func98,Tryz.ntmps98;go_wp2_with fail
 go_loopg [8] l.length (fun gh s8 wr=>∃k:Nat,k<=l.length/\gh=l.length-k/\s8=.int .i64 k/\Hid (∀x∈l.take k,p x=false)/\Below w.heap.size w wr)
 case atStart=>exact⟨0,aU _,rfl,rfl,hid (fun x hx=>by simp at hx),aB _ _⟩
 case round=>
  obtain⟨k,hk,hg,rfl,HT,hbel⟩:=hrel;have HG:=hid hg;clear hg
  by_cases hlt:k<l.length
  ·obtain⟨b1,o1,rfl,hb1,hc1⟩:=hA (by omega);obtain⟨x,hx⟩:=dH hlt;have c1:=(hbel.cell (p:=⟨b1,o1+k,none⟩) hb1).trans (hc1 k x hx);have hmem:x∈l:=cH hx;have HX:=hid hx;have hP:=HP.out _ hbel x hmem;clear hc1 hx hA;go_wp2_with fail;refine hP.mono ?_;rintro e w1 ⟨rfl,hb1'⟩;have hbN:=hbel.trans (hb1'.mono hbel.size)
   by_cases hpx:p x=true
   ·rw[hpx];go_wp2_with fail;go_ret;refine⟨fX ?_,hbN⟩;rw[BR HT.out hlt (by have:=HX.out;rw[aN hlt] at this;rw[bW this];exact hpx)]
   ·have hpf:p x=false:=by simpa using hpx
    rw[hpf];go_wp2_with fail;have hg:=HG.out
    go_roundg (l.length-(k+1))
    case measure=>omega
    case rel=>
     refine⟨k+1,by omega,rfl,by go_num,hid (fun y hy=>?_),hbN⟩;rw[List.take_add_one,HX.out] at hy;rcases cU.1 hy with hy|hy
     ·exact HT.out y hy
     ·simp at hy;rw[hy];exact hpf
  ·go_wp2_with fail;go_ret;exact⟨fX (by rw[oN];have:=HT.out;rwa[cS (by omega)] at this),hbel⟩
theorem XH (g:Nat) (caps:Array Value) (p:Int->Bool) (v:Value) (l:List Int) (w:World) (hr:RdI w v l) (hg:Enters Tryz.prog g) (hp:EC w g caps p l):
  Calls Tryz.prog 85 #[v,.func (.func g) #[] caps] w fun e w'=>e=.returned (.bool (decide (0<=fP p l)))/\Below w.heap.size w w':=by
 have HI:=hid (aMj g caps p v l w hr hg hp);obtain⟨i,hi⟩:∃i,i=fP p l:=⟨_,rfl⟩;rw[<-hi] at HI ⊢;clear hr hg hp hi;go_enter Tryz.func85,Tryz.ntmps85;go_wp2_with fail;refine HI.out.mono ?_;rintro e w1 ⟨rfl,hbI⟩;go_wp2_with fail;go_ret;exact⟨rfl,hbI⟩
def lV (e:Int) (x:Int):Bool:=decide (x<0)||decide (e<=x)
theorem XI (x:Int) (bx wb:Nat) (a:ByteArray) (o most:Int) (v lv:Value) (b:ByteArray) (w:World) (ha:a.size<=140737488355328) (hv:v.oneCell'=true) (hbx:w.cell? ⟨bx,0,none⟩=some (.pointer (some ⟨wb,0,none⟩))) (harr:Arr w wb 144 [.string a,.int .i64 o,v,.int .i64 most,lv,.string b]):
  Calls Tryz.prog 86 #[.int .i64 x,.pointer (some ⟨bx,0,none⟩)] w fun e w'=>e=.returned (.bool (lV ((a.size:Int)+1) x))/\Below w.heap.size w w':=by
 have c0:=harr.cell (i:=0) rfl;have c1:=harr.cell (i:=1) rfl;have c2:=harr.cell (i:=2) rfl
 by_cases hx:x<0
 ·have t1:decide (x<0)=true:=decide_eq_true hx;have e1:lV ((a.size:Int)+1) x=true:=by unfold lV;rw[t1];rfl
  rw[e1];go_enter Tryz.func86,Tryz.ntmps86;go_wp2_with fail;go_ret;exact⟨rfl,aB _ _⟩
 ·have t1:decide (x<0)=false:=decide_eq_false hx;have e1:lV ((a.size:Int)+1) x=decide ((a.size:Int)+1<=x):=by unfold lV;rw[t1];rfl
  rw[e1];clear e1;go_enter Tryz.func86,Tryz.ntmps86;go_wp2_with fail;refine(wP a o v hv _ ha).mono ?_;rintro e w1 ⟨rfl,hb1⟩;go_wp2_with fail;go_ret;exact⟨rfl,hb1⟩
end
section
theorem XO {N:Nat} {lt:Nat->Nat->Prop} (hir:∀x,¬lt x x) (htr:∀x y z,lt x z->lt x y\/lt y z) {a b:Nat->Nat}
  (ainj:∀i j,i<N->j<N->a i=a j->i=j) (bonto:∀i,i<N->∃j,j<N/\b j=a i)
  (asd:∀i j,i<j->j<N->¬lt (a j) (a i)) (bs:∀i j,i<j->j<N->¬lt (b j) (b i)):∀i,i<N->¬lt (a i) (b i):=by
 intro i hi h;have key:∀k,k<=i->∃j,j<i/\b j=a k:=by
  intro k hk;obtain⟨j,hj,e⟩:=bonto k (by omega);refine⟨j,?_,e⟩;have h1:lt (a k) (b i):=by
   rcases htr (a i) (a k) (b i) h with p|p
   ·exfalso;rcases bT k i with q|q
    ·exact asd k i q hi p
    ·have:k=i:=by omega
     subst this;exact hir _ p
   ·exact p
  rw[<-e] at h1;rcases Nat.lt_trichotomy j i with p|p|p
  ·exact p
  ·subst p;exact absurd h1 (hir _)
  ·exact absurd h1 (bs i j p hj)
 obtain⟨f,hf⟩:∃f:Nat->Nat,∀k,k<=i->f k<i/\b (f k)=a k:=by
  refine⟨fun k=>if h:k<=i then Classical.choose (key k h) else 0,fun k hk=>?_⟩;have:=Classical.choose_spec (key k hk);simp only[dif_pos hk];exact this
 obtain⟨x,y,h1,h2,h3⟩:=php i f (fun k hk=>(hf k hk).1);have e1:=(hf x (by omega)).2;have e2:=(hf y h2).2;rw[h3,e2] at e1;have:=ainj y x (by omega) (by omega) e1;omega
theorem XP {c:Nat->Nat} {m:Nat} (x y z:Nat) (h:ltm c m x z):ltm c m x y\/ltm c m y z:=by
 rcases uL c x y m with p|p|p
 ·exact .inl p
 ·exact .inr (p.symm.ltm h)
 ·exact .inr (p.trans h)
theorem aNv {c:Nat->Nat} {m N:Nat} {a b:Nat->Nat} (ainj:∀i j,i<N->j<N->a i=a j->i=j) (binj:∀i j,i<N->j<N->b i=b j->i=j)
  (aonto:∀i,i<N->∃j,j<N/\a j=b i) (bonto:∀i,i<N->∃j,j<N/\b j=a i)
  (asd:∀i j,i<j->j<N->¬ltm c m (a j) (a i)) (bs:∀i j,i<j->j<N->¬ltm c m (b j) (b i)):∀i,i<N->eqm c m (a i) (b i):=by
 intro i hi;have h1:=XO (lt:=ltm c m) (fun _=>ltm.irrefl) XP ainj bonto asd bs i hi;have h2:=XO (lt:=ltm c m) (fun _=>ltm.irrefl) XP binj aonto bs asd i hi;rcases uL c (a i) (b i) m with p|p|p
 ·exact absurd p h1
 ·exact p
 ·exact absurd p h2
theorem Ord.weak {c:Nat->Nat} {n m:Nat} {o:Nat->Int} (h:Ord c n m o) {i j:Nat} (hij:i<j) (hj:j<n):¬ltm c m (o j).toNat (o i).toNat:=by
 intro k;rcases h.srt i j (aU _) hij hj with p|⟨p,_⟩
 ·exact p.asymm k
 ·exact k.not_eqm p.symm
theorem Ord.nat {c:Nat->Nat} {n m:Nat} {o:Nat->Int} (h:Ord c n m o) {i:Nat} (hi:i<n):o i=(((o i).toNat:Nat):Int)/\(o i).toNat<n:=by
 have:=h.rng i hi;omega
theorem Ord.inj {c:Nat->Nat} {n m:Nat} {o:Nat->Int} (h:Ord c n m o) {i j:Nat} (hi:i<n) (hj:j<n) (e:(o i).toNat=(o j).toNat):i=j:=by
 apply aCc;intro hne;have h1:=(h.nat hi).1;have h2:=(h.nat hj).1;exact h.ne hi hj hne (by rw[h1,h2,e])
theorem aNw {n k x y:Nat} (hx:x<n) (hy:y<n) (h:(x+k)%n=(y+k)%n):x=y:=by
 have e:∀z,z<n->((z+k)%n+(n-k%n))%n=z:=by
  intro z hz;have hk:=jQ k (show 0<n by omega);rw[AO,<-AO];have e1:z+k+(n-k%n)=z+n*(k/n+1):=by
   have:=NU k n;rw[Nat.mul_add,Nat.mul_one];omega
  rw[AO,e1,aTo,kU hz]
 rw[<-e x hx,<-e y hy,h]
theorem aNx {n k y:Nat} (hy:y<n):∃x,x<n/\(x+k)%n=y:=by
 refine⟨(y+(n-k%n))%n,jQ _ (by omega),?_⟩;have hk:=jQ k (show 0<n by omega);have e1:y+(n-k%n)+k=y+n*(k/n+1):=by
  have:=NU k n;rw[Nat.mul_add,Nat.mul_one];omega
 rw[AO,e1,aTo,kU hy]
theorem aNy (s:ByteArray) (o:Nat->Int) (n:Nat) {i:Nat} (hi:i<n):∃b,(dM s o n)[i]? =some b/\b.toNat=bX s ((o i).toNat+(s.size-1)):=by
 refine⟨s.data.toList.getD (((o i).toNat+(s.size-1))%s.size) 0,?_,rfl⟩;unfold dM;rw[dY,List.getElem?_range hi];rfl
theorem aNz {x y:List UInt8} (hl:x.length=y.length) (h:∀i,i<x.length->∃a b,x[i]? =some a/\y[i]? =some b/\a.toNat=b.toNat):x=y:=by
 apply jA;intro i
 by_cases hi:i<x.length
 ·obtain⟨a,b,h1,h2,h3⟩:=h i hi;rw[h1,h2,UInt8.toNat_inj.1 h3]
 ·rw[dL (by omega),dL (by omega)]
theorem aN5 (s:List UInt8):∀j,j<s.length->∀i,i<j->(s.getD (nxt s i) 0).toNat<(s.getD (nxt s j) 0).toNat\/((s.getD (nxt s i) 0).toNat=(s.getD (nxt s j) 0).toNat/\nxt s i<nxt s j):=by
 intro j
 induction j with
 |zero=>intro _ i hi;omega
 |succ j ih=>
  intro hj i hi;obtain⟨h1,h2⟩:=aFx s j hj;rcases bT i j with p|p
  ·rcases ih (by omega) i p with q|⟨q,q'⟩
   ·exact .inl (by omega)
   ·rcases bT (s.getD (nxt s j) 0).toNat (s.getD (nxt s (j+1)) 0).toNat with t|t
    ·exact .inl (by omega)
    ·have:=h2 (by omega);exact .inr ⟨by omega,by omega⟩
  ·have:i=j:=by omega
   subst this;rcases bT (s.getD (nxt s i) 0).toNat (s.getD (nxt s (i+1)) 0).toNat with t|t
   ·exact .inl t
   ·exact .inr ⟨by omega,h2 (by omega)⟩
theorem XW {c:Nat->Nat} {n:Nat} (hc:Cyc c n) (hn:0<n) {x y:Nat} (h:eqm c n x y) (t:Nat):c (x+t)=c (y+t):=
 (hc.all hn (m:=n+t+1) (by omega)).1.2 h t (by omega)
theorem XX {c:Nat->Nat} {n:Nat} (hc:Cyc c n) (hn:0<n) {x y:Nat} (h:eqm c n x y) (k:Nat):eqm c n (x+k) (y+k):=fun t _=>by
 rw[dZ,dZ];exact XW hc hn h _
theorem LY {c:Nat->Nat} {n:Nat} (hc:Cyc c n) (x:Nat):eqm c n (x+n) x:=fun t _=>by
 rw[show x+n+t=x+t+n by omega,hc]
section
variable {s:ByteArray} {o:Nat->Int}
theorem LZ (_h:Ord (bX s) s.size s.size o) {i:Nat} (hi:i<s.size):((dM s o s.size).getD i 0).toNat=bX s ((o i).toNat+(s.size-1)):=by
 obtain⟨b,h1,h2⟩:=aNy s o s.size hi;rw[fF,h1];exact h2
theorem aN6 (h:Ord (bX s) s.size s.size o):∀i,i<s.size->eqm (bX s) s.size ((o (nxt (dM s o s.size) i)).toNat+(s.size-1)) (o i).toNat:=by
 have hc:=sX s;have hl:=sY s o s.size;have hlt:∀{i},i<s.size->nxt (dM s o s.size) i<s.size:=fun{i} hi=>by have:=CK (dM s o s.size) i (by omega);omega
 intro i hi;rw[<-hc.eqm,kU (h.nat hi).2];refine aNv (a:=fun i=>((o (nxt (dM s o s.size) i)).toNat+(s.size-1))%s.size) (b:=fun i=>(o i).toNat) (N:=s.size) ?_ (fun i j hi hj e=>h.inj hi hj e) ?_ ?_ ?_ (fun i j hij hj=>h.weak hij hj) i hi
 ·intro i j hi hj e;have e1:=aNw (h.nat (hlt hi)).2 (h.nat (hlt hj)).2 e;exact aFl _ i j (by omega) (by omega) (h.inj (hlt hi) (hlt hj) e1)
 ·intro i hi;obtain⟨x,hx,e⟩:=aNx (k:=s.size-1) (h.nat hi).2;obtain⟨j,hj,e'⟩:=h.onto hx;have hp:=QO (dM s o s.size) j (by omega);refine⟨jI (dM s o s.size) j,by omega,?_⟩;rw[aFk _ j (by omega),e',eG,e]
 ·intro i hi;obtain⟨j,hj,e⟩:=h.onto (y:=((o (nxt (dM s o s.size) i)).toNat+(s.size-1))%s.size) (jQ _ (by omega));exact⟨j,hj,by rw[e,eG]⟩
 ·intro i j hij hj;have hn:0<s.size:=by omega
  have hi:i<s.size:=by omega
  have v:=aN5 (dM s o s.size) j (by omega) i hij;rw[LZ h (hlt hi),LZ h (hlt hj)] at v;have bi:=h.nat (hlt hi);have bj:=h.nat (hlt hj);rw[hc.ltm,<-(hc.all hn (m:=1+s.size) (by omega)).2,QW];rintro(⟨t,t1,_,t3⟩|⟨t,t'⟩)
  ·have:t=0:=by omega
   subst this;simp only[pH] at t3;omega
  ·have e1:=t 0 (by omega);simp only[pH] at e1;rcases v with v|⟨_,v⟩
   ·omega
   ·rw[show(o (nxt (dM s o s.size) j)).toNat+(s.size-1)+1=(o (nxt (dM s o s.size) j)).toNat+s.size by omega,
     show(o (nxt (dM s o s.size) i)).toNat+(s.size-1)+1=(o (nxt (dM s o s.size) i)).toNat+s.size by omega] at t'
    have t2:=((LY hc _).symm.ltm t').eqm (LY hc _);exact h.weak v (hlt hj) t2
theorem aN7 (h:Ord (bX s) s.size s.size o) {i:Nat} (hi:i<s.size):eqm (bX s) s.size (o (nxt (dM s o s.size) i)).toNat ((o i).toNat+1):=by
 have hc:=sX s;have hn:0<s.size:=by omega
 have:=XX hc hn (aN6 h i hi) 1;rw[show(o (nxt (dM s o s.size) i)).toNat+(s.size-1)+1=(o (nxt (dM s o s.size) i)).toNat+s.size by omega] at this;exact(LY hc _).symm.trans this
theorem aN8 (h:Ord (bX s) s.size s.size o) {k:Nat} (hk:k<s.size):∀j,eqm (bX s) s.size (o (kJ (dM s o s.size) j k)).toNat ((o k).toNat+j):=by
 have hc:=sX s;have hn:0<s.size:=by omega
 have hl:=sY s o s.size;intro j
 induction j with
 |zero=>exact eqm.refl _ _
 |succ j ih=>
  have hw:=sU (dM s o s.size) k (by omega) j;exact(aN7 h (by omega)).trans (XX hc hn ih 1)
theorem aN9 (h:Ord (bX s) s.size s.size o) {k:Nat} (hk:k<s.size):nF (dM s o s.size) k=rot s (o k).toNat:=by
 have hl:=sY s o s.size;have hok:=(h.nat hk).2;have hn:0<s.size:=by omega
 refine aNz (by rw[CN,yO _ _ (by omega),hl]) (fun i hi=>?_);rw[CN,hl] at hi;obtain⟨b,h1,h2⟩:=yP s hok hi;refine⟨_,b,aFv _ _ _ (by omega),h1,?_⟩;have hw:=sU (dM s o s.size) k (by omega) (i+1);rw[LZ h (by omega),h2,XW (sX s) hn (aN8 h hk (i+1)) (s.size-1),show(o k).toNat+(i+1)+(s.size-1)=(o k).toNat+i+s.size by omega,sX s]
end
end
section
open Go.RowKit Go Go.Shelf
theorem aQy (k:Nat) (x:BitVec 32):jL (k+1) x=if(jL k x).msb then(jL k x)<<<1^^^79764919#32 else(jL k x)<<<1:=rfl
theorem aAr (a:BitVec 32):bits .xor .u32 rA.max (a.toNat:Int)=((~~~ a).toNat:Int):=by
 have h:=DW (0xffffffff#32) a;have e:(((0xffffffff#32:BitVec 32).toNat:Nat):Int)=rA.max:=by decide
 rw[e] at h;rw[h];have:(0xffffffff#32)^^^a= ~~~ a:=by
  have:=BitVec.allOnes_xor (x:=a);exact this
 rw[this]
theorem aQz (i:Nat) (hi:i<256) (w:World):
  Calls Tryz.prog 23 #[.int .i64 (i:Int)] w fun e w'=>e=.returned (.int .u32 ((kN i).toNat:Int))/\w'=w:=by
 have e0:=aKo i hi;have m0:rA.wrap (i:Int)=(i:Int):=by rw[vP];omega
 have m0':(i:Int)%4294967296=(i:Int):=by omega
 obtain⟨x0,hx0⟩:∃x0,x0=BitVec.ofNat 32 i<<<24:=⟨_,rfl⟩;obtain⟨X0,hX0⟩:∃X0,X0=x0.toNat:=⟨_,rfl⟩;rw[<-hx0,<-hX0] at e0;have e0':(i:Int)*16777216%4294967296=(X0:Int):=by rw[<-e0,vP]
 have HT:=hid (show kN i=jL 8 x0 by rw[hx0];rfl);have HX0:=hid hX0;clear hX0 hx0;go_enter Tryz.func23,Tryz.ntmps23;go_wp2_with fail
 go_loopg [3,7] 8 (fun g s3 s7 wr=>∃j X:Nat,j<=8/\g=8-j/\s7=.int .i64 (j:Int)/\s3=.int .u32 (X:Int)/\Hid (X=(jL j x0).toNat)/\wr=w)
 case atStart=>exact⟨0,X0,by omega,rfl,rfl,rfl,HX0,rfl⟩
 case round=>
  obtain⟨j,X,hj,hg,rfl,rfl,HX,rfl⟩:=hrel;have HG:=hid hg;clear hg e0 e0' m0 m0'
  by_cases hlt:j<8
  ·have t1:decide ((j:Int)<8)=true:=decide_eq_true (by omega);obtain⟨x,hx⟩:∃x,x=jL j x0:=⟨_,rfl⟩;have hX:=HX.out;rw[<-hx] at hX;have hsucc:=aQy j x0;rw[<-hx] at hsucc;have e1:=aKq x;have e2:=WC x;obtain⟨y,hy⟩:∃y,y=x<<<1:=⟨_,rfl⟩;obtain⟨Y,hY⟩:∃Y,Y=y.toNat:=⟨_,rfl⟩;have e3:=WE y;obtain⟨z,hz⟩:∃z,z=y^^^79764919#32:=⟨_,rfl⟩;obtain⟨Z,hZ⟩:∃Z,Z=z.toNat:=⟨_,rfl⟩;rw[<-hX] at e1;rw[<-hX,<-hy,<-hY] at e2;rw[<-hY,<-hz,<-hZ] at e3;rw[<-hy,<-hz] at hsucc;have e2':(X:Int)*2%4294967296=(Y:Int):=by rw[<-e2,vP]
   have HY:=hid hY;have HZ:=hid hZ
   by_cases hm:x.msb=true
   ·rw[if_pos hm] at e1;rw[if_pos hm] at hsucc;have HS:=hid hsucc;clear hx hX hy hY hz hZ hsucc hm;go_wp2_with fail;have hg:=HG.out
    go_roundg (8-(j+1))
    case measure=>omega
    case rel=>exact⟨j+1,Z,by omega,rfl,by go_num,rfl,hid (by rw[HS.out];exact HZ.out),rfl⟩
   ·rw[if_neg hm] at e1;rw[if_neg hm] at hsucc;have HS:=hid hsucc;clear hx hX hy hY hz hZ hsucc hm e3;go_wp2_with fail;have hg:=HG.out
    go_roundg (8-(j+1))
    case measure=>omega
    case rel=>exact⟨j+1,Y,by omega,rfl,by go_num,rfl,hid (by rw[HS.out];exact HY.out),rfl⟩
  ·have t1:decide ((j:Int)<8)=false:=decide_eq_false (by omega);have ej:j=8:=by omega
   subst ej;go_wp2_with fail;go_ret;exact⟨fX (by rw[HT.out,<-HX.out]),rfl⟩
def fT (f:Nat->Nat):List Value:=(dG 256).map fun c=>.int .u32 (f c:Int)
theorem EZ (f:Nat->Nat) (c:Nat) (h:c<256):(fT f)[c]? =some (.int .u32 (f c:Int)):=by simp[fT,h]
theorem aQ0 (f f':Nat->Nat) (c:Nat) (v:Nat) (h:∀d,f' d=if d=c then v else f d):(fT f).set c (.int .u32 (v:Int))=fT f':=by
 apply jA;intro j
 by_cases hj:j<256
 ·by_cases e:c=j
  ·subst e;simp[fT,hj,h]
  ·rw[List.getElem?_set_ne e,EZ f j hj,EZ f' j hj,h,if_neg (fun h=>e h.symm)]
 ·rw[dL (by simp[fT];omega),dL (by simp[fT];omega)]
theorem aAs:Tryz.zeroCells61=(fT (fun _=>0)).toArray:=by kernel_rfl
theorem aQ1 (f:Nat->Nat):(fT f).toArray.size=256:=by simp[fT]
theorem aAt (f:Nat->Nat):(Tryz.prog.info? 61).map (·.size)=some (fT f).toArray.size:=by rw[aQ1];kernel_rfl
theorem aAu:Tryz.prog.underlying 61=some (.array 256 29):=by kernel_rfl
theorem aAv {w:World} {b:Nat} {e:TypeId} {l:List Value} (h:Arr w b e l) (hl:l.length=256) (f:Nat->Nat):
  (storeCells ⟨b,0,none⟩ (fT f)).run Tryz.prog w=.ok () (w.setRow b (fT f).toArray):=by
 have h1:(fT f).length=256:=by simp[fT]
 have h2:=run_storeCells_from (P:=Tryz.prog) b e (fT f) 0 l.toArray w h (by simp[hl,h1]) (fun v hv=>by obtain⟨c,_,rfl⟩:=dU.1 hv;rfl);rw[h2]
 congr 2
def qS (k c:Nat):Nat:=if c<k then(kN c).toNat else 0
theorem aQ2 (k c:Nat):qS (k+1) c=if c=k then(kN k).toNat else qS k c:=by
 unfold qS
 by_cases h:c=k
 ·subst h;simp
 ·rw[if_neg h]
  by_cases h2:c<k
  ·rw[if_pos h2,if_pos (by omega)]
  ·rw[if_neg h2,if_neg (by omega)]
theorem aQ3 (w:World):
  Calls Tryz.prog 22 #[.func (.func 23) #[] #[]] w fun e w'=>e=.returned (.agg (fT (fun c=>(kN c).toNat)).toArray)/\Below w.heap.size w w':=by
 go_enter Tryz.func22,Tryz.ntmps22;go_wp2_with fail
 go_loopg [3,4] 256 (fun gh _s3 s4 wr=>∃k:Nat,k<=256/\gh=256-k/\s4=.int .i64 k/\Arr wr w.heap.size 61 (fT (qS k))/\Below w.heap.size w wr)
 case atStart=>
  refine⟨0,aU _,rfl,rfl,?_,(aB _ _).alloc (aA _) _⟩;rw[aAs,show qS 0=fun _=>0 from by funext c;simp[qS]];exact Arr.new w _ _
 case round=>
 obtain⟨k,hk,hg,rfl,harr,hbel⟩:=hrel;have HG:=hid hg;clear hg
 by_cases hlt:k<256
 ·have t1:decide ((k:Int)<256)=true:=decide_eq_true (by omega);have c1:=harr.cell (EZ (qS k) k hlt);have f1:=harr.free k;go_wp2_with fail;refine(aQz k hlt _).mono ?_;rintro e w1 ⟨rfl,rfl⟩;have hk2:(k:Int)<256:=by omega
  go_wp2_with fail;have hg:=HG.out
  go_roundg (256-(k+1))
  case measure=>omega
  case rel=>
   refine⟨k+1,by omega,rfl,by go_num,?_,hbel.setCell (p:=⟨w.heap.size,k,none⟩) (aA _) _⟩;have:=harr.set k (.int .u32 ((kN k).toNat:Int));rwa[aQ0 _ (qS (k+1)) _ _ (aQ2 k)] at this
 ·have hke:k=256:=by omega
  subst hke;have t1:decide ((256:Int)<256)=false:=by decide
  have hfin:fT (qS 256)=fT (fun c=>(kN c).toNat):=by
   unfold fT;apply List.map_congr_left;intro c hc;rw[jF] at hc;unfold qS;rw[if_pos hc]
  rw[hfin] at harr;clear hfin;go_wp2_with fail;refine wp_load_row 61 (.tmp 2) rfl w.heap.size rfl _ _ (0,0) (.array 256 29) harr aAu rfl (aAt _) ?_;have hst:=aAv harr (by simp[fT]) (fun c=>(kN c).toNat);go_wp2_with fail;have harr2:Arr (wr.setRow w.heap.size (fT (fun c=>(kN c).toNat)).toArray) w.heap.size 61 (fT (fun c=>(kN c).toNat)):=setRow_heap wr w.heap.size _ _ 61 (0,0) harr;refine bodyPost_ret (results_cell_row rfl _ _ w.heap.size _ _ (0,0) (.array 256 29) rfl harr2 aAu rfl (aAt _)) rfl ?_;exact⟨rfl,zB hbel _ (aA _) _⟩
theorem aQ4 (c:BitVec 32) (s:ByteArray) (w:World) (hs:s.size<=140737488355328):
  Calls Tryz.prog 17 #[.int .u32 (c.toNat:Int),.string s] w fun e w'=>e=.returned (.int .u32 ((~~~ kQ (~~~ c) s.data.toList).toNat:Int))/\Below w.heap.size w w':=by
 have HL:=hid (show s.data.toList.length=s.size by simp);have x1:=aAr c;obtain⟨C,hC⟩:∃C,C=c.toNat:=⟨_,rfl⟩;obtain⟨D,hD⟩:∃D,D=(~~~ c).toNat:=⟨_,rfl⟩;rw[<-hC] at x1 ⊢;rw[<-hD] at x1;have HD:=hid hD;obtain⟨cc,hcc⟩:∃cc,cc= ~~~ c:=⟨_,rfl⟩;rw[<-hcc] at HD ⊢;clear hC hD hcc;go_enter Tryz.func17,Tryz.ntmps17;go_wp2_with fail;refine(aQ3 _).mono ?_;rintro e w1 ⟨rfl,hb1⟩;have ha:Arr (w1.alloc (.cells Tryz.zeroCells61 61)) w1.heap.size 61 (fT (fun _=>0)):=by rw[aAs];exact Arr.new w1 _ _
 have hst:=aAv ha (by simp[fT]) (fun c=>(kN c).toNat);have ha2:Arr ((w1.alloc (.cells Tryz.zeroCells61 61)).setRow w1.heap.size (fT (fun c=>(kN c).toNat)).toArray) w1.heap.size 61 (fT (fun c=>(kN c).toNat)):=setRow_heap (w1.alloc (.cells Tryz.zeroCells61 61)) w1.heap.size _ _ 61 (0,0) ha;have hb2:Below w.heap.size w ((w1.alloc (.cells Tryz.zeroCells61 61)).setRow w1.heap.size (fT (fun c=>(kN c).toNat)).toArray):=zB (hb1.alloc hb1.size _) _ hb1.size _;go_wp2_with fail
 generalize (w1.alloc (.cells Tryz.zeroCells61 61)).setRow w1.heap.size (fT (fun c=>(kN c).toNat)).toArray=w2 at*
 have HG0:=hid (fun c (hc:c<256)=>ha2.cell (EZ (fun c=>(kN c).toNat) c hc));clear hst ha ha2;go_wp2_with fail
 go_loopg [0,6,12] s.size (fun g s0 _s6 s12 wr=>∃k X:Nat,k<=s.size/\g=s.size-k/\s12=.int .i64 (k:Int)/\s0=.int .u32 (X:Int)/\Hid (X=(kQ cc (s.data.toList.take k)).toNat)/\wr=w2)
 case atStart=>exact⟨0,D,aU _,rfl,rfl,rfl,HD,rfl⟩
 case round=>
  obtain⟨k,X,hk,hg,rfl,rfl,HX,rfl⟩:=hrel;have HG:=hid hg;clear hg x1
  by_cases hlt:k<s.size
  ·have t1:decide ((k:Int)<(s.size:Int))=true:=decide_eq_true (by omega);have hb:=s[k].toNat_lt;have HS:=hid (WF cc s.data.toList k s[k] (eW s k hlt));obtain⟨x,hx⟩:∃x,x=kQ cc (s.data.toList.take k):=⟨_,rfl⟩;rw[<-hx] at HX HS;have hX:=HX.out;have hstep:=aIv x s[k].toNat hb;have e1:=aKn x;have e2:=aKp x;have hq256:(x>>>24).toNat<256:=by
    have:(x>>>24).toNat=x.toNat/16777216:=by simp[Nat.shiftRight_eq_div_pow]
    have:=x.isLt;omega
   obtain⟨y,hy⟩:∃y,y=x<<<8:=⟨_,rfl⟩;obtain⟨Y,hY⟩:∃Y,Y=y.toNat:=⟨_,rfl⟩;obtain⟨Q,hQ⟩:∃Q,Q=(x>>>24).toNat:=⟨_,rfl⟩;rw[<-hX] at e1 e2;rw[<-hy,<-hY] at e1;rw[<-hQ] at e2 hq256;rw[<-hy,<-hQ] at hstep;have e3:(Q:Int)%256=(Q:Int):=by omega
   have e6:(X:Int)/16777216=(Q:Int):=by omega
   clear e2;have e4:=u8_xor_nat Q s[k].toNat hq256 hb;obtain⟨R,hR⟩:∃R,R=Q^^^s[k].toNat:=⟨_,rfl⟩;have hR256:R<256:=by rw[hR];exact Nat.xor_lt_two_pow (n:=8) hq256 hb
   rw[<-hR] at e4 hstep;have c1:=HG0.out R hR256;have hR2:(R:Int)<256:=by omega
   obtain⟨t,ht⟩:∃t,t=kN R:=⟨_,rfl⟩;have e5:=DW y t;rw[<-ht] at c1 hstep;obtain⟨T,hT⟩:∃T,T=t.toNat:=⟨_,rfl⟩;obtain⟨z,hz⟩:∃z,z=y^^^t:=⟨_,rfl⟩;obtain⟨Z,hZ⟩:∃Z,Z=z.toNat:=⟨_,rfl⟩;rw[<-hT] at c1;rw[<-hY,<-hT,<-hz,<-hZ] at e5;have HZ:=hid (show Z=(kQ cc (s.data.toList.take (k+1))).toNat by rw[HS.out,hstep,hZ,hz]);have e1':(X:Int)*256%4294967296=(Y:Int):=by rw[<-e1,vP]
   clear hx hX hstep hy hY hQ hR ht hT hz hZ HS;go_wp2_with fail;have hg:=HG.out
   go_roundg (s.size-(k+1))
   case measure=>omega
   case rel=>exact⟨k+1,Z,by omega,rfl,by go_num,rfl,HZ,rfl⟩
  ·have t1:decide ((k:Int)<(s.size:Int))=false:=decide_eq_false (by omega);obtain⟨x,hx⟩:∃x,x=kQ cc (s.data.toList.take k):=⟨_,rfl⟩;have hx2:=HX.out;rw[<-hx] at hx2;have x2:=aAr x;rw[<-hx2] at x2;obtain⟨Z,hZ⟩:∃Z,Z=(~~~ x).toNat:=⟨_,rfl⟩;rw[<-hZ] at x2;have HF:=hid (show((Z:Nat):Int)=((~~~ kQ cc s.data.toList).toNat:Int) by rw[hZ,hx,cS (by rw[HL.out];omega)]);clear hx hx2 hZ;go_wp2_with fail;go_ret;exact⟨fX HF.out,hb2⟩
theorem FA (s:ByteArray) (w:World) (hs:s.size<=140737488355328):
  Calls Tryz.prog 9 #[.string s] w fun e w'=>e=.returned (.int .u32 ((fG s.data.toList).toNat:Int))/\Below w.heap.size w w':=by
 have h0:=aQ4 (0#32) s w hs;have e0:(((0#32:BitVec 32).toNat:Nat):Int)=0:=rfl;have e1:(~~~ kQ (~~~ (0#32)) s.data.toList)=fG s.data.toList:=rfl;rw[e0,e1] at h0;go_enter Tryz.func9,Tryz.ntmps9;go_wp2_with fail;refine h0.mono ?_;rintro e w1 ⟨rfl,hb⟩;go_wp2_with fail;go_ret;exact⟨rfl,hb⟩
abbrev VV:=Value×Value
def prC (l:List VV):List Value:=l.flatMap (fun q=>[q.1,q.2])
def nG (l:List VV):Prop:=∀q∈l,q.1.oneCell'=true/\q.2.oneCell'=true
theorem nG.cells {l:List VV} (h:nG l):∀u∈prC l,u.oneCell'=true:=fun u hu=>by
 obtain⟨q,hq,hu⟩:=List.mem_flatMap.1 hu;rcases kD.1 hu with rfl|hu
 ·exact(h q hq).1
 ·obtain rfl:=List.mem_singleton.1 hu;exact(h q hq).2
theorem nG.app {l m:List VV} (h:nG l) (k:nG m):nG (l++m):=fun q hq=>(cU.1 hq).elim (h q) (k q)
structure El2 (P:gD) (t e bytes:Nat) (z:Value):Prop where
 under:P.underlying t=some (.slice e)
 info:∃i,P.info? e=some i/\i.zero=some z/\i.size=2/\i.bytes=bytes
 cells:z.cells.size=2
 pos:1<=bytes
theorem El2.mk' {P:gD} {t e bytes:Nat} {z:Value} (h:(P.info? e).map (fun i=>(i.zero,i.size,i.bytes))=some (some z,2,bytes)) (hu:P.underlying t=some (.slice e)) (hc:z.cells.size=2) (hb:1<=bytes):El2 P t e bytes z:=by
 obtain⟨i0,hi,hz0,hz1,hz2⟩:=info_parts h;exact⟨hu,⟨i0,hi,hz0,hz1,hz2⟩,hc,hb⟩
def OwP (w:World) (B e:Nat) (v:Value) (l:List VV):Prop:=w.ownsRow B e 2 v l.length (prC l)
theorem OwP.nil (w:World) (B e:Nat):OwP w B e (.slice none 0 0) []:=World.ownsRow_nil _ _ _ _
theorem OwP.alloc {w:World} {B e:Nat} {v:Value} {l:List VV} (h:OwP w B e v l) (o:Obj):OwP (w.alloc o) B e v l:=aBy h o
theorem OwP.below {w w':World} {B C e:Nat} {v:Value} {l:List VV} (h:OwP w B e v l) (hb:Below C w w') (hC:w.heap.size<=C):OwP w' B e v l:=GZ h hb hC
theorem OwP.base {w:World} {B B' e:Nat} {v:Value} {l:List VV} (h:OwP w B e v l) (hb:B'<=B):OwP w B' e v l:=IA h hb
theorem OwP.kept {w w':World} {B e:Nat} {v:Value} {l:List VV} {row:Option Nat} (h:OwP w B e v l) (hg:w.grownBy w' row) (hne:v.ownBlock=none\/v.ownBlock≠row):OwP w' B e v l:=NH h hg hne
theorem OwP.lt {w:World} {B e:Nat} {v:Value} {l:List VV} (h:OwP w B e v l):∀k,v.ownBlock=some k->B<=k/\k<w.heap.size:=aT4 h
def kK (w:World) (v:Value) (l:List VV):Prop:=
 (v=.slice none 0 0/\l=[])\/∃b off cap,v=.slice (some ⟨b,off,none⟩) l.length cap/\l.length<=cap/\cap<=maxLen/\b<w.heap.size/\∀j q,l[j]? =some q->w.cell? ⟨b,off+j*2,none⟩=some q.1/\w.cell? ⟨b,off+j*2+1,none⟩=some q.2
theorem kK.below {w w':World} {v:Value} {l:List VV} (h:kK w v l) (hb:Below w.heap.size w w'):kK w' v l:=by
 rcases h with h|⟨b,off,cap,rfl,h1,h2,hl,hc⟩
 ·exact .inl h
 ·exact .inr ⟨b,off,cap,rfl,h1,h2,dR hl hb.size,fun j q hq=>by rw[hb.cell (p:=⟨b,off+j*2,none⟩) hl,hb.cell (p:=⟨b,off+j*2+1,none⟩) hl];exact hc j q hq⟩
theorem kK.new (w:World) (e:TypeId) (q:VV):kK (w.alloc (.cells #[q.1,q.2] e)) (.slice (some ⟨w.heap.size,0,none⟩) 1 1) [q]:=by
 have h:=Arr.new w e [q.1,q.2];refine .inr ⟨w.heap.size,0,1,rfl,by simp,by simp[maxLen],by simp,fun j p hp=>?_⟩
 cases j with
 |zero=>simp at hp;subst hp;exact⟨h.cell (i:=0) rfl,h.cell (i:=1) rfl⟩
 |succ j=>simp at hp
theorem kK.open {w:World} {v:Value} {l:List VV} (h:kK w v l):∃a cap,v=.slice a l.length cap/\l.length<=cap/\cap<=maxLen/\
  (0<l.length->∃b off,a=some ⟨b,off,none⟩/\b<w.heap.size/\∀j q,l[j]? =some q->w.cell? ⟨b,off+j*2,none⟩=some q.1/\w.cell? ⟨b,off+j*2+1,none⟩=some q.2):=by
 rcases h with⟨rfl,rfl⟩|⟨b,off,cap,rfl,h1,h2,hl,hc⟩
 ·exact⟨none,0,rfl,aA _,by simp[maxLen],fun h=>absurd h (by simp)⟩
 ·exact⟨_,cap,rfl,h1,h2,fun _=>⟨b,off,rfl,hl,hc⟩⟩
section
variable {P:gD} {t e bytes:Nat} {z:Value}
end
theorem qO {w:World} {B B' e e' z z' n n':Nat} {v v':Value} {xs xs':List Value} (h:w.ownsRow B e z v n xs) (h':w.ownsRow B' e' z' v' n' xs') (hne:e≠e'):v.ownBlock=none\/v.ownBlock≠v'.ownBlock:=by
 rcases h.2 with⟨rfl,_⟩|⟨g,cap,cur,rfl,_,hg,_⟩
 ·exact .inl rfl
 ·right
  rcases h'.2 with⟨rfl,_⟩|⟨g',cap',cur',rfl,_,hg',_⟩
  ·intro e;cases e
  ·intro e;have e:some g=some g':=e
   cases e
   rw[hg] at hg'
   injection hg' with hg'
   injection hg' with _ q _
   exact hne q
theorem iL {w:World} {B e z n b:Nat} {v:Value} {xs:List Value} (h:w.ownsRow B e z v n xs) (hb:b<B):v.ownBlock=none\/v.ownBlock≠some b:=by
 rcases hob:v.ownBlock with _|k
 ·exact .inl rfl
 ·have:=(h.lt k hob).1;exact .inr (fun e=>by have:=bW e;omega)
def lvI (t:HT):List Int:=t.leaves.map (fun n:Nat=>((n:Nat):Int))
def TOK (w:World) (B bd:Nat) (l:List VV) (r:bQ):Prop:=
 l.length=r.length/\∀(j:Nat) (q:VV) (p:Int×HT),l[j]? =some q->r[j]? =some p->q.1=.int .i64 p.1/\OwI w B q.2 (lvI p.2)/\(q.2.ownBlock=none\/q.2.ownBlock≠some bd)/\q.2.oneCell'=true
theorem TOK.nil (w:World) (B bd:Nat):TOK w B bd [] []:=⟨rfl,fun j q p h=>by simp at h⟩
theorem TOK.map {w w':World} {B bd bd':Nat} {l:List VV} {r:bQ} (h:TOK w B bd l r) (k:∀(v:Value) (m:List Int),OwI w B v m->(v.ownBlock=none\/v.ownBlock≠some bd)->OwI w' B v m/\(v.ownBlock=none\/v.ownBlock≠some bd')):TOK w' B bd' l r:=
 ⟨h.1,fun j q p hq hp=>by
  obtain⟨h1,h2,h3,h4⟩:=h.2 j q p hq hp;obtain⟨k1,k2⟩:=k _ _ h2 h3;exact⟨h1,k1,k2,h4⟩⟩
theorem TOK.below {w w':World} {B bd:Nat} {l:List VV} {r:bQ} (h:TOK w B bd l r) (hb:Below w.heap.size w w'):TOK w' B bd l r:=h.map (fun _ _ k1 k2=>⟨OwI.below k1 hb (aA _),k2⟩)
theorem TOK.alloc {w:World} {B bd:Nat} {l:List VV} {r:bQ} (h:TOK w B bd l r) (o:Obj):TOK (w.alloc o) B bd l r:=h.map (fun _ _ k1 k2=>⟨OwI.alloc k1 o,k2⟩)
theorem TOK.set {w:World} {B bd:Nat} {l:List VV} {r:bQ} (h:TOK w B bd l r) (i:Nat) (x:Value):TOK (w.setCell ⟨bd,i,none⟩ x) B bd l r:=h.map (fun _ _ k1 k2=>⟨Ow.kept k1 (eM w bd i x) k2,k2⟩)
theorem TOK.snoc {w:World} {B bd:Nat} {l:List VV} {r:bQ} (h:TOK w B bd l r) {q:VV} {p:Int×HT} (h1:q.1=.int .i64 p.1) (h2:OwI w B q.2 (lvI p.2)) (h3:q.2.ownBlock=none\/q.2.ownBlock≠some bd) (h4:q.2.oneCell'=true):TOK w B bd (l++[q]) (r++[p]):=by
 refine⟨by rw[aL,aL,h.1];rfl,fun j q' p' hq hp=>?_⟩
 by_cases hj:j<l.length
 ·rw[gS hj] at hq;rw[gS (by rw[<-h.1];exact hj)] at hp;exact h.2 j q' p' hq hp
 ·have hjl:=(eU.1 hq).1;rw[aL,fK] at hjl;obtain rfl:j=l.length:=by omega
  rw[AQ] at hq;rw[h.1,AQ] at hp;obtain rfl:=bW hq;obtain rfl:=bW hp;exact⟨h1,h2,h3,h4⟩
theorem TOK.one {w:World} {B bd:Nat} {l:List VV} {r:bQ} (h:TOK w B bd l r):nG l:=fun q hq=>by
 obtain⟨j,hj⟩:=List.mem_iff_getElem?.1 hq;have hjl:=(eU.1 hj).1;obtain⟨h1,_,_,h4⟩:=h.2 j q _ hj (aN (by rw[<-h.1];exact hjl));exact⟨by rw[h1];rfl,h4⟩
theorem TOK.app {W w4:World} {B B' bd bd':Nat} {v3:Value} {l l':List VV} {r:bQ} (h:TOK W B bd l r) (hP:OwP W B' 999983 v3 l') (hg:W.grownBy w4 v3.ownBlock) (hb:bd'=bd\/W.heap.size<=bd'):TOK w4 B bd' l r:=
 h.map (fun v m k1 k2=>⟨Ow.kept k1 hg (qO k1 hP (by decide)),by
  rcases hb with rfl|hb
  ·exact k2
  ·rcases hob:v.ownBlock with _|k
   ·exact .inl rfl
   ·have:=(Ow.lt k1 k hob).2;exact .inr (fun e=>by have:=bW e;omega)⟩)
def LOK (w:World) (xs:List Value) (gs:List (List Int)):Prop:=xs.length=gs.length/\∀(j:Nat) (x:Value) (g:List Int),xs[j]? =some x->gs[j]? =some g->RdI w x g
theorem LOK.nil (w:World):LOK w [] []:=⟨rfl,fun j x g h=>by simp at h⟩
theorem LOK.below {w w':World} {xs:List Value} {gs:List (List Int)} (h:LOK w xs gs) (hb:Below w.heap.size w w'):LOK w' xs gs:=⟨h.1,fun j x g hx hg=>(h.2 j x g hx hg).below hb⟩
theorem LOK.snoc {w:World} {xs:List Value} {gs:List (List Int)} (h:LOK w xs gs) {x:Value} {g:List Int} (hx:RdI w x g):LOK w (xs++[x]) (gs++[g]):=by
 refine⟨by rw[aL,aL,h.1];rfl,fun j x' g' h1 h2=>?_⟩
 by_cases hj:j<xs.length
 ·rw[gS hj] at h1;rw[gS (by rw[<-h.1];exact hj)] at h2;exact h.2 j x' g' h1 h2
 ·have hjl:=(eU.1 h1).1;rw[aL,fK] at hjl;obtain rfl:j=xs.length:=by omega
  rw[AQ] at h1;rw[h.1,AQ] at h2;obtain rfl:=bW h1;obtain rfl:=bW h2;exact hx
def RdL (w:World) (v:Value) (gs:List (List Int)):Prop:=∃xs,Rd w v gs.length xs/\LOK w xs gs
theorem RdL.below {w w':World} {v:Value} {gs:List (List Int)} (h:RdL w v gs) (hb:Below w.heap.size w w'):RdL w' v gs:=by
 obtain⟨xs,h1,h2⟩:=h;exact⟨xs,h1.below hb,h2.below hb⟩
theorem RdL.open {w:World} {v:Value} {gs:List (List Int)} (h:RdL w v gs):∃a cap,v=.slice a gs.length cap/\gs.length<=cap/\cap<=maxLen/\
  (0<gs.length->∃b off,a=some ⟨b,off,none⟩/\b<w.heap.size/\∀(j:Nat) (g:List Int),gs[j]? =some g->∃x,w.cell? ⟨b,off+j,none⟩=some x/\RdI w x g):=by
 obtain⟨xs,⟨a,cap,rfl,h1,h2,h3⟩,h4,h5⟩:=h;refine⟨a,cap,rfl,h1,h2,fun hl=>?_⟩;rcases h3 with rfl|⟨b,off,rfl,hlt,hc⟩
 ·simp only[cX] at h4;omega
 ·refine⟨b,off,rfl,hlt,fun j g hg=>?_⟩;have hj:=(eU.1 hg).1;have hx:xs[j]? =some xs[j]:=aN (by omega);refine⟨xs[j],?_,h5 j _ g hx hg⟩;rw[hc j (by omega),List.getD_eq_getElem?_getD,hx];rfl
theorem wK:ElT Tryz.prog 118 68 24 (.slice none 0 0):=ElT.mk' (by kernel_rfl) Tryz.underlying118 rfl (by decide)
theorem Ow.rdL {w:World} {B:Nat} {v:Value} {xs:List Value} {gs:List (List Int)} (h:Ow w B 68 v xs) (hl:LOK w xs gs):RdL w v gs:=⟨xs,by rw[<-hl.1];exact h.rd,hl⟩
theorem Ow.openN {w:World} {B e:Nat} {v:Value} {xs:List Value} (h:Ow w B e v xs) (h0:0<xs.length):∃b off c,v=.slice (some ⟨b,off,none⟩) xs.length c:=by
 rcases h.2 with⟨rfl,e⟩|⟨g,cap,cur,rfl,_⟩
 ·omega
 ·exact⟨g,0,cap,rfl⟩
end
end Go.Proofs.YtjkjeamepgjicaaGreatDoor
