/-
  Texts put together (part 9): the walks and the plain laws on which the statement stands.
-/
import Derived.Sort.OwnSortedInts
import Derived.Deep.AppendLies
import Derived.Test.YtmcogmmncfihhaaGreatDoorZ8
set_option maxRecDepth 100000
set_option maxHeartbeats 12800000
set_option linter.unusedVariables false
set_option linter.unusedSimpArgs false
open Bool renaming noConfusion->tQ
open Classical renaming byContradiction->aCc
open Go.Addr renaming add->iN
open Go.ByteArray renaming toList_eq->aZc
open Go.Calls renaming quiet_of->OB
open Go.Op renaming bytesLess->oL
open Go.Oper renaming wp->lX
open Go.Region renaming wanted->nR
open Go.RowKit.Below renaming refl->aB
open Go.Value renaming int->bO
open Go.Value.slice renaming injEq->aCd
open Go.World renaming block_lt_of_cell?->iO
open Int renaming toNat_natCast->eG
open List renaming append_assoc->cF,append_nil->eE,drop_eq_getElem_cons->oH,drop_of_length_le->qY,eq_nil_of_length_eq_zero->vK,ext_getElem?->jA,getD->fF,getElem?_drop->gR,getElem?_eq_getElem->aN,getElem?_eq_none->dL,getElem?_eq_some_iff->eU,getElem?_map->dY,getElem?_take_of_lt->mB,length_append->aL,length_cons->cR,length_drop->cI,length_map->bJ,length_nil->cX,length_replicate->vO,length_singleton->fK,length_take->aX,mem_cons->kD,mem_map->dU,mem_of_getElem?->cH,mem_of_mem_drop->xU,mem_of_mem_take->nO,mem_range->jF,pairwise_append->aCg,pairwise_iff_getElem->xO,range->dG,replicate->bB,take_append_drop->jE
open List.Pairwise renaming imp_of_mem->aB5
open Nat renaming add_assoc->dZ,add_mod_right->aCi,add_mul_mod_self_left->aTo,add_zero->pH,eq_zero_or_pos->fJ,le_refl->aA,le_trans->aW,lt_of_lt_of_le->dR,lt_or_ge->bT,mod_add_div->NU,mod_add_mod->AO,mod_eq_of_lt->kU,mod_lt->jQ,mul_one->sE,zero_add->iZ,zero_le->aU
open UInt8 renaming lt_iff_toNat_lt->NZ,toNat_inj->qV
namespace Go.Proofs.YtmcogmmncfihhaaGreatDoor
section
open Go.RowKit
theorem aK6:∀(r:List Int) (k:Nat) (l:List Int),(∀x∈r,x=0)->cZ k (r++l)=cZ (k+r.length) l:=by
 intro r
 induction r with
 |nil=>intro k l _;rfl
 |cons x r ih=>
  intro k l h;rw[List.cons_append,cZ,if_pos (h x (by simp)),ih (k+1) l (fun y hy=>h y (by simp[hy])),cR]
  congr 1;omega
theorem WO {l:List Int} (h0:∀x∈l,0<=x):(eY 0 l=l.length->cZ 0 l=dig (eY 0 l))/\(∀x,l[eY 0 l]? =some x->cZ 0 l=dig (eY 0 l)++[x+1]++cZ 0 (l.drop (eY 0 l+1))):=by
 have hz:∀x∈l.take (eY 0 l),x=0:=fun x hx=>by
  have:=yM 0 l x hx;have:=h0 x (nO hx);omega
 have e:=aK6 (l.take (eY 0 l)) 0 (l.drop (eY 0 l)) hz;rw[jE,aX,Nat.min_eq_left (vX 0 l),iZ] at e;refine⟨fun hl=>?_,fun x hx=>?_⟩
 ·rw[e,qY (by omega)];rfl
 ·obtain⟨hl,hx'⟩:=eU.1 hx;have:=vY 0 l hx;rw[e,oH hl,hx',cZ,if_neg (by omega)];simp
theorem WS (l:List Int):dA l=bB (num (l.take (eY 1 l))) 0++dA (l.drop (eY 1 l)):=by
 have hr:=IR (l.take (eY 1 l)) 0 1 (l.drop (eY 1 l)) (fun x hx=>by have:=yM 1 l x hx;omega);rw[jE] at hr;have e0:dA l=zx 0 1 l:=rfl;rw[e0,hr];rcases bT (eY 1 l) l.length with h|h
 ·have hx:=aN h;have:=vY 1 l hx;rw[oH h];have e1:dA (l[eY 1 l]::l.drop (eY 1 l+1))=(l[eY 1 l]-1)::dA (l.drop (eY 1 l+1)):=by rw[dA,CB (by omega)];simp
  rw[e1,CB (by omega)];simp
 ·rw[qY h,IS];simp[dA,IS]
theorem WT {x:Int} {l:List Int} (h:1<x):dA (x::l)=(x-1)::dA l:=by
 rw[dA,CB (by omega)];simp
def oX (m:List Int) (most:Int):List Int:=if((dA m).length:Int)<=most then dA m else[]
def nZ (m:List Int) (most:Int):Int:=if((dA m).length:Int)<=most then 0 else 4
theorem rW {m:List Int} {most:Int} (h:¬((dA m).length:Int)<=most):oX m most=[]/\nZ m most=4:=by
 unfold oX nZ;rw[if_neg h,if_neg h];exact⟨rfl,rfl⟩
theorem wO {m:List Int} {most:Int} (h:((dA m).length:Int)<=most):oX m most=dA m/\nZ m most=0:=by
 unfold oX nZ;rw[if_pos h,if_pos h];exact⟨rfl,rfl⟩
theorem WU {w:World} {b off cap:Nat} {l:List Int} (hb:b<w.heap.size) (hc:∀j x,l[j]? =some x->w.cell? ⟨b,off+j,none⟩=some (.int .i64 x)) (i n:Nat) (hi:i+n<=l.length) (hcap:l.length<=cap) (hm:cap<=maxLen):
  RdI w (.slice (some ⟨b,off+i,none⟩) n (cap-i)) ((l.drop i).take n):=by
 have hl:((l.drop i).take n).length=n:=by rw[aX,cI];omega
 refine⟨some ⟨b,off+i,none⟩,cap-i,by rw[hl],by rw[hl];omega,by omega,.inr ⟨b,off+i,rfl,hb,fun j hj=>?_⟩⟩;rw[bJ,hl] at hj;have hx:l[i+j]? =some (l[i+j]'(by omega)):=aN _;rw[dZ,hc _ _ hx];have h2:((l.drop i).take n)[j]? =some (l[i+j]'(by omega)):=by rw[mB hj,gR,hx]
 rw[fF,dY,h2];rfl
theorem aLn (w:World) (n:Nat):pQ (w.alloc (.cells (fB (.int .i64 0) n) 3)) (.slice (some ⟨w.heap.size,0,none⟩) n n) (bB n 0):=by
 refine .inr ⟨w.heap.size,0,n,by rw[vO],by simp,fun j x hx=>?_⟩;obtain⟨hj,hx'⟩:=eU.1 hx;rw[vO] at hj;rw[List.getElem_replicate] at hx';subst hx';rw[iZ];exact(Arr.made w 3 (.int .i64 0) n).cell (by simp[hj])
theorem aLo {l:List Int} (h0:∀x∈l,0<=x):∀x∈l.take (eY 1 l),x=0\/x=1:=fun x hx=>by
 have h1:=yM 1 l x hx;have h2:=h0 x (nO hx);omega
theorem aLp (v:Value) (m:List Int) (most:Int) (w:World) (hr:RdI w v m) (hlen:m.length<=1000000) (hv:∀x∈m,0<=x/\x<=1000000) (hm1: -9223372036854775808<=most) (hm2:most<=1000000) (hne:0<m.length):
  Calls Tryz.prog 151 #[v,.int .i64 most] w fun e w'=>∃v',e=.returned (.tuple #[v',.int .i64 (nZ m most)])/\OwI w' w.heap.size v' (oX m most)/\Below w.heap.size w w':=by
 have hb:Calls Tryz.prog 163 #[v] w fun e w'=>e=.returned (.bool false)/\w'=w:=(JI v m w hr).mono fun e w' ⟨h1,h2⟩=>by
  rw[oN (fun x hx=>decide_eq_false (by have:=hv x hx;omega))] at h1;exact⟨h1,h2⟩
 have HB:=hid hb;obtain⟨a,ca,rfl,hca,hma,hA⟩:=hr.open;obtain⟨b0,o0,rfl,hb0,hc0⟩:=hA hne;have HV:=hid hv;have HA:=hid hc0;have HM0:=hid hma;unfold maxLen at hma;obtain⟨M,hM1,hM2,hM3,hM4,hM5⟩:∃M:Nat,(if most<0 then 0 else most)=(M:Int)/\max most 0=(M:Int)/\M<=1000000/\most<=(M:Int)/\(if 0<most then most else 0)=(M:Int):=⟨most.toNat,by split<;>omega,by omega,by omega,by omega,by split<;>omega⟩;clear hr hA hv hc0 hb;go_enter Tryz.func151,Tryz.ntmps151;go_wp2_with fail;refine HB.out.mono ?_;rintro e w1 ⟨rfl,rfl⟩;clear HB;go_wp2_with fail
 go_loopg [0,8,9,10] m.length (fun gh s0 _s8 _s9 _s10 wq=>∃(rest pre:List Int) (off cap:Nat),s0=.slice (some ⟨b0,off,none⟩) rest.length cap/\rest.length<=cap/\cap<=maxLen/\rest.length<=m.length/\gh=rest.length/\qK wq w1.heap.size pre/\Hid (pre++dA rest=dA m)/\pre.length<=1000001/\
  Below w1.heap.size w1 wq/\Hid (∀j x,rest[j]? =some x->w1.cell? ⟨b0,off+j,none⟩=some (.int .i64 x))/\Hid (∀x∈rest,0<=x/\x<=1000000))
 case atStart=>exact⟨m,[],o0,ca,rfl,hca,HM0.out,aA _,rfl,⟨.slice none 0 0,Arr.new w1 _ _,OwI.nil _ _⟩,hid rfl,by simp,(aB _ _).alloc (aA _) _,HA,HV⟩
 case round=>
 obtain⟨rest,pre,off,cap,rfl,hkc,hcm,hrm,hg,hlay,HP,hpl,hbel,HCL,HR⟩:=hrel;have HG:=hid hg;clear hg
 by_cases hrl:0<rest.length
 ·have hrd:RdI wr (.slice (some ⟨b0,off,none⟩) rest.length cap) rest:=
   ⟨_,_,rfl,hkc,hcm,.inr ⟨b0,off,rfl,dR hb0 hbel.size,fun j hj=>by
    rw[bJ] at hj;rw[hbel.cell (p:=⟨b0,off+j,none⟩) hb0,HCL.out j _ (aN hj)];simp[fF,hj]⟩⟩
  have HRD:=hid hrd;have HCM:=hid hcm;have hle:=vX 1 rest;obtain⟨k,hk⟩:∃k,k=eY 1 rest:=⟨_,rfl⟩;have hzl:=WS rest;have hbits:=aLo (l:=rest) (fun x hx=>(HR.out x hx).1);rw[<-hk] at hle hzl hbits;have HK:=hid hk;obtain⟨N,hN⟩:∃N,N=num (rest.take k):=⟨_,rfl⟩;rw[<-hN] at hzl;have HN:=hid hN;have HZ:=hid hzl;have HBT:=hid hbits;unfold maxLen at hcm;have hlz:=hid (show(dA m).length=pre.length+N+(dA (rest.drop k)).length by
   rw[<-HP.out,aL,HZ.out,aL,vO];omega)
  clear hrd hk hzl hbits hN;go_wp2_with fail;refine(RF _ rest 1 _ HRD.out).mono ?_;rintro e w2 ⟨rfl,h2⟩;rw[<-HK.out];have hlay2:=hlay.below h2;have hB2:=bV hbel h2;have HSUB:=hid (show RdI w2 (.slice (some ⟨b0,off,none⟩) k cap) (rest.take k) by
   have:=WU (w:=w2) (b:=b0) (off:=off) (cap:=cap) (dR hb0 hB2.size) (fun j x hx=>by rw[hB2.cell (p:=⟨b0,off+j,none⟩) hb0];exact HCL.out j x hx) 0 k (by omega) hkc HCM.out
   simpa using this)
  clear hlay hbel HRD h2;go_wp2_with fail;refine(aLl _ (rest.take k) _ HSUB.out (by rw[aX];omega) HBT.out).mono ?_;rintro e w3 ⟨rfl,h3⟩;have hlay3:=hlay2.below h3;have hB3:=bV hB2 h3;clear hlay2 hB2 h3;obtain⟨lv,harr,hown⟩:=hlay3;obtain⟨la,lc,rfl,hlc,hlm,_⟩:=hown.rd.open;have c1:=harr.cell (i:=0) rfl;have hlay3:qK w3 w1.heap.size pre:=⟨_,harr,hown⟩;unfold maxLen at hlm
  by_cases hbig:N<=1099511627776
  ·have nv:nL (rest.take k)=(N:Int):=by unfold nL;rw[<-HN.out,if_pos hbig]
   have ne:lA (rest.take k)=0:=by unfold lA;rw[<-HN.out,if_pos hbig]
   rw[nv,ne];clear nv ne
   by_cases hlong:(M:Int)-(pre.length:Int)<(N:Int)
   ·have t6:decide ((M:Int)-(pre.length:Int)<(N:Int))=true:=decide_eq_true hlong;go_wp2_with fail
    go_ret2
    have e1:¬((dA m).length:Int)<=most:=by have:=hlz.out;omega
    obtain⟨d1,d2⟩:=rW e1;rw[d1,d2];exact⟨_,rfl,OwI.nil _ _,hB3⟩
   ·have t6:decide ((M:Int)-(pre.length:Int)<(N:Int))=false:=decide_eq_false hlong;go_wp2_with (at_make;refine mkA gL rfl _ _ rfl N rfl rfl ?_ ?_;omega);refine(CP w1.heap.size _ pre (bB N 0) _ (hlay3.below ((aB _ _).alloc (aA _) _)) (aLn _ _) (by rw[vO];omega)).mono ?_;rintro e w4 ⟨rfl,hlay4,h4⟩;have hB4:=(bD hB3 _).trans h4;have hl4:(pre++bB N (0:Int)).length=pre.length+N:=by simp
    have HL4:=hid hl4;clear hlay3 harr hown c1 h4 hB3 hl4 t6
    by_cases hend:k=rest.length
    ·have hnew:=hid (show(pre++bB N 0)++dA []=dA m by
      have:=HZ.out;rw[qY (by omega)] at this;rw[cF,<-this];exact HP.out)
     have d1:decide (0<rest.length-k)=false:=decide_eq_false (by omega);have e0:rest.length-k=0:=by omega
     by_cases hcn:cap=k
     all_goals
      go_wp2_with fail;have hg:=HG.out
      go_roundg 0
      case measure=>omega
      case rel=>exact⟨[],_,_,_,rfl,aU _,by unfold maxLen;omega,aU _,rfl,hlay4,hnew,by rw[HL4.out];omega,hB4,hid (fun j x hx=>by simp at hx),hid (fun x hx=>by simp at hx)⟩
    ·have hml:k<rest.length:=by omega
     obtain⟨x,hx⟩:=dH hml;have hxb:=HR.out x (cH hx);have hx1:1<x:=vY 1 rest (by rw[<-HK.out];exact hx);have c1:w4.cell? ⟨b0,off+k,none⟩=some (.int .i64 x):=by
      rw[hB4.cell (p:=⟨b0,off+k,none⟩) hb0];exact HCL.out k x hx
     have hnew:=hid (show((pre++bB N 0)++[x-1])++dA (rest.drop (k+1))=dA m by
      have:=HZ.out;rw[oH hml,(eU.1 hx).2,WT hx1] at this;rw[cF,cF,List.singleton_append,<-this];exact HP.out)
     have d1:decide (0<rest.length-k)=true:=decide_eq_true (by omega);have d2:0<rest.length-k:=by omega
     have hcn:¬cap=k:=by omega
     have hl:=hid (show rest.length-k-1=(rest.drop (k+1)).length by rw[cI];omega);have hR':Hid (∀x∈rest.drop (k+1),0<=x/\x<=1000000):=hid (fun y hy=>HR.out y (xU hy));have HE:=hid hend;clear hx hend
     by_cases hc1:cap-k=1
     all_goals
      go_wp2_with fail;refine(CP w1.heap.size _ (pre++bB N 0) [x-1] _ (hlay4.below ((aB _ _).alloc (aA _) _)) (RG _ _ _) (by rw[HL4.out,fK];omega)).mono ?_;rintro e w5 ⟨rfl,hlay5,h5⟩;have hB5:=(bD hB4 _).trans h5;go_wp2_with fail;rw[hl.out];have hg:=HG.out
      go_roundg (rest.drop (k+1)).length
      case measure=>rw[cI];omega
     ·refine⟨rest.drop (k+1),_,off+k,0,rfl,by rw[cI];omega,by simp[maxLen],by rw[cI];omega,rfl,hlay5,hnew,by rw[aL,HL4.out,fK];omega,hB5,hid (fun j y hy=>?_),hR'⟩;rw[qY (by omega)] at hy;simp at hy
     ·refine⟨rest.drop (k+1),_,off+k+1,cap-k-1,rfl,by rw[cI];omega,by unfold maxLen;omega,by rw[cI];omega,rfl,hlay5,hnew,by rw[aL,HL4.out,fK];omega,hB5,hid (fun j y hy=>?_),hR'⟩;have:=RdI.dropS HCL.out (k+1) j y hy;rw[dZ off k 1];exact this
  ·have ne:lA (rest.take k)=4:=by unfold lA;rw[<-HN.out,if_neg hbig]
   rw[ne];clear ne;go_wp2_with fail
   go_ret2
   have e1:¬((dA m).length:Int)<=most:=by have:=hlz.out;omega
   obtain⟨d1,d2⟩:=rW e1;rw[d1,d2];exact⟨_,rfl,OwI.nil _ _,hB3⟩
 ·have hre:rest=[]:=vK (by omega);subst hre;obtain⟨lv,harr,hown⟩:=hlay;obtain⟨la,lc,rfl,hlc,hlm,_⟩:=hown.rd.open;have c1:=harr.cell (i:=0) rfl;unfold maxLen at hlm;have hie:=hid (show pre=dA m by have:=HP.out;rw[show dA []=[] from rfl,eE] at this;exact this)
  by_cases hlong:most<(pre.length:Int)
  ·have t6:decide (most<(pre.length:Int))=true:=decide_eq_true hlong;go_wp2_with fail
   go_ret2
   have e1:¬((dA m).length:Int)<=most:=by rw[<-hie.out];omega
   obtain⟨d1,d2⟩:=rW e1;rw[d1,d2];exact⟨_,rfl,OwI.nil _ _,hbel⟩
  ·have t6:decide (most<(pre.length:Int))=false:=decide_eq_false hlong;go_wp2_with fail
   go_ret2
   have e1:((dA m).length:Int)<=most:=by rw[<-hie.out];omega
   obtain⟨d1,d2⟩:=wO e1;rw[d1,d2,<-hie.out];exact⟨_,rfl,Ow.base hown (Nat.le_succ _),hbel⟩
def gI (n:Nat) (o:Nat->Int):List Int:=(dG n).map o
theorem mL (n:Nat) (o:Nat->Int):(gI n o).length=n:=by simp[gI]
theorem wC (n:Nat) (o:Nat->Int) (k:Nat) (h:k<n):(gI n o)[k]? =some (o k):=by simp[gI,h]
theorem RO (l:List Int):gI l.length (fun k=>l.getD k 0)=l:=by
 apply jA;intro k
 by_cases h:k<l.length
 ·rw[wC _ _ _ h];simp[fF,aN h]
 ·rw[dL (by rw[mL];omega),dL (by omega)]
theorem Dat.other {w:World} {g cap n:Nat} {f:Nat->Int} (h:Dat w g cap n f) (p:Addr) (hp:p.block≠g) (v:Value):Dat (w.setCell p v) g cap n f:=by
 obtain⟨cur,h,hr⟩:=h;exact⟨cur,by rw[Below.heap_setCell w p v g (fun e=>hp e.symm)];exact h,hr⟩
def bX (s:ByteArray) (i:Nat):Nat:=(s.data.toList.getD (i%s.size) 0).toNat
theorem sX (s:ByteArray):Cyc (bX s) s.size:=fun i=>by unfold bX;rw[aCi]
def rot (s:ByteArray) (k:Nat):List UInt8:=s.data.toList.drop k++s.data.toList.take k
theorem yO (s:ByteArray) (k:Nat) (h:k<=s.size):(rot s k).length=s.size:=by
 simp[rot];omega
theorem JQ (s:ByteArray) (k i:Nat) (hk:k<s.size) (hi:i<s.size):(rot s k)[i]? =some (s.data.toList.getD ((k+i)%s.size) 0):=by
 have hl:s.data.toList.length=s.size:=by simp
 unfold rot;rcases bT i (s.size-k) with h|h
 ·rw[List.getElem?_append_left (by rw[cI];omega),gR,kU (by omega),fF,aN (by omega)];rfl
 ·rw[List.getElem?_append_right (by rw[cI];omega),cI,mB (by omega),hl];have e:(k+i)%s.size=i-(s.size-k):=by
   rw[Nat.mod_eq_sub_mod (by omega),kU (by omega)];omega
  rw[e,fF,aN (by omega)];rfl
theorem JR (s:ByteArray) (k:Nat):s.extract k s.size++s.extract 0 k=mkS (rot s k):=by
 rw[nT,nT,pM];unfold rot;rw[List.drop_zero,Nat.sub_zero,List.take_of_length_le (by simp)]
theorem aG6 (s:ByteArray) (k:Nat) (w:World) (hn:s.size<=1000000) (hk:k<=s.size):
  Calls Tryz.prog 83 #[.string s,.int .i64 (k:Int)] w fun e w'=>e=.returned (.string (mkS (rot s k)))/\Below w.heap.size w w':=by
 have e:=JR s k;have HE:=hid e;clear e;go_enter Tryz.func83,Tryz.ntmps83;go_wp2
 go_quiet (fail)
 go_wp2;go_ret;exact⟨tY HE.out,iI (aB _ _) _⟩
def dM (s:ByteArray) (o:Nat->Int) (k:Nat):List UInt8:=(dG k).map (fun i=>s.data.toList.getD (((o i).toNat+(s.size-1))%s.size) 0)
theorem sY (s:ByteArray) (o:Nat->Int) (k:Nat):(dM s o k).length=k:=by simp[dM]
theorem JS (s:ByteArray) (o:Nat->Int) (k:Nat):dM s o (k+1)=dM s o k++[s.data.toList.getD (((o k).toNat+(s.size-1))%s.size) 0]:=by simp[dM,List.range_succ]
def fD (o:Nat->Int):Nat->Nat
 |0=>0
 |k+1=>if o k=0 then k else fD o k
theorem RQ (o:Nat->Int):∀k,fD o k<=k:=by
 intro k
 induction k with
 |zero=>exact aA _
 |succ k ih=>
   unfold fD;by_cases h:o k=0
   ·rw[if_pos h];omega
   ·rw[if_neg h];omega
end
section
theorem aLq {n x:Nat} (hn:0<n):(x+(n-1))%n<n:=jQ _ hn
theorem aLr {n x y:Nat} (hx:x<n) (hy:y<n) (h:(x+(n-1))%n=(y+(n-1))%n):x=y:=by
 have e:∀z,z<n->(z+(n-1))%n=if z=0 then n-1 else z-1:=by
  intro z hz
  by_cases h0:z=0
  ·rw[if_pos h0,h0,iZ];exact kU (by omega)
  ·rw[if_neg h0,show z+(n-1)=(z-1)+n by omega,aCi];exact kU (by omega)
 rw[e x hx,e y hy] at h;split at h<;>split at h<;>omega
theorem aLs {n y:Nat} (hy:y<n):((y+1)%n+(n-1))%n=y:=by
 rw[AO,show y+1+(n-1)=y+n by omega,aCi];exact kU hy
theorem aLt {c:Nat->Nat} {n m:Nat} {o:Nat->Int} (h:Ord c n m o):((dG n).map (fun i=>((o i).toNat+(n-1))%n)).Perm (dG n):=by
 rw[List.perm_ext_iff_of_nodup ?_ List.nodup_range]
 ·intro y;rw[dU,jF];constructor
  ·rintro⟨i,hi,rfl⟩;exact aLq (by have:=jF.1 hi;omega)
  ·intro hy;obtain⟨k,hk,e⟩:=h.onto (y:=(y+1)%n) (jQ _ (by omega));exact⟨k,jF.2 hk,by rw[e,eG];exact aLs hy⟩
 ·unfold List.Nodup;rw[List.pairwise_map];refine aB5 ?_ List.pairwise_lt_range;intro a b ha hb hab e;have ha':=jF.1 ha;have hb':=jF.1 hb;have ra:=h.rng a ha';have rb:=h.rng b hb';have:=aLr (by omega) (by omega) e;exact h.ne ha' hb' (by omega) (by omega)
theorem aLu (l:List UInt8):(dG l.length).map (fun i=>l.getD i 0)=l:=by
 apply jA;intro i
 by_cases h:i<l.length
 ·simp[h]
 ·rw[dL (by simp;omega),dL (by omega)]
theorem LN (s:ByteArray) {c:Nat->Nat} {m:Nat} {o:Nat->Int} (h:Ord c s.size m o):(dM s o s.size).Perm s.data.toList:=by
 have h1:=(aLt h).map (fun i=>s.data.toList.getD i 0);rw[List.map_map] at h1;have h2:=aLu s.data.toList;rw[show s.data.toList.length=s.size by simp] at h2;rw[h2] at h1;exact h1
theorem aLv (o:Nat->Int):∀k,(∃j,j<k/\o j=0)->fD o k<k/\o (fD o k)=0:=by
 intro k
 induction k with
 |zero=>rintro⟨j,hj,_⟩;omega
 |succ k ih=>
  rintro⟨j,hj,e⟩;unfold fD
  by_cases h:o k=0
  ·rw[if_pos h];exact⟨by omega,h⟩
  ·rw[if_neg h];have hjk:j<k:=by
    rcases bT j k with q|q
    ·exact q
    ·have:j=k:=by omega
     subst this;exact absurd e h
   have:=ih ⟨j,hjk,e⟩;exact⟨by omega,this.2⟩
theorem aLw {c:Nat->Nat} {n m:Nat} {o:Nat->Int} (h:Ord c n m o) (hn:0<n):fD o n<n/\o (fD o n)=0:=
 aLv o n (by obtain⟨k,hk,e⟩:=h.onto (y:=0) hn;exact⟨k,hk,by simpa using e⟩)
end
section
open Go.RowKit
theorem aL1 {l:List Int} (h0:∀x∈l,0<=x):cZ 0 l=dig (eY 0 l)++cZ 0 (l.drop (eY 0 l)):=by
 obtain⟨h1,h2⟩:=WO h0;rcases bT (eY 0 l) l.length with h|h
 ·have hx:=aN h;rw[h2 _ hx,oH h,cZ,if_neg (by have:=vY 0 l hx;omega),qF];simp
 ·have:=vX 0 l;rw[h1 (by omega),qY h];simp[cZ,qF]
theorem aL2 (v:Value) (l:List Int) (w:World) (hr:RdI w v l) (hne:0<l.length) (hlen:l.length<=100000) (hv:∀x∈l,0<=x/\x<=1000000):
  Calls Tryz.prog 70 #[v] w fun e w'=>∃v',e=.returned (.tuple #[v',.int .i64 0])/\OwI w' w.heap.size v' (cZ 0 l)/\Below w.heap.size w w':=by
 have HB:=hid (RJ v l w hr (fun x hx=>(hv x hx).1));obtain⟨a,ca,rfl,hca,hma,hA⟩:=hr.open;obtain⟨b0,o0,rfl,hb0,hc0⟩:=hA hne;unfold maxLen at hma;have HV:=hid hv;have HA:=hid hc0;clear hr hA hv hc0;go_enter Tryz.func70,Tryz.ntmps70;go_wp2_with fail;refine HB.out.mono ?_;rintro e w1 ⟨rfl,rfl⟩;clear HB;go_wp2_with fail
 go_loopg [4] l.length (fun gh s4 wr=>∃k:Nat,k<=l.length/\gh=l.length-k/\s4=.int .i64 k/\w1=wr)
 case atStart=>exact⟨0,aU _,rfl,rfl,rfl⟩
 case round=>
 obtain⟨k,hk,hg,rfl,rfl⟩:=hrel;have HG:=hid hg;clear hg
 by_cases hlt:k<l.length
 ·obtain⟨x,hx⟩:=dH hlt;have c1:=HA.out k x hx;have hxb:=HV.out x (cH hx);have t1:decide (1099511627776<x)=false:=decide_eq_false (by omega);clear hx;go_wp2_with fail;have hg:=HG.out
  go_roundg (l.length-(k+1))
  case measure=>omega
  case rel=>exact⟨k+1,by omega,rfl,by go_num,rfl⟩
 ·clear HG;go_wp2_with fail
  go_loopg [5,6,7] l.length (fun gh s5 s6 _s7 wq=>∃(i:Nat) (pre:List Int),i<=l.length/\gh=l.length-i/\s6=.int .i64 i/\OwI wq w1.heap.size s5 pre/\Hid (pre++cZ 0 (l.drop i)=cZ 0 l)/\pre.length<=i/\Below w1.heap.size w1 wq)
  case atStart=>exact⟨0,[],aU _,rfl,rfl,OwI.nil _ _,hid rfl,aU _,aB _ _⟩
  case round=>
  obtain⟨i,pre,hi,hg,rfl,hown,HP,hpl,hbel⟩:=hrel;have HG:=hid hg;clear hg
  by_cases hil:i<l.length
  ·obtain⟨m,hm⟩:∃m,m=eY 0 (l.drop i):=⟨_,rfl⟩;have hml:m<=l.length-i:=by rw[hm];have:=vX 0 (l.drop i);rwa[cI] at this
   have hz:=hid (show ∀j,j<m->∀x,l[i+j]? =some x->x=0 from fun j hj x hx=>by
    have hx':(l.drop i)[j]? =some x:=by rw[gR];exact hx
    have h1:=yM 0 (l.drop i) x (by rw[<-hm];exact cH (i:=j) (by rw[mB hj];exact hx'));have h2:=(HV.out x (cH hx)).1;omega)
   have hnz:=hid (show ∀x,l[i+m]? =some x->0<x from fun x hx=>vY 0 (l.drop i) (by rw[<-hm,gR];exact hx));have hzl:=hid (show cZ 0 (l.drop i)=dig m++cZ 0 (l.drop (i+m)) by rw[aL1 (fun x hx=>(HV.out x (xU hx)).1),<-hm,List.drop_drop]);have hdl:=(CA m).1;clear hm;obtain⟨wo,rfl⟩:∃wo:World,wo=wr:=⟨_,rfl⟩;have hcel:=hid (show ∀j x,l[j]? =some x->wo.cell? ⟨b0,o0+j,none⟩=some (.int .i64 x) from fun j x hx=>by rw[hbel.cell (p:=⟨b0,o0+j,none⟩) hb0];exact HA.out j x hx);go_wp2_with fail
   go_loopg [7] m (fun gh s7 wq=>∃n:Nat,n<=m/\gh=m-n/\s7=.int .i64 n/\wo=wq)
   case atStart=>exact⟨0,aU _,rfl,rfl,rfl⟩
   case round=>
   obtain⟨n,hn,hg,rfl,rfl⟩:=hrel;have HG2:=hid hg;clear hg
   by_cases hnm:n<m
   ·obtain⟨x,hx⟩:=dH (l:=l) (k:=i+n) (by omega);have c1:=hcel.out (i+n) x hx;have hx0:=hz.out n hnm x hx;have t1:(x==0)=true:=by rw[beq_iff_eq];exact hx0
    have t2:decide (i+n<l.length)=true:=decide_eq_true (by omega);clear hx hx0;go_wp2_with fail;have hg:=HG2.out
    go_roundg (m-(n+1))
    case measure=>omega
    case rel=>exact⟨n+1,by omega,rfl,by go_num,rfl⟩
   ·obtain rfl:m=n:=by omega
    clear hn hnm HG2;have hbs:=hbel.size;have hend:(i+m=l.length/\0<m)\/(i+m<l.length/\m=0)\/(i+m<l.length/\0<m):=by omega
    rcases hend with⟨h1,h2⟩|⟨h1,h2⟩|⟨h1,h2⟩
    ·have t2:decide (i+m<l.length)=false:=decide_eq_false (by omega);have t3:((m:Int)==0)=false:=by rw[beq_eq_false_iff_ne];omega
     have t4:l.length<=i+m:=by omega
     have H1:=hid h1;clear h1;go_wp2_with fail;refine(JJ m _ (by omega)).mono ?_;rintro e w2 ⟨dv,rfl,hdo,h2'⟩;have hsrc:=hdo.src;have hs2:=h2'.size;have hown2:=hown.below h2' (aA _);go_wp2_with (at_builtin;refine CO rfl _ _ rfl w1.heap.size _ _ rfl hown2 _ (dig m) rfl hsrc (by omega) (by omega) ?_;intro v' w3 hown' hB hgrow);have hg:=HG.out
     go_roundg (l.length-(i+m))
     case measure=>omega
     case rel=>
      refine⟨i+m,pre++dig m,by omega,rfl,by go_num,hown',hid ?_,by simp only[aL];omega,(bV hbel h2').trans hB⟩;rw[cF,<-hzl.out];exact HP.out
    ·subst h2;obtain⟨x,hx⟩:=dH (l:=l) (k:=i) (by omega);have c1:=hcel.out i x hx;have hx0:=hnz.out x hx;have hxb:=HV.out x (cH hx);have t1:(x==0)=false:=by rw[beq_eq_false_iff_ne];omega
     have t2:decide (i<l.length)=true:=decide_eq_true (by omega);have HX:=hid hx;have e2:=hid (show cZ 0 (l.drop i)=[x+1]++cZ 0 (l.drop (i+1)) by
      rw[oH (show i<l.length by omega),show l[i]=x from(eU.1 hx).2,cZ,if_neg (by omega),qF];simp)
     clear hx;go_wp2_with fail;refine(JJ 0 _ (by omega)).mono ?_;rintro e w2 ⟨dv,rfl,hdo,h2'⟩;have hsrc:=hdo.src;have hs2:=h2'.size;have hown2:=hown.below h2' (aA _);have c2:w2.cell? ⟨b0,o0+i,none⟩=some (.int .i64 x):=by
      rw[(bV hbel h2').cell (p:=⟨b0,o0+i,none⟩) hb0];exact HA.out i x HX.out
     go_wp2_with (first
      |(at_builtin;refine CO rfl _ _ rfl w1.heap.size _ _ rfl hown2 _ (dig 0) rfl hsrc (by simp only[qF,cX];omega) (by omega) ?_;intro v' w3 hown' hB hgrow;(rw[qF,eE] at hown');(have c3:=(hB.cell (p:=⟨b0,o0+i,none⟩) hb0).trans c2);(have hs3:=hB.size))
      |(at_builtin;refine eN rfl _ _ rfl w1.heap.size _ _ rfl (OwI.alloc hown' _) w3.heap.size (x+1) rfl ?_ ?_ ?_ ?_;(exact bS _ _ _);omega;(simp;omega);intro v4 w4 hown4 hB4 hgrow4))
     have hg:=HG.out
     go_roundg (l.length-(i+1))
     case measure=>omega
     case rel=>
      refine⟨i+1,pre++[x+1],by omega,rfl,by go_num,hown4,hid ?_,by simp only[aL,fK];omega,(((bV hbel h2').trans hB).alloc (by omega) _).trans hB4⟩;rw[cF,<-e2.out];exact HP.out
    ·have t2:decide (i+m<l.length)=true:=decide_eq_true (by omega);obtain⟨x,hx⟩:=dH h1;have c1:=hcel.out (i+m) x hx;have hx0:=hnz.out x hx;have t1:(x==0)=false:=by rw[beq_eq_false_iff_ne];omega
     have t3:((m:Int)==0)=false:=by rw[beq_eq_false_iff_ne];omega
     clear hx;go_wp2_with fail;refine(JJ m _ (by omega)).mono ?_;rintro e w2 ⟨dv,rfl,hdo,h2'⟩;have hsrc:=hdo.src;have hs2:=h2'.size;have hown2:=hown.below h2' (aA _);go_wp2_with (at_builtin;refine CO rfl _ _ rfl w1.heap.size _ _ rfl hown2 _ (dig m) rfl hsrc (by omega) (by omega) ?_;intro v' w3 hown' hB hgrow);have hg:=HG.out
     go_roundg (l.length-(i+m))
     case measure=>omega
     case rel=>
      refine⟨i+m,pre++dig m,by omega,rfl,by go_num,hown',hid ?_,by simp only[aL];omega,(bV hbel h2').trans hB⟩;rw[cF,<-hzl.out];exact HP.out
  ·go_wp2_with fail
   go_ret2
   refine⟨_,rfl,?_,hbel⟩;have:=HP.out;rw[qY (by omega)] at this;simp only[cZ,qF,eE] at this;rw[<-this];exact hown
theorem RS (s:ByteArray) (k:Nat) (w:World) (hn:s.size<=1000000) (hk:k<=s.size):
  Calls Tryz.prog 83 #[.string s,.int .i64 (k:Int)] w fun e w'=>e=.returned (.string (mkS (rot s k)))/\∃m,w'=w.drewN m:=by
 have e:=JR s k;have HE:=hid e;clear e;go_enter Tryz.func83,Tryz.ntmps83;go_wp2
 go_quiet (fail)
 go_wp2;go_ret;exact⟨tY HE.out,_,rfl⟩
theorem aG7 (s:ByteArray) (w:World) (hn:s.size<=1000000)
  (hord:∀w,Calls Tryz.prog 82 #[.string s] w fun e w'=>∃v o,e=.returned v/\Ord (bX s) s.size s.size o/\OwI w' w.heap.size v (gI s.size o)/\Below w.heap.size w w'):
  Calls Tryz.prog 68 #[.string s] w fun e w'=>
   ∃o,Ord (bX s) s.size s.size o/\e=.returned (.tuple #[.string (mkS (dM s o s.size)),.int .i64 ((fD o s.size:Nat):Int)])/\Below w.heap.size w w':=by
 have HORD:=hid hord;clear hord;go_enter Tryz.func68,Tryz.ntmps68;go_wp2_with fail;refine(HORD.out _).mono ?_;rintro e w1 ⟨v,o,rfl,hO,hown,hbel⟩;obtain⟨a,cap,rfl,hca,hma,hA⟩:=hown.rd.open;rw[mL] at hca hA ⊢;unfold maxLen at hma;have HO:=hid hO;have HA:=hid hA;clear hO hA hown;go_wp2_with fail
 go_loopg [5,6,7,8] s.size (fun gh s5 s6 s7 _s8 wr=>∃k:Nat,k<=s.size/\gh=s.size-k/\s7=.int .i64 k/\s6=.int .i64 ((fD o k:Nat):Int)/\s5=.string (mkS (dM s o k))/\Below w1.heap.size w1 wr)
 case atStart=>exact⟨0,aU _,rfl,rfl,rfl,rfl,aB _ _⟩
 case round=>
  obtain⟨k,hk,hg,rfl,rfl,rfl,hbel1⟩:=hrel;have HG:=hid hg;clear hg
  by_cases hlt:k<s.size
  ·obtain⟨b,off,rfl,hbl,hc⟩:=HA.out (by omega);have hok:=HO.out.rng k hlt;obtain⟨kk,hkk⟩:∃kk,kk=(o k).toNat:=⟨_,rfl⟩;have ek:o k=(kk:Int):=by omega
   have hkn:kk<s.size:=by omega
   have c1:=(hbel1.cell (p:=⟨b,off+k,none⟩) hbl).trans (hc k _ (wC _ _ _ hlt));rw[ek] at c1;have EK:=hid ek;have HKK:=hid hkk;clear ek hkk hok hc;go_wp2_with fail;refine(aG6 s kk _ hn (by omega)).mono ?_;rintro e w2 ⟨rfl,hb2⟩;obtain⟨t,ht⟩:∃t,t=mkS (rot s kk):=⟨_,rfl⟩;rw[<-ht];have hts:t.size=s.size:=by rw[ht,cP,yO _ _ (by omega)]
   obtain⟨d,hd⟩:∃d,d=s.size-1:=⟨_,rfl⟩;have hdn:d<s.size:=by omega
   have hdt:d<t.size:=by omega
   have ed:(s.size:Int)-1=(d:Int):=by omega
   obtain⟨C,hC⟩:∃C,C=mkS [s.data.toList.getD ((kk+d)%s.size) 0]:=⟨_,rfl⟩;have hbyte:t.extract d s.size=C:=by
    have h1:=JQ s kk d hkn hdn;have h2:=BI t d hdt;rw[show d+1=s.size by omega] at h2;rw[h2,hC,show t.data.toList=rot s kk by rw[ht];rfl,fF,h1];rfl
   have hCs:C.size=1:=by rw[hC];rfl
   obtain⟨S,hS⟩:∃S,S=mkS (dM s o k):=⟨_,rfl⟩;rw[<-hS];have hSs:S.size<=1000000:=by rw[hS,cP,sY];omega
   have hnext:mkS (dM s o (k+1))=S++C:=by
    rw[hS,hC,pM,JS,<-HKK.out,<-hd]
   have HN:=hid hnext;have HD:=hid hd;have hbel2:=hbel1.trans (hb2.mono hbel1.size);have c1':=(hb2.cell (p:=⟨b,off+k,none⟩) (iO wr _ c1)).trans c1;have hle:d<=s.size:=by omega
   clear hbel1 ht hd hC hS hnext c1
   by_cases h0:kk=0
   ·have t1:((kk:Int)==0)=true:=by rw[beq_iff_eq];omega
    go_wp2_with fail;have hg:=HG.out
    go_roundg (s.size-(k+1))
    case measure=>omega
    case rel=>
     refine⟨k+1,by omega,rfl,by go_num,?_,by rw[HN.out],hbel2⟩;unfold fD;rw[if_pos (by rw[EK.out];omega)]
   ·have t1:((kk:Int)==0)=false:=by rw[beq_eq_false_iff_ne];omega
    go_wp2_with fail;have hg:=HG.out
    go_roundg (s.size-(k+1))
    case measure=>omega
    case rel=>
     refine⟨k+1,by omega,rfl,by go_num,?_,by rw[HN.out],hbel2⟩;show _=bO .i64 (((if o k=0 then k else fD o k:Nat)):Int);rw[if_neg (by rw[EK.out];omega)]
  ·have hke:k=s.size:=by omega
   subst hke;go_wp2_with fail
   go_ret2
   exact⟨o,HO.out,rfl,hbel.trans (hbel1.mono hbel.size)⟩
theorem aHa:∀(t:Nat) (x y:List UInt8) (p q:UInt8),(∀u,u<t->x[u]? =y[u]?)->x[t]? =some p->y[t]? =some q->p.toNat<q.toNat->oL x y=true:=by
 intro t
 induction t with
 |zero=>
  intro x y p q _ hx hy hpq
  cases x with
  |nil=>simp at hx
  |cons a x=>
   cases y with
   |nil=>simp at hy
   |cons b y=>
    simp at hx hy;subst hx;subst hy;simp[oL,NZ,hpq]
 |succ t ih=>
  intro x y p q h hx hy hpq
  cases x with
  |nil=>simp at hx
  |cons a x=>
   cases y with
   |nil=>simp at hy
   |cons b y=>
    have h0:=h 0 (by omega);simp at h0 hx hy;subst h0;have:=ih x y p q (fun u hu=>by have:=h (u+1) (by omega);simpa using this) hx hy hpq;simp[oL,this]
theorem aHb (x:List UInt8):oL x x=false:=by
 induction x with
 |nil=>rfl
 |cons a x ih=>simp[oL,ih]
theorem yP (s:ByteArray) {k i:Nat} (hk:k<s.size) (hi:i<s.size):∃b,(rot s k)[i]? =some b/\b.toNat=bX s (k+i):=⟨_,JQ s k i hk hi,rfl⟩
theorem RT (s:ByteArray) {a b i:Nat} (ha:a<s.size) (hb:b<s.size) (hi:i<s.size) (h:bX s (a+i)=bX s (b+i)):(rot s a)[i]? =(rot s b)[i]? :=by
 obtain⟨x,hx,ex⟩:=yP s ha hi;obtain⟨y,hy,ey⟩:=yP s hb hi;rw[hx,hy];have:x=y:=qV.1 (by omega);rw[this]
theorem aHc (s:ByteArray) {a b:Nat} (ha:a<s.size) (hb:b<s.size) (h:eqm (bX s) s.size a b):rot s a=rot s b:=by
 apply jA;intro i
 by_cases hi:i<s.size
 ·exact RT s ha hb hi (h i hi)
 ·rw[dL (by rw[yO _ _ (by omega)];omega),dL (by rw[yO _ _ (by omega)];omega)]
theorem RU (s:ByteArray) {a b:Nat} (ha:a<s.size) (hb:b<s.size) (h:ltm (bX s) s.size a b):oL (rot s a) (rot s b)=true:=by
 obtain⟨t,t1,t2,t3⟩:=h;obtain⟨x,hx,ex⟩:=yP s ha t1;obtain⟨y,hy,ey⟩:=yP s hb t1;exact aHa t _ _ x y (fun u hu=>RT s ha hb (by omega) (t2 u hu)) hx hy (by omega)
theorem aG8 {s:ByteArray} {o o':Nat->Int} {n:Nat} (h:∀k,k<n->o k=o' k):dM s o n=dM s o' n:=by
 unfold dM;exact List.map_congr_left (fun k hk=>by rw[h k (by simpa using hk)])
theorem aG9 {o o':Nat->Int}:∀{n:Nat},(∀k,k<n->o k=o' k)->fD o n=fD o' n:=by
 intro n
 induction n with
 |zero=>intro _;rfl
 |succ n ih=>intro h;unfold fD;rw[h n (by omega),ih (fun k hk=>h k (by omega))]
end
section
theorem aHd:∀(x y:List UInt8),oL x y=true->oL y x=false:=by
 intro x
 induction x with
 |nil=>
  intro y h
  cases y with
  |nil=>rfl
  |cons b y=>rfl
 |cons a x ih=>
  intro y h
  cases y with
  |nil=>simp[oL] at h
  |cons b y=>
   simp only[oL,Bool.or_eq_true,Bool.and_eq_true,decide_eq_true_eq,beq_iff_eq,Bool.or_eq_false_iff,Bool.and_eq_false_iff,decide_eq_false_iff_not] at h ⊢;rcases h with h|⟨h1,h2⟩
   ·exact⟨fun h'=>by rw[NZ] at h h';omega,.inl (by rw[beq_eq_false_iff_ne];intro e;rw[e,NZ] at h;omega)⟩
   ·exact⟨fun h'=>by rw[h1,NZ] at h';omega,.inr (ih y h2)⟩
theorem aHe (s:ByteArray) {a b:Nat} (ha:a<s.size) (hb:b<s.size):oL (rot s a) (rot s b)=true↔ltm (bX s) s.size a b:=by
 constructor
 ·intro h;rcases uL (bX s) a b s.size with p|p|p
  ·exact p
  ·rw[aHc s ha hb p,aHb] at h;exact tQ h
  ·have:=aHd _ _ (RU s hb ha p);rw[this] at h;exact tQ h
 ·exact RU s ha hb
def mM (L:List Int) (j:Nat) (k:Int):List Int:=L.take j++k::L.drop j
theorem JT (L:List Int) (j:Nat) (k:Int):(mM L j k).length=L.length+1:=by
 unfold mM;rw[aL,cR,aX,cI];omega
theorem JU {R:Int->Int->Prop} {L:List Int} {j:Nat} {k:Int} (h:L.Pairwise R) (h1:∀x∈L.take j,R x k) (h2:∀x∈L.drop j,R k x):(mM L j k).Pairwise R:=by
 unfold mM;rw[aCg];refine⟨h.sublist (List.take_sublist _ _),?_,?_⟩
 ·rw[List.pairwise_cons];exact⟨h2,h.sublist (List.drop_sublist _ _)⟩
 ·intro a ha b hb;rcases kD.1 hb with rfl|hb
  ·exact h1 a ha
  ·rw[<-jE j L,aCg] at h;exact h.2.2 a ha b hb
theorem JV {L:List Int} {j:Nat} {k:Nat} (h:∀x∈L,0<=x/\x<(k:Int)):∀x∈mM L j k,0<=x/\x<((k+1:Nat):Int):=by
 intro x hx;unfold mM at hx;rcases List.mem_append.1 hx with hx|hx
 ·have:=h x (nO hx);omega
 ·rcases kD.1 hx with rfl|hx
  ·omega
  ·have:=h x (xU hx);omega
theorem aHf {c:Nat->Nat} {n:Nat} {L:List Int} (h:L.Pairwise (bef c n)) {j:Nat} {y k:Int} (hj:0<j) (hy:L[j-1]? =some y) (hk:bef c n y k):∀x∈L.take j,bef c n x k:=by
 intro x hx;obtain⟨i,hi,rfl⟩:=List.mem_iff_getElem.1 hx;rw[aX] at hi;rw[List.getElem_take];obtain⟨hl,hy'⟩:=eU.1 hy;rcases bT i (j-1) with p|p
 ·have:=xO.1 h i (j-1) (by omega) hl p;rw[hy'] at this;exact(vW c n).tr _ _ _ this hk
 ·have:i=j-1:=by omega
  subst this;rw[hy'];exact hk
theorem aHg {c:Nat->Nat} {n:Nat} {L:List Int} (hl:L.length=n) (hr:∀x∈L,0<=x/\x<(n:Int)) (hs:L.Pairwise (bef c n)):Ord c n n (fun k=>L.getD k 0):=by
 subst hl;refine⟨fun k hk=>hr _ (by simp[fF,aN hk]),fun i j _ h2 h3=>?_⟩;have:=xO.1 hs i j (by omega) h3 h2
 simpa [fF,aN h3,aN (show i<L.length by omega)] using this
end
section
open Go.RowKit
theorem qN {ops:Array Oper} {o:Oper} {a:Act} {K:Act->World->Prop} {Q:Exit->Act->World->Prop} {E:Prop} {w:World} (hgd:o.guard=none) (s x:Operand)
  (ho:o.op=.call {callee:=.builtin .append,args:=#[s,x],argTypes:=#[57,57]}) (base:Nat) (v:Value) (l:List Int) (hs:a.eval s=v) (hown:OwI w base v l)
  (ad:Addr) (m c:Nat) (new:List Int) (hx:a.eval x=.slice (some ad) m c) (hl:new.length=m) (hnews:∀j y,new[j]? =some y->w.cell? (ad.add j)=some (.int .i64 y)) (hroom:(l.length+m)*8<=140737488355328) (hbase:base<=w.heap.size)
  (h:∀v' w',OwI w' base v' (l++new)->Below base w w'->w.grownBy w' v.ownBlock->K (a.put o.dst v') w'):if nR o (yielded ops a.tmps)=true then lX Tryz.prog o a w K Q else E:=by
 have hw:nR o (yielded ops a.tmps)=true:=by simp[nR,hgd]
 rw[if_pos hw];obtain⟨i,hi,hz,h2,h3⟩:=gL.info;have h4:(bO .i64 0).cells.size=1:=by rw[gL.cells];rfl
 have hown':w.ownsRow base 3 1 v l.length (l.map (bO .i64)):=by have:=hown;unfold OwI Ow at this;rwa[bJ] at this
 refine wp_append_own w s x _ ho base 3 i _ 1 8 gL.under hi hz h2 h3 h4 (by decide) v l.length _ hs hown' ad m c (new.map (bO .i64)) hx (by simp[hl]) ?_ ?_ (by simp only[maxLen];omega) hroom hbase (fun v' w' q1 q2 _=>h v' w' ?_ (rC hown' q2 hbase) q2)
 ·intro j u hu;rw[dY] at hu
  cases hn:new[j]? with
  |none=>rw[hn] at hu;simp at hu
  |some y=>rw[hn] at hu;simp at hu;subst hu;exact hnews j y hn
 ·intro u hu;obtain⟨y,_,rfl⟩:=dU.1 hu;rfl
 ·unfold OwI Ow;rw[List.map_append];rw[aL,bJ,bJ,hl];exact q1
theorem RV {ops:Array Oper} {o:Oper} {a:Act} {K:Act->World->Prop} {Q:Exit->Act->World->Prop} {E:Prop} {w:World} (hgd:o.guard=none) (s x:Operand)
  (ho:o.op=.call {callee:=.builtin .append,args:=#[s,x],argTypes:=#[57,57]}) (base:Nat) (v:Value) (l:List Int) (hs:a.eval s=v) (hown:OwI w base v l)
  (hx:a.eval x=.slice none 0 0)
  (h:K (a.put o.dst v) w):if nR o (yielded ops a.tmps)=true then lX Tryz.prog o a w K Q else E:=by
 have hw:nR o (yielded ops a.tmps)=true:=by simp[nR,hgd]
 rw[if_pos hw];obtain⟨i,hi,_,_,_⟩:=gL.info;have hown':w.ownsRow base 3 1 v l.length (l.map (bO .i64)):=by have:=hown;unfold OwI Ow at this;rwa[bJ] at this
 have hrun:=run_append_owned_none (P:=Tryz.prog) (w:=w) base _ o.type 3 i 1 gL.under hi v l.length _ hown';unfold lX;simp[execOp,ho,resolve,invoke,builtin,hs,hx,hrun,Result.andThen];exact h
theorem RW (b off j:Nat):(⟨b,off,none⟩:Addr).add j=⟨b,off+j,none⟩:=by unfold iN;split<;>simp_all
theorem yQ {wr w:World} {b off:Nat} {L:List Int} (hb:b<wr.heap.size) (hc:∀j x,L[j]? =some x->wr.cell? ⟨b,off+j,none⟩=some (.int .i64 x)) (h:Below wr.heap.size wr w/\wr.heap.size<=w.heap.size) (n:Nat):
  (∀j y,(L.take n)[j]? =some y->w.cell? ((⟨b,off,none⟩:Addr).add j)=some (.int .i64 y))/\(∀j y,(L.drop n)[j]? =some y->w.cell? ((⟨b,off+n,none⟩:Addr).add j)=some (.int .i64 y)):=by
 refine⟨fun j y hy=>?_,fun j y hy=>?_⟩
 ·rw[RW,h.1.cell (p:=⟨b,off+j,none⟩) hb]
  by_cases hj:j<n
  ·rw[mB hj] at hy;exact hc j y hy
  ·rw[List.getElem?_take_eq_none (by omega)] at hy;simp at hy
 ·rw[RW,h.1.cell (p:=⟨b,off+n+j,none⟩) hb];rw[gR] at hy;rw[dZ];exact hc _ y hy
theorem wD {B:Nat} {w0 w1 w2:World} (h:Below B w0 w1/\B<=w1.heap.size) (hb:Below B w1 w2):Below B w0 w2/\B<=w2.heap.size:=⟨h.1.trans hb,aW h.2 hb.size⟩
theorem uQ {B:Nat} {w0 w1:World} (h:Below B w0 w1/\B<=w1.heap.size) (o:Obj):Below B w0 (w1.alloc o)/\B<=(w1.alloc o).heap.size:=⟨h.1.alloc h.2 o,aW h.2 (by simp)⟩
theorem CU {B:Nat} {w0 w1:World} (h:Below B w0 w1) (hB:B<=w1.heap.size) (n:Nat):Below B w0 (w1.drewN n).drew/\B<=(w1.drewN n).drew.heap.size:=⟨(iI h n).drew,hB⟩
theorem CV {B:Nat} {w0 w1:World} (h:Below B w0 w1) (hB:B<=w1.heap.size) (n:Nat) (o:Obj):Below B w0 ((w1.drewN n).alloc o)/\B<=((w1.drewN n).alloc o).heap.size:=uQ ⟨iI h n,hB⟩ o
theorem CW {W w':World} {p:Addr} {v:Value} (hg:W.grownBy w' none) (hc:W.cell? p=some v):w'.cell? p=some v:=by
 rw[<-hc];exact World.cell?_of_block (w:=W) (hg.block p.block (iO W p hc) (by simp))
theorem sZ {w:World} {g:Nat} {x:Int} (h:w.cell? ⟨g,0,none⟩=some (.int .i64 x)):∀j y,[x][j]? =some y->w.cell? ((⟨g,0,none⟩:Addr).add j)=some (.int .i64 y):=by
 intro j y hy
 cases j with
 |zero=>simp at hy;subst hy;simpa [iN] using h
 |succ j=>simp at hy
theorem aHh (s:ByteArray) (w:World) (hn:s.size<=1000000):
  Calls Tryz.prog 82 #[.string s] w fun e w'=>∃v o,e=.returned v/\Ord (bX s) s.size s.size o/\OwI w' w.heap.size v (gI s.size o)/\Below w.heap.size w w':=by
 go_enter Tryz.func82,Tryz.ntmps82;go_wp2_with fail
 go_loopg [3,4,5] s.size (fun gh s3 s4 _s5 wr=>∃(k:Nat) (L:List Int),k<=s.size/\gh=s.size-k/\s4=.int .i64 k/\OwI wr w.heap.size s3 L/\Hid (L.length=k/\(∀x∈L,0<=x/\x<(k:Int))/\L.Pairwise (bef (bX s) s.size))/\(k=0->s3=.slice none 0 0)/\Below w.heap.size w wr)
 case atStart=>exact⟨0,[],aU _,rfl,rfl,OwI.nil _ _,hid ⟨rfl,fun x hx=>by simp at hx,List.Pairwise.nil⟩,fun _=>rfl,aB _ _⟩
 case round=>
  obtain⟨k,L,hk,hg,rfl,hown,HL,hnil,hbel⟩:=hrel;have HG:=hid hg;have HNIL:=hid hnil;clear hg hnil
  by_cases hlt:k<s.size
  ·obtain⟨va,cap,rfl,hca,hma,hA⟩:=hown.rd.open;rw[HL.out.1] at hca hA ⊢;unfold maxLen at hma;have HA:=hid hA;have HOWN:=hid hown;clear hA hown;obtain⟨wo,rfl⟩:∃wo:World,wo=wr:=⟨_,rfl⟩;go_wp2_with fail
   go_loopg [5] k (fun gh s5 wr=>∃j:Nat,j<=k/\gh=j/\s5=.int .i64 j/\Hid (∀x∈L.drop j,bef (bX s) s.size (k:Int) x)/\Below wo.heap.size wo wr)
   case atStart=>exact⟨k,aA _,rfl,rfl,hid (fun x hx=>by rw[qY (by rw[HL.out.1];exact aA _)] at hx;simp at hx),aB _ _⟩
   case round=>
    obtain⟨j,hj,hg,rfl,HD,hbel1⟩:=hrel;have HG2:=hid hg;clear hg;rcases fJ j with h0|h0
    ·have t1:decide (0<j)=false:=decide_eq_false (by omega);have HT:=hid (show ∀x∈L.take j,bef (bX s) s.size x (k:Int) from fun x hx=>by rw[h0] at hx;simp at hx);have HJ0:=hid h0;clear h0;go_wp2_with fail
     go_quiet (fail)
     go_wp2_with fail;rcases fJ k with hk0|hk0
     ·have hsl:=HNIL.out hk0;rw[aCd] at hsl;obtain⟨rfl,_,rfl⟩:=hsl;have hL0:L=[]:=vK (by rw[HL.out.1];exact hk0);subst hk0;have hj0:j=0:=HJ0.out;subst hj0
      go_region_held3 (fun w'=>Below wo.heap.size wo w'/\wo.heap.size<=w'.heap.size)
       (first
        |with_reducible assumption
        |with_reducible exact uQ (by assumption) _
        |with_reducible exact wD (by assumption) (by assumption)
        |with_reducible exact CU hbel1 hbel1.size _
        |with_reducible exact CV hbel1 hbel1.size _ _)
       (first
        |(refine RV rfl _ _ rfl wo.heap.size (.slice none 0 0) [] rfl (OwI.nil _ _) rfl ?_)
        |(refine qN rfl _ _ rfl wo.heap.size _ [] rfl (OwI.nil _ _) ⟨_,0,none⟩ 1 1 [((0:Nat):Int)] rfl rfl ?_ ?_ ?_ ?_;(first|exact sZ (bS _ _ _)|exact sZ (CW (by assumption) (by exact bS _ _ _)));(simp only[cX];omega);(exact(show Below wo.heap.size wo _/\wo.heap.size<=_ by assumption).2);intro v2 w2 hown2 hB2 hg2)
        |(refine RV rfl _ _ rfl wo.heap.size _ ([]++[((0:Nat):Int)]) rfl (by assumption) rfl ?_))
      all_goals go_wp2_with fail
      all_goals
       have hg:=HG.out
       go_roundg (s.size-(0+1))
       case measure=>omega
       case rel=>
        have hS:Below wo.heap.size wo _/\wo.heap.size<=_:=(show Below wo.heap.size wo w2/\wo.heap.size<=w2.heap.size by assumption);refine⟨0+1,[((0:Nat):Int)],by omega,rfl,by go_num,?_,hid ⟨rfl,fun x hx=>by simp at hx;omega,List.pairwise_singleton _ _⟩,fun e=>by omega,hbel.trans (hS.1.mono hbel.size)⟩;exact Ow.base hown2 hbel.size
     ·obtain⟨b,off,rfl,hbl,hc⟩:=HA.out hk0;have HC:=hid hc;have HLL:=hid HL.out.1;clear hc;have hjk1:(j:Int)<=(k:Int):=by omega
      have hjc:j<=cap:=by omega
      have hcj:¬cap=j:=by have:=HJ0.out;omega
      go_region_held3 (fun w'=>Below wo.heap.size wo w'/\wo.heap.size<=w'.heap.size)
       (first
        |with_reducible assumption
        |with_reducible exact uQ (by assumption) _
        |with_reducible exact wD (by assumption) (by assumption)
        |with_reducible exact CU hbel1 hbel1.size _
        |with_reducible exact CV hbel1 hbel1.size _ _)
       (first
        |(refine qN rfl _ _ rfl wo.heap.size (.slice none 0 0) [] rfl (OwI.nil _ _) ⟨b,off,none⟩ j cap (L.take j) rfl ?_ ?_ ?_ ?_ ?_;(rw[aX,HLL.out];omega);(exact(yQ hbl HC.out (by assumption) j).1);(simp only[cX];omega);(exact(show Below wo.heap.size wo _/\wo.heap.size<=_ by assumption).2);intro v1 w1 hown1 hB1 hg1)
        |(refine qN rfl _ _ rfl wo.heap.size _ ([]++L.take j) rfl (by first|assumption|exact OwI.alloc (by assumption) _) ⟨_,0,none⟩ 1 1 [(k:Int)] rfl rfl ?_ ?_ ?_ ?_;(first|exact sZ (bS _ _ _)|exact sZ (CW (by assumption) (by exact bS _ _ _)));(simp only[aL,cX,aX];omega);(exact(show Below wo.heap.size wo _/\wo.heap.size<=_ by assumption).2);intro v2 w2 hown2 hB2 hg2)
        |(refine qN rfl _ _ rfl wo.heap.size _ (([]++L.take j)++[(k:Int)]) rfl (by assumption) ⟨b,off+j,none⟩ (k-j) (cap-j) (L.drop j) rfl ?_ ?_ ?_ ?_ ?_;(rw[cI,HLL.out]);(exact(yQ hbl HC.out (by assumption) j).2);(simp only[aL,cX,aX,cR];omega);(exact(show Below wo.heap.size wo _/\wo.heap.size<=_ by assumption).2);intro v3 w3 hown3 hB3 hg3))
      all_goals go_wp2_with fail
      all_goals
       have hg:=HG.out
       go_roundg (s.size-(k+1))
       case measure=>omega
       case rel=>
        obtain⟨q1,q2,q3⟩:=HL.out;have hS:Below wo.heap.size wo _/\wo.heap.size<=_:=(show Below wo.heap.size wo w3/\wo.heap.size<=w3.heap.size by assumption);refine⟨k+1,mM L j k,by omega,rfl,by go_num,?_,hid ⟨by rw[JT,q1],JV q2,JU q3 HT.out HD.out⟩,fun e=>by omega,hbel.trans (hS.1.mono hbel.size)⟩;have e:([]++L.take j++[(k:Int)])++L.drop j=mM L j k:=by simp[mM]
        rw[<-e];exact Ow.base hown3 hbel.size
    ·have t1:decide (0<j)=true:=decide_eq_true h0;obtain⟨b,off,rfl,hbl,hc⟩:=HA.out (by omega);obtain⟨h1,h2,h3⟩:=HL.out;have hjl:j-1<L.length:=by omega
     have hget:L[j-1]? =some (L.getD (j-1) 0):=by simp[fF,aN hjl]
     have hrg:=h2 _ (cH hget);obtain⟨y,hy⟩:∃y:Nat,L.getD (j-1) 0=(y:Int):=⟨(L.getD (j-1) 0).toNat,by omega⟩;have hyk:y<k:=by omega
     have c1:=(hbel1.cell (p:=⟨b,off+(j-1),none⟩) hbl).trans (hc (j-1) _ hget);rw[hy] at c1;have HY:=hid hy;have s1:IntKind.i64.wrap ((j:Int)-1)=(j:Int)-1:=IntWalk.i64_in _ (by omega);have s2:((j:Int)-1).toNat=j-1:=by omega
     have s3:(0:Int)<=(j:Int)-1:=by omega
     have s4:(j:Int)-1<(k:Int):=by omega
     have s6:(1:Int)<=(j:Int):=by omega
     have s9:(j:Int)<=(k:Int):=by omega
     obtain⟨A,hA⟩:∃A,A=mkS (rot s k):=⟨_,rfl⟩;obtain⟨B,hB⟩:∃B,B=mkS (rot s y):=⟨_,rfl⟩;have qa:∀W,Calls Tryz.prog 83 #[.string s,.int .i64 (k:Int)] W fun e w'=>e=.returned (.string A)/\∃m,w'=W.drewN m:=fun W=>by rw[hA];exact RS s k W hn (by omega)
     have qb:∀W,Calls Tryz.prog 83 #[.string s,.int .i64 (y:Int)] W fun e w'=>e=.returned (.string B)/\∃m,w'=W.drewN m:=fun W=>by rw[hB];exact RS s y W hn (by omega)
     have QA:=hid qa;have QB:=hid qb;have hAl:A.toList=rot s k:=by rw[aZc,hA];rfl
     have hBl:B.toList=rot s y:=by rw[aZc,hB];rfl
     have hiff:oL A.toList B.toList=true↔ltm (bX s) s.size k y:=by rw[hAl,hBl];exact aHe s hlt (by omega)
     have HIFF:=hid hiff;have HC:=hid hc;clear qa qb hAl hBl hiff hA hB hy hrg hget h1 h2 h3 hc
     by_cases hlm:oL A.toList B.toList=true
     ·go_wp2_with fail
      go_quiet (first|(go_at_call_of 83 (bO .i64 (k:Int));refine OB (QA.out _))|(go_at_call_of 83 (bO .i64 (y:Int));refine OB (QB.out _)))
      go_wp2_with fail;have hg2:=HG2.out
      go_roundg (j-1)
      case measure=>omega
      case rel=>
       refine⟨j-1,by omega,rfl,congrArg _ (by omega),hid (fun x hx=>?_),iI hbel1 _⟩;rw[oH hjl,kD] at hx;rcases hx with rfl|hx
       ·have e:L[j-1]=(y:Int):=by rw[<-HY.out];simp[fF,aN hjl]
        rw[e];exact .inl (by simpa using HIFF.out.1 hlm)
       ·rw[show j-1+1=j by omega] at hx;exact HD.out x hx
     ·have hfl:oL A.toList B.toList=false:=by simpa using hlm
      have HLL:=hid HL.out.1;have hjc:j<=cap:=by omega
      have HT:=hid (show ∀x∈L.take j,bef (bX s) s.size x (k:Int) from aHf (y:=(y:Int)) HL.out.2.2 h0 (by simp[<-HY.out,fF,aN hjl]) (by
       rcases uL (bX s) y k s.size with p|p|p
       ·exact .inl (by simpa using p)
       ·exact .inr ⟨by simpa using p,by omega⟩
       ·exact absurd (HIFF.out.2 p) hlm))
      go_wp2_with fail
      go_quiet (first|(go_at_call_of 83 (bO .i64 (k:Int));refine OB (QA.out _))|(go_at_call_of 83 (bO .i64 (y:Int));refine OB (QB.out _)))
      clear hlm hfl c1 s1 s2 s3 s4 s6 hyk;go_wp2_with fail;obtain⟨wq,hwq⟩:∃wq:World,wq=wr:=⟨_,rfl⟩
      by_cases hcj:cap=j
      ·obtain rfl:cap=j:=hcj;obtain rfl:k=cap:=by omega
       go_region_held3 (fun w'=>Below wo.heap.size wo w'/\wo.heap.size<=w'.heap.size)
        (first
         |with_reducible assumption
         |with_reducible exact uQ (by assumption) _
         |with_reducible exact wD (by assumption) (by assumption)
         |with_reducible exact CU hbel1 hbel1.size _
         |with_reducible exact CV hbel1 hbel1.size _ _)
        (first
         |(refine qN rfl _ _ rfl wo.heap.size (.slice none 0 0) [] rfl (OwI.nil _ _) ⟨b,off,none⟩ k k (L.take k) rfl ?_ ?_ ?_ ?_ ?_;(rw[aX,HLL.out];omega);(exact(yQ hbl HC.out (by assumption) k).1);(simp only[cX];omega);(exact(show Below wo.heap.size wo _/\wo.heap.size<=_ by assumption).2);intro v1 w1 hown1 hB1 hg1)
         |(refine qN rfl _ _ rfl wo.heap.size _ ([]++L.take k) rfl (by first|assumption|exact OwI.alloc (by assumption) _) ⟨_,0,none⟩ 1 1 [(k:Int)] rfl rfl ?_ ?_ ?_ ?_;(first|exact sZ (bS _ _ _)|exact sZ (CW (by assumption) (by exact bS _ _ _)));(simp only[aL,cX,aX];omega);(exact(show Below wo.heap.size wo _/\wo.heap.size<=_ by assumption).2);intro v2 w2 hown2 hB2 hg2)
         |(refine qN rfl _ _ rfl wo.heap.size _ (([]++L.take k)++[(k:Int)]) rfl (by assumption) ⟨b,off,none⟩ 0 0 (L.drop k) rfl ?_ ?_ ?_ ?_ ?_;(rw[cI,HLL.out];omega);(intro j y hy;rw[qY (by rw[HLL.out];exact aA _)] at hy;simp at hy);(simp only[aL,cX,aX,cR];omega);(exact(show Below wo.heap.size wo _/\wo.heap.size<=_ by assumption).2);intro v3 w3 hown3 hB3 hg3))
       all_goals go_wp2_with fail
       all_goals
        have hg:=HG.out
        go_roundg (s.size-(k+1))
        case measure=>omega
        case rel=>
         obtain⟨q1,q2,q3⟩:=HL.out;have hS:Below wo.heap.size wo _/\wo.heap.size<=_:=(show Below wo.heap.size wo w3/\wo.heap.size<=w3.heap.size by assumption);refine⟨k+1,mM L k k,by omega,rfl,by go_num,?_,hid ⟨by rw[JT,q1],JV q2,JU q3 HT.out HD.out⟩,fun e=>by omega,hbel.trans (hS.1.mono hbel.size)⟩;have e:([]++L.take k++[(k:Int)])++L.drop k=mM L k k:=by simp[mM]
         rw[<-e];exact Ow.base hown3 hbel.size
      ·go_region_held3 (fun w'=>Below wo.heap.size wo w'/\wo.heap.size<=w'.heap.size)
        (first
         |with_reducible assumption
         |with_reducible exact uQ (by assumption) _
         |with_reducible exact wD (by assumption) (by assumption)
         |with_reducible exact CU hbel1 hbel1.size _
         |with_reducible exact CV hbel1 hbel1.size _ _)
        (first
         |(refine qN rfl _ _ rfl wo.heap.size (.slice none 0 0) [] rfl (OwI.nil _ _) ⟨b,off,none⟩ j cap (L.take j) rfl ?_ ?_ ?_ ?_ ?_;(rw[aX,HLL.out];omega);(exact(yQ hbl HC.out (by assumption) j).1);(simp only[cX];omega);(exact(show Below wo.heap.size wo _/\wo.heap.size<=_ by assumption).2);intro v1 w1 hown1 hB1 hg1)
         |(refine qN rfl _ _ rfl wo.heap.size _ ([]++L.take j) rfl (by first|assumption|exact OwI.alloc (by assumption) _) ⟨_,0,none⟩ 1 1 [(k:Int)] rfl rfl ?_ ?_ ?_ ?_;(first|exact sZ (bS _ _ _)|exact sZ (CW (by assumption) (by exact bS _ _ _)));(simp only[aL,cX,aX];omega);(exact(show Below wo.heap.size wo _/\wo.heap.size<=_ by assumption).2);intro v2 w2 hown2 hB2 hg2)
         |(refine qN rfl _ _ rfl wo.heap.size _ (([]++L.take j)++[(k:Int)]) rfl (by assumption) ⟨b,off+j,none⟩ (k-j) (cap-j) (L.drop j) rfl ?_ ?_ ?_ ?_ ?_;(rw[cI,HLL.out]);(exact(yQ hbl HC.out (by assumption) j).2);(simp only[aL,cX,aX,cR];omega);(exact(show Below wo.heap.size wo _/\wo.heap.size<=_ by assumption).2);intro v3 w3 hown3 hB3 hg3))
       all_goals go_wp2_with fail
       all_goals
        have hg:=HG.out
        go_roundg (s.size-(k+1))
        case measure=>omega
        case rel=>
         obtain⟨q1,q2,q3⟩:=HL.out;have hS:Below wo.heap.size wo _/\wo.heap.size<=_:=(show Below wo.heap.size wo w3/\wo.heap.size<=w3.heap.size by assumption);refine⟨k+1,mM L j k,by omega,rfl,by go_num,?_,hid ⟨by rw[JT,q1],JV q2,JU q3 HT.out HD.out⟩,fun e=>by omega,hbel.trans (hS.1.mono hbel.size)⟩;have e:([]++L.take j++[(k:Int)])++L.drop j=mM L j k:=by simp[mM]
         rw[<-e];exact Ow.base hown3 hbel.size
  ·have hke:k=s.size:=by omega
   subst hke;go_wp2_with fail;go_ret;obtain⟨h1,h2,h3⟩:=HL.out;refine⟨_,_,rfl,aHg h1 h2 h3,?_,hbel⟩;have e:=RO L;rw[h1] at e;rw[e];exact hown
end
section
theorem XO {N:Nat} {lt:Nat->Nat->Prop} (hir:∀x,¬lt x x) (htr:∀x y z,lt x z->lt x y\/lt y z) {a b:Nat->Nat}
  (ainj:∀i j,i<N->j<N->a i=a j->i=j) (bonto:∀i,i<N->∃j,j<N/\b j=a i)
  (asd:∀i j,i<j->j<N->¬lt (a j) (a i)) (bs:∀i j,i<j->j<N->¬lt (b j) (b i)):∀i,i<N->¬lt (a i) (b i):=by
 intro i hi h;have key:∀k,k<=i->∃j,j<i/\b j=a k:=by
  intro k hk;obtain⟨j,hj,e⟩:=bonto k (by omega);refine⟨j,?_,e⟩;have h1:lt (a k) (b i):=by
   rcases htr (a i) (a k) (b i) h with p|p
   ·exfalso;rcases bT k i with q|q
    ·exact asd k i q hi p
    ·have:k=i:=by omega
     subst this;exact hir _ p
   ·exact p
  rw[<-e] at h1;rcases Nat.lt_trichotomy j i with p|p|p
  ·exact p
  ·subst p;exact absurd h1 (hir _)
  ·exact absurd h1 (bs i j p hj)
 obtain⟨f,hf⟩:∃f:Nat->Nat,∀k,k<=i->f k<i/\b (f k)=a k:=by
  refine⟨fun k=>if h:k<=i then Classical.choose (key k h) else 0,fun k hk=>?_⟩;have:=Classical.choose_spec (key k hk);simp only[dif_pos hk];exact this
 obtain⟨x,y,h1,h2,h3⟩:=php i f (fun k hk=>(hf k hk).1);have e1:=(hf x (by omega)).2;have e2:=(hf y h2).2;rw[h3,e2] at e1;have:=ainj y x (by omega) (by omega) e1;omega
theorem XP {c:Nat->Nat} {m:Nat} (x y z:Nat) (h:ltm c m x z):ltm c m x y\/ltm c m y z:=by
 rcases uL c x y m with p|p|p
 ·exact .inl p
 ·exact .inr (p.symm.ltm h)
 ·exact .inr (p.trans h)
theorem aNv {c:Nat->Nat} {m N:Nat} {a b:Nat->Nat} (ainj:∀i j,i<N->j<N->a i=a j->i=j) (binj:∀i j,i<N->j<N->b i=b j->i=j)
  (aonto:∀i,i<N->∃j,j<N/\a j=b i) (bonto:∀i,i<N->∃j,j<N/\b j=a i)
  (asd:∀i j,i<j->j<N->¬ltm c m (a j) (a i)) (bs:∀i j,i<j->j<N->¬ltm c m (b j) (b i)):∀i,i<N->eqm c m (a i) (b i):=by
 intro i hi;have h1:=XO (lt:=ltm c m) (fun _=>ltm.irrefl) XP ainj bonto asd bs i hi;have h2:=XO (lt:=ltm c m) (fun _=>ltm.irrefl) XP binj aonto bs asd i hi;rcases uL c (a i) (b i) m with p|p|p
 ·exact absurd p h1
 ·exact p
 ·exact absurd p h2
theorem Ord.weak {c:Nat->Nat} {n m:Nat} {o:Nat->Int} (h:Ord c n m o) {i j:Nat} (hij:i<j) (hj:j<n):¬ltm c m (o j).toNat (o i).toNat:=by
 intro k;rcases h.srt i j (aU _) hij hj with p|⟨p,_⟩
 ·exact p.asymm k
 ·exact k.not_eqm p.symm
theorem Ord.nat {c:Nat->Nat} {n m:Nat} {o:Nat->Int} (h:Ord c n m o) {i:Nat} (hi:i<n):o i=(((o i).toNat:Nat):Int)/\(o i).toNat<n:=by
 have:=h.rng i hi;omega
theorem Ord.inj {c:Nat->Nat} {n m:Nat} {o:Nat->Int} (h:Ord c n m o) {i j:Nat} (hi:i<n) (hj:j<n) (e:(o i).toNat=(o j).toNat):i=j:=by
 apply aCc;intro hne;have h1:=(h.nat hi).1;have h2:=(h.nat hj).1;exact h.ne hi hj hne (by rw[h1,h2,e])
theorem aNw {n k x y:Nat} (hx:x<n) (hy:y<n) (h:(x+k)%n=(y+k)%n):x=y:=by
 have e:∀z,z<n->((z+k)%n+(n-k%n))%n=z:=by
  intro z hz;have hk:=jQ k (show 0<n by omega);rw[AO,<-AO];have e1:z+k+(n-k%n)=z+n*(k/n+1):=by
   have:=NU k n;rw[Nat.mul_add,sE];omega
  rw[AO,e1,aTo,kU hz]
 rw[<-e x hx,<-e y hy,h]
theorem aNx {n k y:Nat} (hy:y<n):∃x,x<n/\(x+k)%n=y:=by
 refine⟨(y+(n-k%n))%n,jQ _ (by omega),?_⟩;have hk:=jQ k (show 0<n by omega);have e1:y+(n-k%n)+k=y+n*(k/n+1):=by
  have:=NU k n;rw[Nat.mul_add,sE];omega
 rw[AO,e1,aTo,kU hy]
theorem aNy (s:ByteArray) (o:Nat->Int) (n:Nat) {i:Nat} (hi:i<n):∃b,(dM s o n)[i]? =some b/\b.toNat=bX s ((o i).toNat+(s.size-1)):=by
 refine⟨s.data.toList.getD (((o i).toNat+(s.size-1))%s.size) 0,?_,rfl⟩;unfold dM;rw[dY,List.getElem?_range hi];rfl
theorem aNz {x y:List UInt8} (hl:x.length=y.length) (h:∀i,i<x.length->∃a b,x[i]? =some a/\y[i]? =some b/\a.toNat=b.toNat):x=y:=by
 apply jA;intro i
 by_cases hi:i<x.length
 ·obtain⟨a,b,h1,h2,h3⟩:=h i hi;rw[h1,h2,qV.1 h3]
 ·rw[dL (by omega),dL (by omega)]
theorem aN5 (s:List UInt8):∀j,j<s.length->∀i,i<j->(s.getD (nxt s i) 0).toNat<(s.getD (nxt s j) 0).toNat\/((s.getD (nxt s i) 0).toNat=(s.getD (nxt s j) 0).toNat/\nxt s i<nxt s j):=by
 intro j
 induction j with
 |zero=>intro _ i hi;omega
 |succ j ih=>
  intro hj i hi;obtain⟨h1,h2⟩:=aFx s j hj;rcases bT i j with p|p
  ·rcases ih (by omega) i p with q|⟨q,q'⟩
   ·exact .inl (by omega)
   ·rcases bT (s.getD (nxt s j) 0).toNat (s.getD (nxt s (j+1)) 0).toNat with t|t
    ·exact .inl (by omega)
    ·have:=h2 (by omega);exact .inr ⟨by omega,by omega⟩
  ·have:i=j:=by omega
   subst this;rcases bT (s.getD (nxt s i) 0).toNat (s.getD (nxt s (i+1)) 0).toNat with t|t
   ·exact .inl t
   ·exact .inr ⟨by omega,h2 (by omega)⟩
theorem XW {c:Nat->Nat} {n:Nat} (hc:Cyc c n) (hn:0<n) {x y:Nat} (h:eqm c n x y) (t:Nat):c (x+t)=c (y+t):=
 (hc.all hn (m:=n+t+1) (by omega)).1.2 h t (by omega)
theorem XX {c:Nat->Nat} {n:Nat} (hc:Cyc c n) (hn:0<n) {x y:Nat} (h:eqm c n x y) (k:Nat):eqm c n (x+k) (y+k):=fun t _=>by
 rw[dZ,dZ];exact XW hc hn h _
theorem LY {c:Nat->Nat} {n:Nat} (hc:Cyc c n) (x:Nat):eqm c n (x+n) x:=fun t _=>by
 rw[show x+n+t=x+t+n by omega,hc]
section
variable {s:ByteArray} {o:Nat->Int}
theorem LZ (_h:Ord (bX s) s.size s.size o) {i:Nat} (hi:i<s.size):((dM s o s.size).getD i 0).toNat=bX s ((o i).toNat+(s.size-1)):=by
 obtain⟨b,h1,h2⟩:=aNy s o s.size hi;rw[fF,h1];exact h2
theorem aN6 (h:Ord (bX s) s.size s.size o):∀i,i<s.size->eqm (bX s) s.size ((o (nxt (dM s o s.size) i)).toNat+(s.size-1)) (o i).toNat:=by
 have hc:=sX s;have hl:=sY s o s.size;have hlt:∀{i},i<s.size->nxt (dM s o s.size) i<s.size:=fun{i} hi=>by have:=CK (dM s o s.size) i (by omega);omega
 intro i hi;rw[<-hc.eqm,kU (h.nat hi).2];refine aNv (a:=fun i=>((o (nxt (dM s o s.size) i)).toNat+(s.size-1))%s.size) (b:=fun i=>(o i).toNat) (N:=s.size) ?_ (fun i j hi hj e=>h.inj hi hj e) ?_ ?_ ?_ (fun i j hij hj=>h.weak hij hj) i hi
 ·intro i j hi hj e;have e1:=aNw (h.nat (hlt hi)).2 (h.nat (hlt hj)).2 e;exact aFl _ i j (by omega) (by omega) (h.inj (hlt hi) (hlt hj) e1)
 ·intro i hi;obtain⟨x,hx,e⟩:=aNx (k:=s.size-1) (h.nat hi).2;obtain⟨j,hj,e'⟩:=h.onto hx;have hp:=QO (dM s o s.size) j (by omega);refine⟨jI (dM s o s.size) j,by omega,?_⟩;rw[aFk _ j (by omega),e',eG,e]
 ·intro i hi;obtain⟨j,hj,e⟩:=h.onto (y:=((o (nxt (dM s o s.size) i)).toNat+(s.size-1))%s.size) (jQ _ (by omega));exact⟨j,hj,by rw[e,eG]⟩
 ·intro i j hij hj;have hn:0<s.size:=by omega
  have hi:i<s.size:=by omega
  have v:=aN5 (dM s o s.size) j (by omega) i hij;rw[LZ h (hlt hi),LZ h (hlt hj)] at v;have bi:=h.nat (hlt hi);have bj:=h.nat (hlt hj);rw[hc.ltm,<-(hc.all hn (m:=1+s.size) (by omega)).2,QW];rintro(⟨t,t1,_,t3⟩|⟨t,t'⟩)
  ·have:t=0:=by omega
   subst this;simp only[pH] at t3;omega
  ·have e1:=t 0 (by omega);simp only[pH] at e1;rcases v with v|⟨_,v⟩
   ·omega
   ·rw[show(o (nxt (dM s o s.size) j)).toNat+(s.size-1)+1=(o (nxt (dM s o s.size) j)).toNat+s.size by omega,
     show(o (nxt (dM s o s.size) i)).toNat+(s.size-1)+1=(o (nxt (dM s o s.size) i)).toNat+s.size by omega] at t'
    have t2:=((LY hc _).symm.ltm t').eqm (LY hc _);exact h.weak v (hlt hj) t2
theorem aN7 (h:Ord (bX s) s.size s.size o) {i:Nat} (hi:i<s.size):eqm (bX s) s.size (o (nxt (dM s o s.size) i)).toNat ((o i).toNat+1):=by
 have hc:=sX s;have hn:0<s.size:=by omega
 have:=XX hc hn (aN6 h i hi) 1;rw[show(o (nxt (dM s o s.size) i)).toNat+(s.size-1)+1=(o (nxt (dM s o s.size) i)).toNat+s.size by omega] at this;exact(LY hc _).symm.trans this
theorem aN8 (h:Ord (bX s) s.size s.size o) {k:Nat} (hk:k<s.size):∀j,eqm (bX s) s.size (o (kJ (dM s o s.size) j k)).toNat ((o k).toNat+j):=by
 have hc:=sX s;have hn:0<s.size:=by omega
 have hl:=sY s o s.size;intro j
 induction j with
 |zero=>exact eqm.refl _ _
 |succ j ih=>
  have hw:=sU (dM s o s.size) k (by omega) j;exact(aN7 h (by omega)).trans (XX hc hn ih 1)
theorem aN9 (h:Ord (bX s) s.size s.size o) {k:Nat} (hk:k<s.size):nF (dM s o s.size) k=rot s (o k).toNat:=by
 have hl:=sY s o s.size;have hok:=(h.nat hk).2;have hn:0<s.size:=by omega
 refine aNz (by rw[CN,yO _ _ (by omega),hl]) (fun i hi=>?_);rw[CN,hl] at hi;obtain⟨b,h1,h2⟩:=yP s hok hi;refine⟨_,b,aFv _ _ _ (by omega),h1,?_⟩;have hw:=sU (dM s o s.size) k (by omega) (i+1);rw[LZ h (by omega),h2,XW (sX s) hn (aN8 h hk (i+1)) (s.size-1),show(o k).toNat+(i+1)+(s.size-1)=(o k).toNat+i+s.size by omega,sX s]
end
end
end Go.Proofs.YtmcogmmncfihhaaGreatDoor
