/-
  Texts put together (part 6): the walks and the plain laws on which the statement stands.
-/
import Derived.Laws.BitsAllLaws
import Derived.Laws.Bits64
import Derived.Deep.CutBlock
import Derived.Deep.RegionHeld3
import Derived.Test.YtihbnmlinkbnkaaGreatDoorZ2
set_option maxRecDepth 100000
set_option maxHeartbeats 12800000
set_option linter.unusedVariables false
set_option linter.unusedSimpArgs false
open Go.Proofs.Tryz
open Go.Proofs.Tryz renaming prog->pG
open Go renaming wp_region_held_drew->rF
open Go.Act renaming put->bJ
open Go.IntKind renaming i64->aJ,u64->eZ,u8->oQ,wrap_i64->aM,wrap_u64->fC,wrap_u8->sG
open Go.RowKit.Below renaming refl->aH
open Int renaming tdiv_eq_ediv_of_nonneg->IK,tmod_eq_emod_of_nonneg->mL
open List renaming append_assoc->bU,getD_eq_getElem?_getD->bV,getElem?_cons_succ->gH,getElem?_cons_zero->gB,getElem?_drop->jR,getElem?_eq_getElem->aN,getElem?_eq_none->fZ,getElem?_toArray->gA,length_cons->aU,length_nil->aV,length_take->aQ,range->eT,setIfInBounds_toArray->bK,set_cons_succ->bB,set_cons_zero->bH,size_toArray->dB,take_add_one->cG,take_of_length_le->cD
open Nat renaming le_refl->aD,lt_of_le_of_lt->GY,mod_eq_of_lt->jT,mod_lt->kU,pow_le_pow_right->nF,reduceAdd->cV,reduceSub->dC,zero_le->aO
open Or renaming inl->gJ,inr->gI
open UInt8 renaming ofNat->eA,toNat_ofNat'->nD
namespace Go.Proofs.YtihbnmlinkbnkaaGreatDoor
section
def aP (n:Nat) (at':Int) (k:Nat):Int:=if at'<0 then 1 else if 8*(n:Int)-(k:Int)<at' then 2 else 0
def aK (s:List UInt8) (at':Int) (k:Nat):Nat:=if aP s.length at' k=0 then dG (seg s at'.toNat k) else 0
theorem iG {n:Nat} {at':Int} {k:Nat} (h:aP n at' k=0):0<=at'/\at'.toNat+k<=8*n/\at'+(k:Int)<=8*(n:Int):=by grind [aP]
theorem jV (s:List UInt8) (at':Int) (k:Nat):aK s at' k<2^k:=by
 unfold aK;split
 ·next h=>
  have:=iG h
  grind [wC,seg,BT,aK]
 grind
def iK (s:List UInt8) (k:Nat):List Bool:=(eT 16).map (fun i=>dZ s (16*k+i))
theorem zJ (s:List UInt8) (k:Nat):(iK s k).length=16:=by simp[iK]
def lP (s:List UInt8) (k:Nat):Bool:=(iK s k).any id
theorem EN (l:List Bool):dG l=0↔l.any id=false:=by
 refine EM (P:=fun l=>dG l=0↔l.any id=false) (by decide) (fun l b d=>?_) l
 grind [wB,dG]
def pO (s:List UInt8):List Bool:=(eT 16).map (lP s)
def iA (s:List UInt8):Nat->List Bool
 |0=>[]
 |k+1=>iA s k++if lP s k then iK s k else[]
def iL (s:List UInt8):List Bool:=pO s++iA s 16
theorem KP (s:List UInt8):∀k,(iA s k).length<=16*k
 |0=>by simp[iA]
 |k+1=>by
  have:=KP s k
  grind [iA,zJ]
theorem KR (s:List UInt8):(iL s).length<=272:=by grind [KP,iL,pO]
def nJ (v k:Nat):Nat->List UInt8
 |0=>[]
 |i+1=>nJ v k i++if v.testBit (15-i) then[eA (16*k+i)] else[]
def dQ (s:List UInt8) (at':Int):Nat->List UInt8×Int×Bool×Int
 |0=>([],at'+16,aK s at' 16==0,aP s.length at' 16)
 |k+1=>
  let p:=dQ s at' k
  if p.2.2.2≠0 then p
  else if(aK s at' 16).testBit (15-k) then
   if aP s.length p.2.1 16≠0 then(p.1,p.2.1,p.2.2.1,aP s.length p.2.1 16)
   else(p.1++nJ (aK s p.2.1 16) k 16,p.2.1+16,p.2.2.1||aK s p.2.1 16==0,0)
  else p
def dF (s:List UInt8) (at':Int):List UInt8×Int×Int:=
 let p:=dQ s at' 16
 if p.2.2.2≠0 then([],0,p.2.2.2) else if p.2.2.1 then([],0,3) else(p.1,p.2.1,0)
theorem KS (v k:Nat):∀i,(nJ v k i).length<=i
 |0=>by simp[nJ]
 |i+1=>by
  have:=KS v k i
  grind [nJ]
theorem EO (s:List UInt8) (at':Int):∀k,(dQ s at' k).1.length<=16*k/\((dQ s at' k).2.2.2=0->at'+16<=(dQ s at' k).2.1/\(dQ s at' k).2.1<=at'+16+16*k)
 |0=>⟨by simp[dQ],fun _=>by simp[dQ]⟩
 |k+1=>by
  obtain⟨d,A⟩:=EO s at' k
  grind [dQ,KS,aK]
end
section
open Go.RowKit Go
theorem aEa (x j:Nat):x/2^j%2=(x.testBit j).toNat:=by grind
theorem CE (x j:Nat):(x:Int)/2^j=((x/2^j:Nat):Int):=by simp
theorem FA (x j:Nat):((x:Int)/2^j).tmod 2=((x.testBit j).toNat:Int):=by grind
theorem aV2:∀x:Fin 256,∀k:Fin 8,((x.val*2^k.val%256)&&&128)=if x.val.testBit (7-k.val) then 128 else 0:=by decide+kernel
theorem aV3 (x k:Nat) (d:x<256) (A:k<8):bits .and .u8 (oQ.wrap ((x:Int)*2^k)) 128=if x.testBit (7-k) then 128 else 0:=by
 have e:((2:Int)^k)=((2^k:Nat):Int):=by push_cast;rfl
 have h:oQ.wrap ((x:Int)*2^k)=((x*2^k%256:Nat):Int):=by
  rw[IntKind.wrap_u8',e,<-Int.natCast_mul];omega
 rw[h,show(128:Int)=((128:Nat):Int) from rfl,u8_and_nat _ _ (kU _ (by decide)) (by decide),aV2 ⟨x,d⟩ ⟨k,A⟩];split<;>rfl
theorem SU (v:Nat) (b:Bool) (h:2*v<18446744073709551616):bits .or .u64 (eZ.wrap ((v:Int)*2)) (b.toNat:Int)=((2*v+b.toNat:Nat):Int):=by
 have d:eZ.wrap ((v:Int)*2)=((2*v:Nat):Int):=by rw[fC];omega
 have A:b.toNat<2:=by cases b<;>decide
 rw[d,u64_or_nat _ _ h (by omega),nat_join 1 (2*v) b.toNat (by omega) (by simpa using A)]
end
section
open Go.RowKit
def bI (l:List Bool):List Int:=l.map (fun b=>(b.toNat:Int))
theorem cX (l:List Bool):(bI l).length=l.length:=List.length_map ..
theorem iT (l m:List Bool):bI (l++m)=bI l++bI m:=List.map_append ..
theorem aV4 {l:List Bool} {k:Nat} {b:Bool} (h:l[k]? =some b):(bI l)[k]? =some (b.toNat:Int):=by simp[bI,h]
theorem aV5 (l:List Bool) (k:Nat):(bI l).take k=bI (l.take k):=List.map_take.symm
theorem aV6 (s:List UInt8) (k:Nat) (h:k<8*s.length):(eR s).take (k+1)=(eR s).take k++[dO s k]:=by
 rw[cG,wA,aB h];rfl
theorem aEb (v n k:Nat) (h:k<n):(aT v n).take (k+1)=(aT v n).take k++[v.testBit (n-1-k)]:=by
 rw[cG,KI _ _ _ h];rfl
theorem aEc (s:ByteArray) (i:Nat) (w:World) (hi:i<8*s.size) (G:s.size<=140737488355328):
  Calls pG 98 #[.string s,.int .i64 (i:Int)] w fun e w'=>e=.returned (.int .i64 ((dO s.data.toList i).toNat:Int))/\w'=w:=by
 have d:i/8<s.size:=by omega
 have H:(i:Int).tdiv 8=((i/8:Nat):Int):=by rw[IK (by omega)];omega
 have I:(i:Int).tmod 8=((i%8:Nat):Int):=by rw[mL (by omega)];omega
 have J:aJ.wrap (7-((i%8:Nat):Int))=((7-i%8:Nat):Int):=by rw[aM];omega
 have A:=fW s (i/8) d;have L:=FA s[i/8].toNat (7-i%8);have F:dO s.data.toList i=s[i/8].toNat.testBit (7-i%8):=by unfold dO;rw[bV,A];rfl
 rw[F];have M:=s[i/8].toNat_lt;go_enter func98,ntmps98;go_wp2_with fail;go_ret;exact⟨rfl,rfl⟩
theorem aEd (s:ByteArray) (w:World) (Z:s.size<=1000000):
  Calls pG 56 #[.string s] w fun e w'=>∃v,e=.returned v/\OwI w' w.heap.size v (bI (eR s.data.toList))/\Below w.heap.size w w':=by
 have A:=hid (show s.data.toList.length=s.size by simp);go_enter func56,ntmps56;go_wp2_with fail
 go_loopg [3,4] (8*s.size) (fun g I J wr=>∃k:Nat,k<=8*s.size/\g=8*s.size-k/\J=.int .i64 k/\OwI wr w.heap.size I (bI ((eR s.data.toList).take k))/\Below w.heap.size w wr)
 case atStart=>exact⟨0,aO _,rfl,rfl,OwI.nil _ _,aH _ _⟩
 case round=>
  obtain⟨k,hk,F,rfl,G,d⟩:=hrel;have L:=hid F;clear F;have m1:aJ.wrap (8*(s.size:Int))=8*(s.size:Int):=by rw[aM];omega
  by_cases H:k<8*s.size
  ·have t1:decide ((k:Int)<8*(s.size:Int))=true:=aG (by omega);have M:(bI ((eR s.data.toList).take k)).length=k:=by rw[cX,aQ,qU,A.out];omega
   have a0:=d.size;have O:=hid (aV6 s.data.toList k (by rw[A.out];exact H));go_wp2_with fail;refine(aEc s k _ H (by omega)).mono ?_;rintro e w1 ⟨rfl,rfl⟩;go_wp2_with (at_builtin;refine gK rfl _ _ rfl w.heap.size _ _ rfl (G.alloc _) w1.heap.size ((dO s.data.toList k).toNat:Int) rfl ?_ ?_ ?_ ?_;(exact bX _ _ _);(rw[M];omega);(simp;omega);intro v' w1 U V a1);have F:=L.out
   go_roundg (8*s.size-(k+1))
   case measure=>omega
   case rel=>
    refine⟨k+1,by omega,rfl,by go_num,?_,(d.alloc d.size _).trans V⟩;rw[O.out,iT];exact U
  ·have t1:decide ((k:Int)<8*(s.size:Int))=false:=aE (by omega);go_wp2_with fail;go_ret;refine⟨_,rfl,?_,d⟩;rw[cD (by rw[qU,A.out];omega)] at G;exact G
theorem wK (v n:Nat) (w:World) (_hv:v<18446744073709551616) (hn:n<=64):
  Calls pG 60 #[.int .u64 (v:Int),.int .i64 (n:Int)] w fun e w'=>∃u,e=.returned u/\OwI w' w.heap.size u (bI (aT v n))/\Below w.heap.size w w':=by
 go_enter func60,ntmps60;go_wp2_with fail;have m1:aJ.wrap ((n:Int)-1)=(n:Int)-1:=by rw[aM];omega
 go_loopg [5,6] n (fun g I J wr=>∃k:Nat,k<=n/\g=n-k/\J=.int .i64 ((n:Int)-1-(k:Int))/\OwI wr w.heap.size I (bI ((aT v n).take k))/\Below w.heap.size w wr)
 case atStart=>exact⟨0,aO _,rfl,by go_num,OwI.nil _ _,aH _ _⟩
 case round=>
  obtain⟨k,hk,F,rfl,G,d⟩:=hrel;have L:=hid F;clear F
  by_cases M:k<n
  ·have t1:decide ((n:Int)-1-(k:Int)>=0)=true:=aG (by omega);have O:decide (0<=(n:Int)-1-(k:Int))=true:=aG (by omega);obtain⟨j,A⟩:∃j:Nat,j=n-1-k:=⟨_,rfl⟩;have H:(n:Int)-1-(k:Int)=(j:Int):=by omega
   have U:(bI ((aT v n).take k)).length=k:=by rw[cX,aQ,dV];omega
   have a1:=d.size;have V:=hid (aEb v n k M);have e4:=FA v j;have eb:((v.testBit j).toNat:Int)<2:=by cases v.testBit j<;>decide
   have e6:wrap64 ((v.testBit j).toNat:Int)=((v.testBit j).toNat:Int):=by unfold wrap64;omega
   rw[H];have e7:min j 64=j:=by omega
   have Z:=hid A;clear A H;go_wp2_with (at_builtin;refine gK rfl _ _ rfl w.heap.size _ _ rfl (G.alloc _) wr.heap.size ((v.testBit j).toNat:Int) rfl ?_ ?_ ?_ ?_;(exact bX _ _ _);(rw[U];omega);(simp;omega);intro v' w1 a0 hB a2);have F:=L.out
   go_roundg (n-(k+1))
   case measure=>omega
   case rel=>
    have A:=Z.out;refine⟨k+1,by omega,rfl,by go_num,?_,(d.alloc d.size _).trans hB⟩;rw[V.out,iT,<-A];exact a0
  ·have t1:decide ((n:Int)-1-(k:Int)>=0)=false:=aE (by omega);have O:decide (0<=(n:Int)-1-(k:Int))=false:=aE (by omega);go_wp2_with fail;go_ret;refine⟨_,rfl,?_,d⟩;rw[cD (by rw[dV];omega)] at G;exact G
theorem aEe {s:List UInt8} {a k:Nat} (h:a+k<8*s.length):seg s a (k+1)=seg s a k++[dO s (a+k)]:=by grind [seg,cG,wA,dO]
theorem aEf (s:List UInt8) (a:Nat):seg s a 0=[]:=by simp[seg]
def xU (b:Bool):Nat:=if b then 128 else 0
theorem SV (s:ByteArray) (i:Nat) (w:World) (hi:i<8*s.size) (O:s.size<=140737488355328):
  Calls pG 155 #[.string s,.int .i64 (i:Int)] w fun e w'=>e=.returned (.int .u8 (xU (dO s.data.toList i):Nat))/\w'=w:=by
 have J:i/8<s.size:=by omega
 have U:(i:Int).tdiv 8=((i/8:Nat):Int):=by rw[IK (by omega)];omega
 have L:(i:Int).tmod 8=((i%8:Nat):Int):=by rw[mL (by omega)];omega
 have d:=fW s (i/8) J;have M:=s[i/8].toNat_lt;have A:i%8<8:=kU _ (by decide);have F:=aV3 s[i/8].toNat (i%8) M A;have G:dO s.data.toList i=s[i/8].toNat.testBit (7-i%8):=by unfold dO;rw[bV,d];rfl
 have H:((xU (dO s.data.toList i):Nat):Int)=if s[i/8].toNat.testBit (7-i%8)=true then 128 else 0:=by rw[G];unfold xU;split<;>rfl
 rw[sG,<-H] at F;clear G H d;generalize xU (dO s.data.toList i)=t at*
 obtain⟨k,I⟩:∃k,k=i%8:=⟨_,rfl⟩;rw[<-I] at L F A;clear I;have V:min k 8=k:=by omega
 go_enter func155,ntmps155;go_wp2_with fail;go_ret;exact⟨rfl,rfl⟩
theorem uQ (s:ByteArray) (p:Int) (n:Nat) (w:World) (hs:s.size<=1000000) (hn:n<=64) (a8: -9223372036854775808<=p) (a9:p<=9223372036854775807):
  Calls pG 175 #[.string s,.int .i64 p,.int .i64 (n:Int)] w fun e w'=>e=.returned (.tuple #[.int .u64 (aK s.data.toList p n:Nat),.int .i64 (aP s.size p n)])/\w'=w:=by
 have G:s.data.toList.length=s.size:=by simp
 have n1:decide ((n:Int)<0)=false:=aE (by omega);have n2:decide ((n:Int)>64)=false:=aE (by omega);have n3:decide (64<(n:Int))=false:=aE (by omega);have m1:aJ.wrap (8*(s.size:Int))=8*(s.size:Int):=by rw[aM];omega
 have m2:aJ.wrap (8*(s.size:Int)-(n:Int))=8*(s.size:Int)-(n:Int):=by rw[aM];omega
 by_cases I:p<0
 ·have A:aP s.size p n=1:=by unfold aP;rw[aB I]
  have F:aK s.data.toList p n=0:=by unfold aK;rw[G,A,aA (by decide)]
  rw[A,F];have t1:decide (p<0)=true:=aG I;clear G A F;go_enter func175,ntmps175;go_wp2_with fail
  go_ret2
  exact⟨rfl,rfl⟩
 ·have t1:decide (p<0)=false:=aE I
  by_cases H:8*(s.size:Int)-(n:Int)<p
  ·have A:aP s.size p n=2:=by unfold aP;rw[aA I,aB H]
   have F:aK s.data.toList p n=0:=by unfold aK;rw[G,A,aA (by decide)]
   rw[A,F];have t2:decide (8*(s.size:Int)-(n:Int)<p)=true:=aG H;have t3:decide (p>8*(s.size:Int)-(n:Int))=true:=aG H;clear G A F;go_enter func175,ntmps175;go_wp2_with fail
   go_ret2
   exact⟨rfl,rfl⟩
  ·have A:aP s.size p n=0:=by unfold aP;rw[aA I,aA H]
   obtain⟨a,rfl⟩:∃a:Nat,p=(a:Int):=⟨p.toNat,by omega⟩;have b0:a+n<=8*s.size:=by omega
   have F:aK s.data.toList (a:Int) n=dG (seg s.data.toList a n):=by unfold aK;rw[G,A,aB rfl,Int.toNat_natCast]
   rw[A,F];have t2:decide (8*(s.size:Int)-(n:Int)<(a:Int))=false:=aE H;have t3:decide ((a:Int)>8*(s.size:Int)-(n:Int))=false:=aE H;have HL:=hid G;clear G A F H;go_enter func175,ntmps175;go_wp2_with fail
   go_loopg [6,8,29] n (fun g s8 _s x9 wr=>∃k v:Nat,k<=n/\g=n-k/\x9=.int .i64 (k:Int)/\s8=.int .u64 (v:Int)/\v=dG (seg s.data.toList a k)/\wr=w)
   case atStart=>exact⟨0,0,by omega,rfl,rfl,rfl,by rw[aEf];rfl,rfl⟩
   case round=>
    obtain⟨k,v,hk,O,rfl,rfl,J,rfl⟩:=hrel;have HG:=hid O;clear O
    by_cases b1:k<n
    ·have t4:decide ((k:Int)<(n:Int))=true:=aG (by omega);have a1:=wC (seg s.data.toList a k);rw[BT (by rw[HL.out];omega),<-J] at a1;have h2:2^k<=2^63:=nF (by decide) (by omega);have a2:(2:Nat)^63=9223372036854775808:=by decide
     rw[a2] at h2;have a5:v<9223372036854775808:=by omega
     clear a2 h2 a1;have a3:=aEe (s:=s.data.toList) (a:=a) (k:=k) (by rw[HL.out];omega);obtain⟨q,hq⟩:∃q:Nat,q=a+k:=⟨_,rfl⟩;obtain⟨b,L⟩:∃b:Nat,b=(dO s.data.toList q).toNat:=⟨_,rfl⟩;have b2:b<2:=by rw[L];cases dO s.data.toList q<;>decide
     have U:=hid (show 2*v+b=dG (seg s.data.toList a (k+1)) by rw[a3,wB,<-J,<-hq,<-L]);have a6:q<8*s.size:=by omega
     have m3:aJ.wrap ((a:Int)+(k:Int))=(q:Int):=by rw[aM];omega
     obtain⟨d,V⟩:∃d:Nat,d=2*v:=⟨_,rfl⟩;have m4:eZ.wrap ((v:Int)*2)=(d:Int):=by rw[fC];omega
     have m5:eZ.wrap (b:Int)=(b:Int):=by rw[fC];omega
     obtain⟨t,Z⟩:∃t:Nat,t=xU (dO s.data.toList q):=⟨_,rfl⟩;have m7:(t:Int)/128=(b:Int):=by rw[Z,L];cases dO s.data.toList q<;>rfl
     have HT:=hid Z;obtain⟨M,a0⟩:∃M:Nat,M=d+b:=⟨_,rfl⟩;have m6:bits .or .u64 (d:Int) (b:Int)=(M:Int):=by
      have:=SU v (dO s.data.toList q) (by omega);rw[m4,<-L] at this;rw[this,a0,V]
     have a7:=hid (show M=dG (seg s.data.toList a (k+1)) by rw[<-U.out,a0,V]);clear a3 J hq L V a0 a5 Z;go_wp2_with fail;refine(SV s q _ a6 (by omega)).mono ?_;rintro e w1 ⟨rfl,rfl⟩;rw[<-HT.out];go_wp2_with fail;have O:=HG.out
     go_roundg (n-(k+1))
     case measure=>omega
     case rel=>exact⟨k+1,M,by omega,rfl,by go_num,rfl,a7.out,rfl⟩
    ·have t4:decide ((k:Int)<(n:Int))=false:=aE (by omega);have a4:k=n:=by omega
     have U:=hid (show(v:Int)=((dG (seg s.data.toList a n):Nat):Int) by rw[J,a4]);clear J a4;go_wp2_with fail
     go_ret2
     exact⟨by rw[U.out];rfl,rfl⟩
def uR (l:List Bool):Nat->Nat
 |0=>0
 |k+1=>2*uR l k+(l.getD k false).toNat
theorem aEg (l:List Bool):∀k,uR l k<2^k
 |0=>by simp[uR]
 |k+1=>by
  have:=aEg l k;have d:(l.getD k false).toNat<2:=by cases l.getD k false<;>decide
  grind [uR]
theorem aV7 (l:List Bool):uR l 8=xN l:=rfl
theorem aV8 (l:List Bool) (j:Nat) (h:j<(l.length+7)/8):(aI l).take (j+1)=(aI l).take j++[zG (l.drop (8*j))]:=by grind [cG,aI,List.getElem?_range,zG]
theorem FB {A:Array Oper} {rest:List Oper} {o:Oper} {a:Act} {Q:Exit->Act->World->Prop} {w:World} (F:o.guard=none) (s x:Operand)
  (G:o.op=.call {callee:=.builtin .append,args:=#[s,x],argTypes:=#[48,48]}) (base:Nat) (v:Value) (l:List UInt8) (hs:a.eval s=v) (hown:OwB w base v l)
  (g:Nat) (b:UInt8) (hx:a.eval x=.slice (some ⟨g,0,none⟩) 1 1) (hc:w.cell? ⟨g,0,none⟩=some (.int .u8 (b.toNat:Int))) (hroom:(l.length+1)*1<=140737488355328) (hbase:base<=w.heap.size)
  (h:∀d w',OwB w' base d (l++[b])->Below base w w'->w.grownBy w' v.ownBlock->wpList pG A Q rest (a.put o.dst d) w'):wpList pG A Q (o::rest) a w:=
 tM yU F s x G base v _ hs hown g _ hx hc rfl (by simpa using hroom) hbase (fun d w' H I J=>h d w' (by unfold OwB;rw[IY];exact H) I J)
theorem rQ:(pG.info? 79).map (·.size)=some 2:=by kernel_rfl
theorem CF (v:Value) (l:List Bool) (w:World) (hr:RdI w v (bI l)) (hl:l.length<=1000000):
  Calls pG 62 #[v] w fun e w'=>e=.returned (.agg #[.string (mkS (aI l)),.int .i64 (l.length:Int)])/\Below w.heap.size w w':=by
 obtain⟨a,ca,rfl,a7,a8,U⟩:=hr.open;rw[cX] at a7 U;simp only[cX];unfold maxLen at a8;clear hr;have HA:=hid U;clear U;go_enter func62,ntmps62;go_wp2_with fail;have hR:=Arr.new w 79 [.string {data:=#[]},.int .i64 0];have a9:Below w.heap.size w (w.alloc (.cells #[.string {data:=#[]},.int .i64 0] 79)):=bD (aH _ _) _;change Arr (w.alloc (.cells #[.string {data:=#[]},.int .i64 0] 79)) _ _ _ at hR;generalize w.alloc (.cells #[.string {data:=#[]},.int .i64 0] 79)=w0 at*
 go_loopg [3,4,5,6] ((l.length+7)/8) (fun g s3 s4 _s5 _s6 wr=>∃j i:Nat,i=8*j/\j<=(l.length+7)/8/\g=(l.length+7)/8-j/\s4=.int .i64 (i:Int)/\OwB wr (w.heap.size+1) s3 ((aI l).take j)/\Arr wr w.heap.size 79 [.string {data:=#[]},.int .i64 0]/\Below w.heap.size w wr)
 case atStart=>exact⟨0,0,rfl,aO _,rfl,rfl,Ow.nil _ _ _,hR,a9⟩
 case round=>
  obtain⟨j,i,hi,hj,V,rfl,Z,A,H⟩:=hrel;have HG:=hid V;clear V;have b5:=H.size;have b6:=A.lt;have a0:((aI l).take j).length=j:=by rw[aQ,iJ];omega
  have HS:=hid (aV8 l j);obtain⟨L,hL⟩:∃L,L=l.drop i:=⟨_,rfl⟩;have HL:=hid hL;have HI:=hid hi;have b0:=hid a0
  by_cases b7:i<l.length
  ·have t1:decide ((i:Int)<(l.length:Int))=true:=aG (by omega);clear hL hi a0;go_wp2_with fail
   go_loopg [5,6] 8 (fun g s5 s6 wx=>∃k n:Nat,n=uR L k/\k<=8/\g=8-k/\s6=.int .i64 (k:Int)/\s5=.int .i64 (n:Int)/\wx=wr)
   case atStart=>exact⟨0,0,rfl,by omega,rfl,rfl,rfl,rfl⟩
   case round=>
    obtain⟨k,n,hn,hk,I,rfl,rfl,rfl⟩:=hrel;have a1:=hid I;clear I;have a2:=aEg L k;rw[<-hn] at a2;have hp:2^k<=256:=Nat.le_trans (nF (by decide) hk) (by decide);have b8:n<256:=by omega
    have HN:=hid hn;clear hn a2 hp
    by_cases b9:k<8
    ·have t2:decide ((k:Int)<8)=true:=aG (by omega);obtain⟨d,J⟩:∃d:Nat,d=2*n:=⟨_,rfl⟩;obtain⟨q,M⟩:∃q:Nat,q=i+k:=⟨_,rfl⟩;have c0:q<2000000:=by omega
     have hs:=hid (show uR L (k+1)=2*uR L k+(L.getD k false).toNat from rfl)
     by_cases b2:q<l.length
     ·have t3:decide ((q:Int)<(l.length:Int))=true:=aG (by omega);obtain⟨b1,o1,rfl,b3,a3⟩:=HA.out (by omega);have a4:(bI l)[q]? =some ((L.getD k false).toNat:Int):=by
       refine aV4 ?_;rw[HL.out,bV,jR,<-M,aN b2];rfl
      have c1:wr.cell? ⟨b1,o1+q,none⟩=some (.int .i64 ((L.getD k false).toNat:Int)):=by rw[H.cell (p:=⟨b1,o1+q,none⟩) b3];exact a3 _ _ a4
      obtain⟨F,O⟩:∃F:Nat,F=(L.getD k false).toNat:=⟨_,rfl⟩;have c2:F<2:=by rw[O];cases L.getD k false<;>decide
      rw[<-O] at c1;obtain⟨G,a5⟩:∃G:Nat,G=d+F:=⟨_,rfl⟩;have m1:aJ.wrap (2*(n:Int))=(d:Int):=by rw[aM];omega
      have m2:aJ.wrap ((i:Int)+(k:Int))=(q:Int):=by rw[aM];omega
      have m3:aJ.wrap ((d:Int)+(F:Int))=(G:Int):=by rw[aM];omega
      have HE:=hid (show G=uR L (k+1) by rw[hs.out,<-HN.out,<-O,a5,J]);clear a3 a4 O a5 J M;go_wp2_with fail;have I:=a1.out
      go_roundg (8-(k+1))
      case measure=>omega
      case rel=>exact⟨k+1,G,HE.out,by omega,rfl,by go_num,rfl,rfl⟩
     ·have t3:decide ((q:Int)<(l.length:Int))=false:=aE (by omega);have HE:=hid (show d=uR L (k+1) by
       rw[hs.out,<-HN.out,HL.out,bV,jR,<-M,fZ (by omega),J];rfl)
      have m1:aJ.wrap (2*(n:Int))=(d:Int):=by rw[aM];omega
      have m2:aJ.wrap ((i:Int)+(k:Int))=(q:Int):=by rw[aM];omega
      clear J M;go_wp2_with fail;have I:=a1.out
      go_roundg (8-(k+1))
      case measure=>omega
      case rel=>exact⟨k+1,d,HE.out,by omega,rfl,by go_num,rfl,rfl⟩
    ·have t2:decide ((k:Int)<8)=false:=aE (by omega);have m4:oQ.wrap (n:Int)=(n:Int):=by rw[sG];omega
     have hv:zG (l.drop (8*j))=eA n:=by
      unfold zG;rw[<-HI.out,<-HL.out,<-aV7,<-show k=8 by omega,<-HN.out]
     have e1:((eA n).toNat:Int)=(n:Int):=by rw[nD,jT (by omega)]
     have HV:=hid hv;clear hv;go_wp2_with (at_builtin;refine FB rfl _ _ rfl (w.heap.size+1) _ _ rfl (Ow.alloc Z _) wr.heap.size (eA n) rfl ?_ ?_ ?_ ?_;(rw[e1];exact bX _ _ _);(rw[b0.out];omega);(simp;omega);intro v' w3 b4 hB c3);have V:=HG.out;have hi:=HI.out
     go_roundg ((l.length+7)/8-(j+1))
     case measure=>omega
     case rel=>
      refine⟨j+1,i+8,by omega,by omega,rfl,by go_num,?_,(A.alloc _).below hB (Nat.lt_succ_self _),(bD H _).trans (hB.mono (by omega))⟩;rw[HS.out (by omega),HV.out];exact b4
  ·have t1:decide ((i:Int)<(l.length:Int))=false:=aE (by omega);have a6:(aI l).take j=aI l:=cD (by rw[iJ];omega);rw[a6] at Z;clear a6 a0 hL hi;have c4:=mP Z.rd;have r0:=A.free 0;have r1:=A.free 1;have r2:=A.cell (i:=0) rfl;have r3:=A.cell (i:=1) rfl;go_wp2_with fail;refine bodyPost_ret (results_cell_row rfl _ _ w.heap.size _ _ (0,0) _ rfl ((A.set 0 _).set 1 _) underlying79 rfl rQ) rfl ?_;exact⟨rfl,(H.setCell (p:=⟨w.heap.size,0,none⟩) (aD _) _).setCell (p:=⟨w.heap.size,1,none⟩) (aD _) _⟩
abbrev WrR (p g k:Nat) (v:Value) (n:Int) (w':World):Prop:=
 w'.cell? ⟨p,0,none⟩=some v/\w'.cell? ⟨p,1,none⟩=some (.int .i64 n)/\w'.frozen? ⟨g,k,none⟩=false
def WrS (w:World) (p B:Nat) (l:List Bool):Prop:=∃v,Arr w p 210 [v,.int .i64 (l.length:Int)]/\OwB w B v (aI l)
theorem OwB.open {w:World} {B:Nat} {v:Value} {l:List UInt8} (h:OwB w B v l):∃a c,v=.slice a l.length c/\l.length<=c/\c<=maxLen:=by
 have d:=h.rd;obtain⟨a,c,e,A,F,_⟩:=d
 grind
theorem OwB.at {w:World} {B c:Nat} {a:Option Addr} {l:List UInt8} (h:OwB w B (.slice a l.length c) l) {k:Nat} (L:k<l.length):∃g,a=some ⟨g,0,none⟩/\B<=g/\g<w.heap.size/\w.cell? ⟨g,k,none⟩=some (.int .u8 (l[k].toNat:Int))/\w.frozen? ⟨g,k,none⟩=false/\∀y:UInt8,OwB (w.setCell ⟨g,k,none⟩ (.int .u8 (y.toNat:Int))) B (.slice a l.length c) (l.set k y):=by
 have G:(fG l).length=l.length:=by simp[fG]
 rcases h.2 with⟨e,_⟩|⟨g,cap,d,e,F,A,H,I,M,J⟩
 ·grind
 ·rw[G] at e H J
  injection e with e1 e2 e3
  subst e1;subst e3;have O:k<d.size:=by omega
  refine⟨g,rfl,F,(Array.getElem?_eq_some_iff.1 A).1,?_,frozen_of_row w g k d _ A,fun y=>?_⟩
  ·rw[cell_of_row w g k d _ (0,0) A];have:d.toList[k]? =(fG l)[k]? :=by grind
   grind [IZ,OwB]
  ·refine⟨by simp[fG],.inr ⟨g,c,d.setIfInBounds k (.int .u8 (y.toNat:Int)),by simp[fG],F,?_,by grind [fG,OwB],I,by grind,?_⟩⟩
   ·rw[heap_setCell_same w g k d _ _ A]
   grind [fG,Array.toList_setIfInBounds,List.take_set,YG,OwB]
theorem OwB.setLow {w:World} {B:Nat} {v:Value} {l:List UInt8} (h:OwB w B v l) {p:Addr} (H:p.block<B) (x:Value):OwB (w.setCell p x) B v l:=by
 refine⟨h.1,?_⟩;rcases h.2 with d|⟨g,cap,A,rfl,F,G,rest⟩
 ·exact .inl d
 ·refine .inr ⟨g,cap,A,rfl,F,?_,rest⟩;rw[heap_setCell_other w p g x (fun e=>by omega)];exact G
def rR (w w':World):Prop:=∀(g:Nat) (d:List Value),Arr w g 79 d->Arr w' g 79 d
theorem OwB.ne_arr {w:World} {B g:Nat} {v:Value} {l:List UInt8} {A:List Value} (h:OwB w B v l) (F:Arr w g 79 A):some g≠v.ownBlock:=by
 intro e;rcases h.2 with⟨d,_⟩|⟨G,cap,H,d,_,I,_⟩
 ·rw[d] at e;simp[Value.ownBlock] at e
 ·rw[d] at e;simp[Value.ownBlock] at e
  grind [Arr,OwB]
theorem Arr.ne_wr {w:World} {p g:Nat} {d A:List Value} (h:Arr w p 210 d) (F:Arr w g 79 A):p≠g:=by grind [Arr]
theorem OwB.openN {w:World} {B:Nat} {v:Value} {l:List UInt8} (h:OwB w B v l):∃a n c,v=.slice a n c/\Hid (n=l.length)/\n<=c/\c<=maxLen:=by
 obtain⟨a,c,e,d,A⟩:=h.open
 grind [hid,OwB]
theorem aV9 (p B:Nat) (l:List Bool) (b:Bool) (w:World) (h:WrS w p B l) (hp:p<B) (hB:B<=w.heap.size) (hl:l.length<=1000000) (h8:l.length%8=0):
  Calls pG 154 #[.pointer (some ⟨p,0,none⟩),.bool b] w fun e w'=>e=.returned (.tuple #[])/\WrS w' p B (l++[b])/\Below p w w'/\rR w w':=by
 obtain⟨v,L,a4⟩:=h;obtain⟨a,c,rfl,c8,c9⟩:=a4.open;have c0:=L.cell (i:=0) rfl;have c1:=L.cell (i:=1) rfl;have f0:=L.free 0;have f1:=L.free 1;have e2:((l.length:Nat):Int).tmod 8=0:=by rw[mL (by omega)];omega
 have a5:(aI l).length=l.length/8:=by rw[iJ];omega
 have b4:=aSv h8 b;have b9:((aI l).length+1)*1<=140737488355328:=by omega
 have HS:=hid b4;have HP:=hid a5;clear b4 a5;go_enter func154,ntmps154;go_upto_region 2 with(at_builtin;refine FB rfl _ _ rfl B _ _ rfl (Ow.alloc a4 _) w.heap.size (0:UInt8) rfl ?_ ?_ ?_ ?_;(exact bX _ _ _);(exact b9);(simp;omega);intro v3 w3 a8 a9 b5;(have O:=(L.alloc _).below a9 hp);(have V:=O.cell (i:=0) rfl);(have Z:=O.cell (i:=1) rfl);(have q0:=O.free 0);(have q1:=O.free 1);(obtain⟨M,d,H,rfl,c2,d0,d1⟩:=a8.openN));have U:rR w (w3.setCell ⟨p,0,none⟩ (.slice M d H)):=fun A F G=>
  (((G.alloc _).grown b5 (a4.ne_arr G)).other ⟨p,0,none⟩ (L.ne_wr G) _)
 have a6:=a8.setLow (p:=⟨p,0,none⟩) hp (.slice M d H);have I:=O.set 0 (.slice M d H);change Arr (w3.setCell ⟨p,0,none⟩ (.slice M d H)) p 210 [.slice M d H,.int .i64 (l.length:Int)] at I;have b0:Below p w (w3.setCell ⟨p,0,none⟩ (.slice M d H)):=(((aH p w).alloc (by omega) _).trans (a9.mono (by omega))).setCell (p:=⟨p,0,none⟩) (aD _) _;clear b5 a9 O V Z q0 q1 a8 L a4 c0 c1 f0 f1;generalize w3.setCell ⟨p,0,none⟩ (.slice M d H)=J at*
 have V:=I.cell (i:=0) rfl;have Z:=I.cell (i:=1) rfl;have q0:=I.free 0;have q1:=I.free 1;have b1:=c2.out;have hk:(aI l).length<(aI l++[0]).length:=by simp
 have c4:(aI l++[(0:UInt8)]).length=(aI l).length+1:=by simp
 have b2:=a6;rw[b1] at b2;obtain⟨g,c5,d2,d3,cg,fg,b6⟩:=b2.at hk;have e0:(aI l++[(0:UInt8)])[(aI l).length]=0:=by simp
 rw[e0] at cg;have es:(aI l++[(0:UInt8)]).set (aI l).length 128=aI l++[128]:=by simp
 have a7:=b6 128;rw[es,<-b1] at a7;obtain⟨k,b3⟩:∃k,k=(aI l).length:=⟨_,rfl⟩;rw[<-b3] at cg fg a7;have a5:=HP.out;have m1:aJ.wrap ((d:Int)-1)=(k:Int):=by rw[aM];omega
 have m2:(0:Int)<=(k:Int):=by omega
 have m3:(k:Int)<(d:Int):=by omega
 have d4:k<d:=by omega
 have m4:¬g=p:=by omega
 have d5:¬p=g:=by omega
 have m5:bits .or .u8 0 128=128:=by decide
 have m6:aJ.wrap ((l.length:Int)+1)=(l.length:Int)+1:=by rw[aM];omega
 have b7:((l++[b]).length:Int)=(l.length:Int)+1:=by simp
 subst c5;have b8:∀A F,Arr J A 79 F->g≠A:=fun A F G e=>a6.ne_arr G (by rw[e];rfl)
 have HK:=hid b3;clear b3 c4 hk b1 b2 b6 es e0 a5
 cases b with
 |true=>
  go_upto_region 3 with fail;refine rF (S:=(fun w'=>w'.cell? ⟨p,0,none⟩=some (.slice (some ⟨g,0,none⟩) d H)/\w'.cell? ⟨p,1,none⟩=some (.int .i64 (l.length:Int))/\w'.frozen? ⟨g,k,none⟩=false)) (by kernel_rfl) (show WrR p g k _ _ J.drew from⟨V,Z,fg⟩) (fun d6=>?_)
  iterate 11
   refine fV 0 0 (by simp only[dB,aU,aV,cV,dC]<;>rfl) (by simp only[gA,gH,gB];rfl) (by kernel_rfl) (by exact fun _ _ _ h=>h) (by first|exact gI ⟨by rfl,rfl⟩|(refine gJ ⟨by rfl,?_⟩;intro w' a0;(try dsimp only at a0);(try go_simp);try with_reducible rfl)) (by assumption) ?_
   try simp only[bJ,bK,bH,bB]
  iterate 6
   refine fV 1 0 (by simp only[dB,aU,aV,cV,dC]<;>rfl) (by simp only[gA,gH,gB];rfl) (by kernel_rfl) (by exact fun _ _ _ h=>h) (by first|exact gI ⟨by rfl,rfl⟩|(refine gJ ⟨by rfl,?_⟩;intro w' a0;(try dsimp only at a0);(try go_simp);try with_reducible rfl)) (by assumption) ?_
   try simp only[bJ,bK,bH,bB]
  refine dJ (i:=11) (by kernel_rfl) rfl (fun K hK=>?_);have d7:J.drew.cell? ⟨g,k,none⟩=some (.int .u8 ((0:UInt8).toNat:Int)):=cg;go_simp;refine hK.out _ _ (show WrR p g k _ _ J.drew from⟨V,Z,fg⟩) (fun d8=>?_);clear hK K
  try simp only[bJ,bK,bH,bB]
  iterate 2
   refine fV 0 0 (by simp only[dB,aU,aV,cV,dC]<;>rfl) (by simp only[gA,gH,gB];rfl) (by kernel_rfl) (by exact fun _ _ _ h=>h) (by first|exact gI ⟨by rfl,rfl⟩|(refine gJ ⟨by rfl,?_⟩;intro w' a0;(try dsimp only at a0);(try go_simp);try with_reducible rfl)) (by assumption) ?_
   try simp only[bJ,bK,bH,bB]
  refine dJ (i:=20) (by kernel_rfl) rfl (fun K hK=>?_);go_simp;have c6:OwB (J.setCell ⟨g,k,none⟩ (.int .u8 128)).drew B (.slice (some ⟨g,0,none⟩) d H) (aI l++[128]):=a7;have a1:Arr (J.setCell ⟨g,k,none⟩ (.int .u8 128)).drew p 210 [.slice (some ⟨g,0,none⟩) d H,.int .i64 (l.length:Int)]:=Arr.other (w:=J) I ⟨g,k,none⟩ m4 _;have c7:Below p w (J.setCell ⟨g,k,none⟩ (.int .u8 128)).drew:=(b0.setCell (p:=⟨g,k,none⟩) (by show p<=g;omega) _).drew;have j0:=a1.cell (i:=0) rfl;have j1:=a1.cell (i:=1) rfl;have j3:((J.setCell ⟨g,k,none⟩ (.int .u8 128)).drew).frozen? ⟨g,k,none⟩=false:=by simpa using fg
  have d9:=a1.free 1;clear a7 a6 I b0 cg fg V Z q0 q1;have a2:=HS.out;rw[aB rfl] at a2;refine hK.out _ _ (show WrR p g k _ _ _ from⟨j0,j1,j3⟩) (fun e1=>?_);clear hK K;refine wpAnyH_done (by kernel_rfl) ?_ _;go_wp2_with fail
  go_end0
  refine⟨rfl,⟨.slice (some ⟨g,0,none⟩) d H,?_,?_⟩,c7.setCell (p:=⟨p,1,none⟩) (aD _) _,fun A F G=>((U A F G).other ⟨g,k,none⟩ (fun e=>b8 A F (U A F G) e) _).other ⟨p,1,none⟩ (a1.ne_wr ((U A F G).other ⟨g,k,none⟩ (fun e=>b8 A F (U A F G) e) _)) _⟩
  ·rw[b7];exact a1.set 1 _
  ·rw[a2];exact c6.setLow (p:=⟨p,1,none⟩) hp _
 |false=>
  have a2:=HS.out;rw[aA (by decide)] at a2;go_wp2_with fail
  go_end0
  refine⟨rfl,⟨.slice (some ⟨g,0,none⟩) d H,?_,?_⟩,b0.setCell (p:=⟨p,1,none⟩) (aD _) _,fun A F G=>(U A F G).other ⟨p,1,none⟩ (I.ne_wr (U A F G)) _⟩
  ·rw[b7];exact I.set 1 _
  ·rw[a2];exact a6.setLow (p:=⟨p,1,none⟩) hp _
end
section
open Go.RowKit Go
theorem aWa {l:List Bool} (h:l.length%8≠0):aI (l++[false])=aI l:=by
 have d:(aI l).length-1<(aI l).length:=by rw[iJ];omega
 rw[aBu h false,aA (by decide),Nat.or_zero,bV,aN d];simp
theorem aWb (p B:Nat) (l:List Bool) (b:Bool) (w:World) (h:WrS w p B l) (hp:p<B) (hl:l.length<=1000000) (M:l.length%8≠0):
  Calls pG 154 #[.pointer (some ⟨p,0,none⟩),.bool b] w fun e w'=>e=.returned (.tuple #[])/\WrS w' p B (l++[b])/\Below p w w'/\rR w w':=by
 obtain⟨v,G,I⟩:=h;have a3:(aI l).length=l.length/8+1:=by rw[iJ];omega
 obtain⟨k,O⟩:∃k,k=(aI l).length-1:=⟨_,rfl⟩;have a4:k<(aI l).length:=by omega
 obtain⟨a,c,rfl,a5,a6⟩:=I.open;obtain⟨g,rfl,b5,b6,cg,U,a2⟩:=I.at a4;obtain⟨r,hr⟩:∃r,r=l.length%8:=⟨_,rfl⟩;have b7:r<8:=by omega
 have e2:((l.length:Nat):Int).tmod 8=(r:Int):=by rw[mL (by omega)];omega
 have t1:((r:Int)==0)=false:=beq_eq_false_iff_ne.2 (by omega);have t2:decide ((r:Int)=0)=false:=aE (by omega);have e7:min r 8=r:=by omega
 have V:=G.cell (i:=0) rfl;have k1:=G.cell (i:=1) rfl;have q0:=G.free 0;have q1:=G.free 1;have m6:aJ.wrap ((l.length:Int)+1)=(l.length:Int)+1:=by rw[aM];omega
 have a7:((l++[b]).length:Int)=(l.length:Int)+1:=by simp
 have b2:∀d A,Arr w d 79 A->g≠d:=fun d A F e=>I.ne_arr F (by rw[e];rfl)
 have a8:∀d A,Arr w d 79 A->p≠d:=fun d A F=>G.ne_wr F
 cases b with
 |false=>
  have H:=hid (aWa M);clear a2 O a3 a5 a6 hr M;go_enter func154,ntmps154;go_wp2_with fail
  go_end0
  refine⟨rfl,⟨.slice (some ⟨g,0,none⟩) (aI l).length c,?_,?_⟩,(aH p w).setCell (p:=⟨p,1,none⟩) (aD _) _,fun d A F=>F.other ⟨p,1,none⟩ (a8 d A F) _⟩
  ·rw[a7];exact G.set 1 _
  ·rw[H.out];exact I.setLow (p:=⟨p,1,none⟩) hp _
 |true=>
  have H:=aBu M true;rw[aB rfl,<-O,<-hr,bV,aN a4,Option.getD_some] at H;obtain⟨x,hx⟩:∃x:Nat,x=(aI l)[k].toNat:=⟨_,rfl⟩;have a9:x<256:=by rw[hx];exact UInt8.toNat_lt _
  obtain⟨y,Z⟩:∃y:Nat,y=128>>>r:=⟨_,rfl⟩;have b0:y<256:=by rw[Z];exact GY (Nat.shiftRight_le _ _) (by decide)
  obtain⟨z,hz⟩:∃z:Nat,z=x|||y:=⟨_,rfl⟩;have b8:z<256:=by rw[hz];exact Nat.or_lt_two_pow (n:=8) a9 b0
  have m8:(128:Int)/2^r=(y:Int):=by
   have:=CE 128 r;rw[Z,Nat.shiftRight_eq_div_pow];exact this
  have m9:bits .or .u8 (x:Int) (y:Int)=(z:Int):=by rw[u8_or_nat _ _ a9 b0,hz]
  have b1:((eA z).toNat:Int)=(z:Int):=by rw[nD,jT (by omega)]
  rw[<-hx] at cg H;rw[<-Z,<-hz] at H;have a0:=a2 (eA z);rw[b1,<-H] at a0;obtain⟨n,hn⟩:∃n,n=(aI l).length:=⟨_,rfl⟩;have b9:k<n:=by omega
  rw[<-hn] at a0 V G O;have m1:aJ.wrap ((n:Int)-1)=(k:Int):=by rw[aM];omega
  have m2:(0:Int)<=(k:Int):=by omega
  have m3:(k:Int)<(n:Int):=by omega
  have m4:¬g=p:=by omega
  have c0:¬p=g:=by omega
  clear a2 O a3 a5 a6 hr M hx Z hz H b1 hn I;go_enter func154,ntmps154;go_upto_region 3 with fail;refine rF (S:=(fun w'=>w'.cell? ⟨p,0,none⟩=some (.slice (some ⟨g,0,none⟩) n c)/\w'.cell? ⟨p,1,none⟩=some (.int .i64 (l.length:Int))/\w'.frozen? ⟨g,k,none⟩=false)) (by kernel_rfl) (show WrR p g k _ _ w.drew from⟨V,k1,U⟩) (fun c1=>?_)
  iterate 11
   refine fV 0 0 (by simp only[dB,aU,aV,cV,dC]<;>rfl) (by simp only[gA,gH,gB];rfl) (by kernel_rfl) (by exact fun _ _ _ h=>h) (by first|exact gI ⟨by rfl,rfl⟩|(refine gJ ⟨by rfl,?_⟩;intro w' J;(try dsimp only at J);(try go_simp);try with_reducible rfl)) (by assumption) ?_
   try simp only[bJ,bK,bH,bB]
  iterate 6
   refine fV 1 0 (by simp only[dB,aU,aV,cV,dC]<;>rfl) (by simp only[gA,gH,gB];rfl) (by kernel_rfl) (by exact fun _ _ _ h=>h) (by first|exact gI ⟨by rfl,rfl⟩|(refine gJ ⟨by rfl,?_⟩;intro w' J;(try dsimp only at J);(try go_simp);try with_reducible rfl)) (by assumption) ?_
   try simp only[bJ,bK,bH,bB]
  refine dJ (i:=11) (by kernel_rfl) rfl (fun K L=>?_);have c2:w.drew.cell? ⟨g,k,none⟩=some (.int .u8 (x:Int)):=cg;go_simp;refine L.out _ _ (show WrR p g k _ _ w.drew from⟨V,k1,U⟩) (fun c3=>?_);clear L K
  try simp only[bJ,bK,bH,bB]
  iterate 2
   refine fV 0 0 (by simp only[dB,aU,aV,cV,dC]<;>rfl) (by simp only[gA,gH,gB];rfl) (by kernel_rfl) (by exact fun _ _ _ h=>h) (by first|exact gI ⟨by rfl,rfl⟩|(refine gJ ⟨by rfl,?_⟩;intro w' J;(try dsimp only at J);(try go_simp);try with_reducible rfl)) (by assumption) ?_
   try simp only[bJ,bK,bH,bB]
  refine dJ (i:=20) (by kernel_rfl) rfl (fun K L=>?_);go_simp;have b3:OwB (w.setCell ⟨g,k,none⟩ (.int .u8 (z:Int))).drew B (.slice (some ⟨g,0,none⟩) n c) (aI (l++[true])):=a0;have a1:Arr (w.setCell ⟨g,k,none⟩ (.int .u8 (z:Int))).drew p 210 [.slice (some ⟨g,0,none⟩) n c,.int .i64 (l.length:Int)]:=Arr.other (w:=w) G ⟨g,k,none⟩ m4 _;have b4:Below p w (w.setCell ⟨g,k,none⟩ (.int .u8 (z:Int))).drew:=((aH p w).setCell (p:=⟨g,k,none⟩) (by show p<=g;omega) _).drew;have j0:=a1.cell (i:=0) rfl;have j1:=a1.cell (i:=1) rfl
  have j3:((w.setCell ⟨g,k,none⟩ (.int .u8 (z:Int))).drew).frozen? ⟨g,k,none⟩=false:=by simpa using U
  have c4:=a1.free 1;clear a0 G cg U V k1 q0 q1;refine L.out _ _ (show WrR p g k _ _ _ from⟨j0,j1,j3⟩) (fun c5=>?_);clear L K;refine wpAnyH_done (by kernel_rfl) ?_ _;go_wp2_with fail
  go_end0
  refine⟨rfl,⟨.slice (some ⟨g,0,none⟩) n c,?_,?_⟩,b4.setCell (p:=⟨p,1,none⟩) (aD _) _,fun d A F=>(F.other ⟨g,k,none⟩ (b2 d A F) _).other ⟨p,1,none⟩ (a8 d A F) _⟩
  ·rw[a7];exact a1.set 1 _
  ·exact b3.setLow (p:=⟨p,1,none⟩) hp _
theorem aEh (p B:Nat) (l:List Bool) (b:Bool) (w:World) (h:WrS w p B l) (d:p<B) (A:B<=w.heap.size) (F:l.length<=1000000):
  Calls pG 154 #[.pointer (some ⟨p,0,none⟩),.bool b] w fun e w'=>e=.returned (.tuple #[])/\WrS w' p B (l++[b])/\Below p w w'/\rR w w':=by grind [aV9,aWb,WrS,rR]
theorem SW (v j:Nat) (d:v<18446744073709551616):bits .and .u64 ((v:Int)/2^j) 1=((v.testBit j).toNat:Int):=by
 rw[CE,show(1:Int)=((1:Nat):Int) from rfl,u64_and_nat _ _ (GY (Nat.div_le_self _ _) d) (by decide),nat_mask1,aEa]
theorem aWc (p B:Nat) (l:List Bool) (v n:Nat) (w:World) (h:WrS w p B l) (hp:p<B) (hB:B<=w.heap.size) (hl:l.length+n<=1000000) (hv:v<18446744073709551616) (hn:n<=64):
  Calls pG 95 #[.pointer (some ⟨p,0,none⟩),.int .u64 (v:Int),.int .i64 (n:Int)] w fun e w'=>e=.returned (.tuple #[])/\WrS w' p B (l++aT v n)/\Below p w w'/\rR w w':=by
 have n1:decide ((n:Int)<0)=false:=aE (by omega);have n2:decide ((n:Int)>64)=false:=aE (by omega);have n3:decide (64<(n:Int))=false:=aE (by omega);have m1:aJ.wrap ((n:Int)-1)=(n:Int)-1:=by rw[aM];omega
 go_enter func95,ntmps95;go_wp2_with fail
 go_loopg [6] n (fun g s6 wr=>∃k:Nat,k<=n/\g=n-k/\s6=.int .i64 ((n:Int)-1-(k:Int))/\WrS wr p B (l++(aT v n).take k)/\Below p w wr/\rR w wr)
 case atStart=>exact⟨0,aO _,rfl,by go_num,by rw[List.take_zero,List.append_nil];exact h,aH _ _,fun _ _ hx=>hx⟩
 case round=>
  obtain⟨k,hk,G,rfl,I,H,J⟩:=hrel;have Z:=hid G;clear G
  by_cases a2:k<n
  ·obtain⟨j,d⟩:∃j:Nat,j=n-1-k:=⟨_,rfl⟩;have ej:(n:Int)-1-(k:Int)=(j:Int):=by omega
   have t1:decide ((j:Int)>=0)=true:=aG (by omega);have t2:decide (0<=(j:Int))=true:=aG (by omega);have e7:min j 64=j:=by omega
   have a3:(l++(aT v n).take k).length<=1000000:=by rw[List.length_append,aQ,dV];omega
   have a4:=H.size;have HS:=hid (aEb v n k a2);have e4:=SW v j hv;rw[ej];have HJ:=hid d;clear d ej;obtain⟨b,L⟩:∃b,b=v.testBit j:=⟨_,rfl⟩;have a0:=hid L;rw[<-L] at e4;clear L;have a1:=aEh p B _ b wr I hp (by omega) a3
   cases b with
   |true=>
    go_wp2_with fail;refine a1.mono ?_;rintro e w1 ⟨rfl,M,O,U⟩;go_wp2_with fail;have G:=Z.out;have d:=HJ.out
    go_roundg (n-(k+1))
    case measure=>omega
    case rel=>exact⟨k+1,by omega,rfl,by go_num,by rw[HS.out,<-bU,<-d,<-a0.out];exact M,H.trans O,fun A F V=>U A F (J A F V)⟩
   |false=>
    go_wp2_with fail;refine a1.mono ?_;rintro e w1 ⟨rfl,M,O,U⟩;go_wp2_with fail;have G:=Z.out;have d:=HJ.out
    go_roundg (n-(k+1))
    case measure=>omega
    case rel=>exact⟨k+1,by omega,rfl,by go_num,by rw[HS.out,<-bU,<-d,<-a0.out];exact M,H.trans O,fun A F V=>U A F (J A F V)⟩
  ·have t1:decide ((n:Int)-1-(k:Int)>=0)=false:=aE (by omega);have t2:decide (0<=(n:Int)-1-(k:Int))=false:=aE (by omega);rw[cD (by rw[dV];omega)] at I;go_wp2_with fail
   go_end0
   exact⟨rfl,I,H,J⟩
theorem LR {x:Int} (d: -9223372036854775808<=x) (A:x<=9223372036854775807):wrap64 x=x:=by unfold wrap64;omega
theorem SX {x:Int} (d: -9223372036854775808<=x) (A:x<=9223372036854775807):aJ.wrap x=x:=by rw[aM];omega
theorem aWd (l:List Bool) (w:World) (V:l.length<=1000000):
  Calls pG 153 #[.agg #[.string (mkS (aI l)),.int .i64 (l.length:Int)]] w fun e w'=>e=.returned (.bool true)/\Below w.heap.size w w':=by
 obtain⟨s,A⟩:∃s,s=mkS (aI l):=⟨_,rfl⟩;have L:s.size=(l.length+7)/8:=by rw[A,cS,iJ]
 have M:s.data.toList=aI l:=by rw[A,dP]
 rw[<-A];clear A;have O:=hid (fun i (_:l.length<=i)=>show dO s.data.toList i=false by rw[M,tR,bV,fZ (by omega)];rfl);clear M;obtain⟨n,U⟩:∃n,n=l.length:=⟨_,rfl⟩;rw[<-U] at V L O ⊢;clear U;obtain⟨q,Z⟩:∃q,q=n/8:=⟨_,rfl⟩;obtain⟨r,hr⟩:∃r,r=n%8:=⟨_,rfl⟩;obtain⟨m,hm⟩:∃m,m=min r 1:=⟨_,rfl⟩;have a0:q+m=s.size:=by omega
 have n1:decide ((n:Int)<0)=false:=aE (by omega);have e1:(n:Int).tdiv 8=(q:Int):=by rw[IK (by omega)];omega
 have e2:(n:Int).tmod 8=(r:Int):=by rw[mL (by omega)];omega
 have e3:min (r:Int) 1=(m:Int):=by omega
 have a1:(if(1:Int)<(r:Int) then(1:Int) else(r:Int))=(m:Int):=by split<;>omega
 have a2:n<=8*s.size:=by omega
 have a7:s.size<=125001:=by omega
 have a3:q<=125001:=by omega
 clear Z hr hm L;have G:(q:Int)+(m:Int)=(s.size:Int):=by omega
 have b2:(s.size:Int)<=125001:=by omega
 have b3:(q:Int)<=125001:=by omega
 have d:aJ.wrap ((q:Int)+(m:Int))=(s.size:Int):=by rw[G];exact SX (by omega) (by omega)
 have F:aJ.wrap (8*(s.size:Int))=8*(s.size:Int):=SX (by clear d;omega) (by clear d;omega);have H:wrap64 (q:Int)=(q:Int):=LR (by clear d F;omega) (by clear d F;omega);have f2:wrap64 ((q:Int)+(m:Int))=(s.size:Int):=by rw[G];exact LR (by clear d F H;omega) (by clear d F H;omega)
 clear G b2 b3 a3;clear a0;go_enter func153,ntmps153;go_wp2_with fail;clear H f2 d e1 e2 e3 a1;have I:=Arr.new w 79 [.string s,.int .i64 (n:Int)];have a4:Below w.heap.size w (w.alloc (.cells #[.string s,.int .i64 (n:Int)] 79)):=bD (aH _ _) _;change Arr (w.alloc (.cells #[.string s,.int .i64 (n:Int)] 79)) _ _ _ at I;generalize w.alloc (.cells #[.string s,.int .i64 (n:Int)] 79)=w0 at*
 go_loopg [3] (8*s.size-n) (fun g s3 wr=>∃k:Nat,n<=k/\k<=8*s.size/\g=8*s.size-k/\s3=.int .i64 (k:Int)/\wr=w0)
 case atStart=>exact⟨n,by omega,a2,rfl,rfl,rfl⟩
 case round=>
  obtain⟨k,a5,hk,J,rfl,rfl⟩:=hrel;have HG:=hid J;clear J;have c0:=I.cell (i:=0) rfl;have c1:=I.cell (i:=1) rfl
  by_cases a6:k<8*s.size
  ·have t1:decide ((k:Int)<8*(s.size:Int))=true:=aG (by omega);go_wp2_with fail;refine(SV s k _ a6 (by omega)).mono ?_;rintro e w1 ⟨rfl,rfl⟩;rw[O.out k a5];have z:((xU false:Nat):Int)=0:=rfl;rw[z];go_wp2_with fail;have J:=HG.out
   go_roundg (8*s.size-(k+1))
   case measure=>omega
   case rel=>exact⟨k+1,by omega,by omega,rfl,by go_num,rfl⟩
  ·have t1:decide ((k:Int)<8*(s.size:Int))=false:=aE (by omega);go_wp2_with fail;go_ret;exact⟨rfl,a4⟩
end
end Go.Proofs.YtihbnmlinkbnkaaGreatDoor
