/-
  Texts put together (part 28): the walks and the plain laws on which the statement stands.
-/
import Derived.Test.YtiifmcicleljjaaGreatDoorZ20
import Derived.Test.YtiifmcicleljjaaGreatDoorZ26
import Derived.Test.YtiifmcicleljjaaGreatDoorZ27
set_option maxRecDepth 100000
set_option maxHeartbeats 12800000
open Go renaming bodyPost_ret->gJ
open Go.IntKind renaming i64->aI,u8->pX,wrap_i64->aM
open Go.RowKit.Below renaming refl->aB
open Go.World renaming size_alloc->fV
open List renaming append_assoc->cF,append_nil->eE,length_append->aL,length_take->aX,mem_of_getElem?->cH,replicate->bB,take_add_one->cQ,take_of_length_le->cS
open Nat renaming le_refl->aA,zero_le->aU
open Option renaming toList_some->mX
open Option.some renaming inj->bW
open UInt8 renaming ofNat->eK
namespace Go.Proofs.YtiifmcicleljjaaGreatDoor
section
open Go.RowKit
theorem aIi (a:ByteArray) (i:Nat):a.extract i (i+1)++a.extract 0 i++a.extract (i+1) a.size=mkS (eF a.data.toList i):=by
 rw[nT,nT,nT,pM,pM];unfold eF;rw[List.drop_zero,Nat.sub_zero,show i+1-i=1 by omega,cS (l:=a.data.toList.drop (i+1)) (by rw[List.length_drop];simp)]
theorem TI (a:ByteArray) (b:UInt8) (w:World) (hs:a.size<=1000000000) (hm:b∈a.data.toList):
  Calls Tryz.prog 199 #[.string a,.int .u8 (b.toNat:Int)] w fun e w'=>e=.returned (.int .i64 ((plc a.data.toList b:Nat):Int))/\w'=w:=by
 have hl:a.data.toList.length=a.size:=by simp
 have hp:=rG hm;rw[hl] at hp;obtain⟨p,hpp⟩:∃p,p=plc a.data.toList b:=⟨_,rfl⟩;rw[<-hpp] at hp ⊢;have HPP:=hid hpp;have HL:=hid hl;have hb:=b.toNat_lt;clear hl hpp;go_enter Tryz.func199,Tryz.ntmps199;go_wp2_with fail
 go_loopg [5] p (fun gh s5 wr=>∃k:Nat,k<=p/\gh=p-k/\s5=.int .i64 k/\w=wr)
 case atStart=>exact⟨0,aU _,rfl,rfl,rfl⟩
 case round=>
 obtain⟨k,hk,hg,rfl,rfl⟩:=hrel;have HG:=hid hg;clear hg;have hka:k<a.size:=by omega
 have hbk:=a[k].toNat_lt
 by_cases hkp:k<p
 ·have hne:a[k].toNat≠b.toNat:=by
   have h1:=PL (a:=a.data.toList) (c:=b) (i:=k) (by rw[<-HPP.out];exact hkp) (by rw[HL.out];exact hka);intro e;exact h1 (UInt8.toNat_inj.1 e)
  have t1:((a[k].toNat:Int)==(b.toNat:Int))=false:=by rw[beq_eq_false_iff_ne];omega
  have t2:¬((a[k].toNat:Int)=(b.toNat:Int)):=by omega
  go_wp2_with fail;have hg:=HG.out
  go_roundg (p-(k+1))
  case measure=>omega
  case rel=>exact⟨k+1,by omega,rfl,by go_num,rfl⟩
 ·obtain rfl:p=k:=by omega
  have he:a[p]=b:=by
   have h1:=BU hm;rw[<-HPP.out] at h1;rw[eW a p hka] at h1;exact bW h1
  have t1:((a[p].toNat:Int)==(b.toNat:Int))=true:=by rw[beq_iff_eq,he]
  clear he;go_wp2_with fail;go_ret;exact⟨rfl,rfl⟩
theorem TJ (a:ByteArray) (w:World) (hs:a.size<=1000000000) (hn:a.data.toList.Nodup):
  Calls Tryz.prog 181 #[.string a] w fun e w'=>e=.returned (.bool true)/\w'=w:=by
 have HN:=hid hn;clear hn;go_enter Tryz.func181,Tryz.ntmps181;go_wp2_with fail
 go_loopg [3] a.size (fun gh s3 wr=>∃k:Nat,k<=a.size/\gh=a.size-k/\s3=.int .i64 k/\w=wr)
 case atStart=>exact⟨0,aU _,rfl,rfl,rfl⟩
 case round=>
 obtain⟨k,hk,hg,rfl,rfl⟩:=hrel;have HG:=hid hg;clear hg
 by_cases hka:k<a.size
 ·have hp:=hid (show plc a.data.toList a[k]=k from IL (a:=a.data.toList) HN.out (i:=k) (by simpa using hka));have hm:a[k]∈a.data.toList:=cH (eW a k hka);have t1:decide ((k:Int)<(k:Int))=false:=decide_eq_false (by omega);go_wp2_with fail;refine(TI a a[k] _ hs hm).mono ?_;rintro e w1 ⟨rfl,rfl⟩;rw[hp.out];go_wp2_with fail;have hg:=HG.out
  go_roundg (a.size-(k+1))
  case measure=>omega
  case rel=>exact⟨k+1,by omega,rfl,by go_num,rfl⟩
 ·go_wp2_with fail;go_ret;exact⟨rfl,rfl⟩
theorem TK (a:ByteArray) (i:Nat) (w:World) (hs:a.size<=1000000000) (hi:i<a.size):
  Calls Tryz.prog 182 #[.string a,.int .i64 (i:Int)] w fun e w'=>e=.returned (.string (mkS (eF a.data.toList i)))/\Below w.heap.size w w':=by
 have e:=aIi a i;have HE:=hid e;clear e;have hle:i<=a.size:=by omega
 have hle2:i+1<=a.size:=by omega
 go_enter Tryz.func182,Tryz.ntmps182;go_wp2
 go_quiet (fail)
 go_wp2;go_ret;exact⟨tY HE.out,iI (aB _ _) _⟩
theorem TL (a s:ByteArray) (w:World) (ha:a.size<=1000) (hs:s.size<=1000000) (hn:a.data.toList.Nodup) (hsub:∀b∈s.data.toList,b∈a.data.toList):
  Calls Tryz.prog 99 #[.string a,.string s] w fun e w'=>∃v,e=.returned (.tuple #[v,.int .i64 0])/\OwI w' w.heap.size v (cM a.data.toList s.data.toList)/\Below w.heap.size w w':=by
 have htold:Calls Tryz.prog 155 #[.string a,.string s] w fun e w'=>∃v u,e=.returned (.tuple #[v,u,.int .i64 0])/\OwI w' w.heap.size v (cM a.data.toList s.data.toList)/\Below w.heap.size w w':=by
  have HN:=hid hn;have HSUB:=hid hsub;have hl:s.data.toList.length=s.size:=by simp
  have hla:a.data.toList.length=a.size:=by simp
  have HL:=hid hl;have HLA:=hid hla;clear hn hsub hl hla;go_enter Tryz.func155,Tryz.ntmps155;go_wp2_with fail;refine(TJ a _ (by omega) HN.out).mono ?_;rintro e w1 ⟨rfl,rfl⟩;go_wp2_with fail
  go_loopg [8,9,10,11] s.size (fun gh s8 s9 s10 _s11 wr=>∃k:Nat,k<=s.size/\gh=s.size-k/\s10=.int .i64 k/\s8=.string (mkS (eB a.data.toList (s.data.toList.take k)))/\OwI wr w1.heap.size s9 (cM a.data.toList (s.data.toList.take k))/\Below w1.heap.size w1 wr)
  case atStart=>exact⟨0,aU _,rfl,rfl,by simp[eB,pL],OwI.nil _ _,aB _ _⟩
  case round=>
  obtain⟨k,hk,hg,rfl,rfl,hown,hbel⟩:=hrel;have HG:=hid hg;clear hg
  by_cases hlt:k<s.size
  ·obtain⟨A,hA⟩:∃A,A=mkS (eB a.data.toList (s.data.toList.take k)):=⟨_,rfl⟩;have hAl:A.data.toList=eB a.data.toList (s.data.toList.take k):=by rw[hA];rfl
   have hperm:=BV (s.data.toList.take k) a.data.toList;rw[<-hAl] at hperm;have hAs:A.size=a.size:=by
    have:=hperm.length_eq
    simpa using this
   have hmem:s[k]∈A.data.toList:=hperm.mem_iff.2 (HSUB.out _ (cH (eW s k hlt)));have e1:=hid (show cM a.data.toList (s.data.toList.take (k+1))=cM a.data.toList (s.data.toList.take k)++[((plc A.data.toList s[k]:Nat):Int)] by
    rw[cQ,eW s k hlt,mX,BW,<-hAl])
   have e2:=hid (show eB a.data.toList (s.data.toList.take (k+1))=eF A.data.toList (plc A.data.toList s[k]) by
    rw[cQ,eW s k hlt,mX,IM,<-hAl])
   have hll:=hid (show(cM a.data.toList (s.data.toList.take k)).length=k by rw[rH,aX,HL.out];omega);rw[<-hA];have hp:=rG hmem;rw[show A.data.toList.length=A.size by simp] at hp;obtain⟨p,hpp⟩:∃p,p=plc A.data.toList s[k]:=⟨_,rfl⟩;rw[<-hpp] at hp e1 e2;have HPP:=hid hpp;have hA1000:A.size<=1000:=by omega
   have hbs:=hbel.size;have hb:=s[k].toNat_lt;clear hA hAl hperm hAs hpp;go_wp2_with fail;refine(TI A s[k] _ (by omega) hmem).mono ?_;rintro e w2 ⟨rfl,rfl⟩;rw[<-HPP.out];go_wp2_with (at_builtin;refine eN rfl _ _ rfl w1.heap.size _ _ rfl (hown.alloc _) w2.heap.size (p:Int) rfl ?_ ?_ ?_ ?_;(exact bS _ _ _);(rw[hll.out];omega);(simp;omega);intro v' w3 hown' hB hgrow);refine(TK A p _ (by omega) hp).mono ?_;rintro e w4 ⟨rfl,h4⟩;rw[<-e2.out];go_wp2_with fail;have hg:=HG.out
   go_roundg (s.size-(k+1))
   case measure=>omega
   case rel=>exact⟨k+1,by omega,rfl,by go_num,rfl,by rw[e1.out];exact hown'.below h4 (aA _),((hbel.alloc hbs _).trans hB).trans (h4.mono (by have:=hB.size;simp at this;omega))⟩
  ·have hke:k=s.size:=by omega
   go_wp2_with fail
   go_ret3
   rw[cS (by rw[HL.out];omega)] at hown;exact⟨_,_,rfl,hown,hbel⟩
 have HT:=hid htold;clear htold hn hsub;go_enter Tryz.func99,Tryz.ntmps99;go_wp2_with fail;refine HT.out.mono ?_;rintro e w1 ⟨v,u,rfl,hown,hb⟩;go_wp2_with fail
 go_ret2
 exact⟨_,rfl,hown,hb⟩
end
section
open Go.RowKit Go Go.Shelf
theorem TN (t:Nat) (w:World) (ht1:2<=t) (ht2:t<=6):
  Calls Tryz.prog 108 #[.int .i64 (t:Int)] w fun e w'=>e=.returned (.string (mkS (cC t)))/\w'=w:=by
 obtain rfl|rfl|rfl|rfl|rfl:t=2\/t=3\/t=4\/t=5\/t=6:=by omega
 all_goals
  go_enter Tryz.func108,Tryz.ntmps108;go_wp2_with fail;go_ret;exact⟨by kernel_rfl,rfl⟩
theorem aI2 {l:List Int} {k:Nat} {x:Int} (h:l[k]? =some x):dE (l.take (k+1))=dE (l.take k)++(bB x.toNat true++[false]):=by
 rw[cQ,h];exact KB _ _
theorem aI3 (v:Value) (l:List Int) (w:World) (hr:RdI w v l) (hl:l.length<=20000) (hx:∀x∈l,x=0\/x=1):
  Calls Tryz.prog 45 #[v,.int .i64 2] w fun e w'=>e=.returned (.tuple #[eL (dE (dO l)),.int .i64 0])/\Below w.heap.size w w':=by
 have HX:=hid hx;have HPB:=hid (yW hx);have HPM:=hid (DN hx);have HPL:=hid (uU l);clear hx;have hA0:=Arr.new w 29 [.string ⟨#[]⟩,.int .i64 0];have hs0:(w.alloc (.cells #[.string ⟨#[]⟩,.int .i64 0] 29)).heap.size=w.heap.size+1:=by simp
 have hb0:Below w.heap.size w (w.alloc (.cells #[.string ⟨#[]⟩,.int .i64 0] 29)):=bD (aB _ _) _;change Arr (w.alloc (.cells #[.string ⟨#[]⟩,.int .i64 0] 29)) _ _ _ at hA0;have hr1:=hr.below hb0;obtain⟨a,ca,rfl,hca,hma,hA⟩:=hr1.open;unfold maxLen at hma;clear hr hr1;go_enter Tryz.func45,Tryz.ntmps45;go_wp2_with fail;generalize w.alloc (.cells #[.string ⟨#[]⟩,.int .i64 0] 29)=w0 at*
 go_loopg [6,7] l.length (fun g s6 s7 wr=>∃(k:Nat) (v6:Value),k<=l.length/\g=l.length-k/\v6=s6/\s7=.int .i64 (k:Int)/\OwB wr (w.heap.size+1) v6 ((l.take k).map dV)/\Below (w.heap.size+1) w0 wr)
 case atStart=>exact⟨0,_,aU _,rfl,rfl,rfl,Ow.nil _ _ _,aB _ _⟩
 case round=>
  obtain⟨k,v6,hk,hg,rfl,rfl,ho,hbel⟩:=hrel;have HG:=hid hg;clear hg;have hsz:=hbel.size;have hlen:((l.take k).map dV).length=k:=by rw[List.length_map,aX];omega
  by_cases hlt:k<l.length
  ·have u1:decide ((k:Int)<(l.length:Int))=true:=decide_eq_true (by omega);obtain⟨b1,o1,rfl,hb1,hc1⟩:=hA (by omega);obtain⟨x,hx⟩:=dH hlt;have c1:=(hbel.cell (p:=⟨b1,o1+k,none⟩) (by show b1<w.heap.size+1;omega)).trans (hc1 k x hx);have hxx:=HX.out x (cH hx);have HT:=hid (show(l.take (k+1)).map dV=(l.take k).map dV++[dV x] by rw[cQ,hx,List.map_append];rfl);have e1:((dV x).toNat:Int)=x:=by rcases hxx with rfl|rfl<;>rfl
   have v1:decide (x<0)=false:=decide_eq_false (by omega);have v2:decide (x>=2)=false:=decide_eq_false (by omega);have v3:decide (2<=x)=false:=decide_eq_false (by omega);have m1:pX.wrap x=x:=by rw[IntKind.wrap_u8];omega
   have m2:x%256=x:=by omega
   have e2:=hid e1;clear hc1 hA hx hxx e1;go_wp2_with (at_builtin;refine IX rfl _ _ rfl (w.heap.size+1) _ _ rfl (Ow.alloc ho _) wr.heap.size (dV x) rfl ?_ ?_ ?_ ?_;(rw[e2.out];exact bS _ _ _);(omega);(simp;omega);intro v' w3 r1 r2 r3);have hg:=HG.out
   go_roundg (l.length-(k+1))
   case measure=>omega
   case rel=>exact⟨k+1,_,by omega,rfl,rfl,by go_num,by rw[HT.out];exact r1,(hbel.alloc (by omega) _).trans r2⟩
  ·have u1:decide ((k:Int)<(l.length:Int))=false:=decide_eq_false (by omega);have hke:k=l.length:=by omega
   subst hke;rw[cS (aA _)] at ho hlen;obtain⟨D,hD⟩:∃D,D=l.map dV:=⟨_,rfl⟩;rw[<-hD] at ho hlen HPM;have HD:=hid hD;clear hD hA;have hcv:(convert 45 9 v6).run Tryz.prog wr=.ok (.string (mkS D)) wr:=lQ ho.rd;have hcv2:(convert 45 9 v6).run Tryz.prog wr.drew=.ok (.string (mkS D)) wr.drew:=lQ (w:=wr.drew) (OwB.rd (w:=wr.drew) ho);have hal:∀W,Calls Tryz.prog 108 #[.int .i64 2] W fun e w'=>e=.returned (.string (mkS (cC 2)))/\w'=W:=fun W=>TN 2 W (by decide) (by decide)
   have hfr:=fun W=>TL (mkS (cC 2)) (mkS D) W (by simp[cC]) (by rw[cP];omega) (by decide) HPM.out
   have HEQ:=hid (show cM (mkS (cC 2)).data.toList (mkS D).data.toList=dO l by rw[fW,fW,HD.out];rfl);rw[HEQ.out] at hfr;go_upto_region 10 with fail
   go_cut [8,9] (fun c8 _c9 wx=>∃v8,v8=c8/\OwI wx wr.heap.size v8 (dO l)/\Below wr.heap.size wr wx)
   case first=>
    go_region_with (first|(go_at_call 108;refine(hal _).mono ?_;rintro e w3 ⟨rfl,rfl⟩)|(go_at_call 99;refine(hfr _).mono ?_;rintro e w3 ⟨v8,rfl,ho8,hb8⟩))
    all_goals
     go_wp2_with fail;go_meet;exact⟨v8,rfl,ho8,(aB wr.heap.size wr).drew.trans hb8⟩
   case rest=>
    obtain⟨v8,rfl,ho8,hb8⟩:=hcut;have hA1:=(hA0.below hbel (by omega)).below hb8 (by omega);have hB1:Below w.heap.size w wc:=(hb0.trans (hbel.mono (by omega))).trans (hb8.mono (by omega));have hszc:=hb8.size;obtain⟨P,hP⟩:∃P,P=dO l:=⟨_,rfl⟩;rw[<-hP] at HPB HPL ho8;have HP:=hid hP;have hPl:P.length<=20000:=by have:=HPL.out;omega
    obtain⟨a8,c8,rfl,hn8,hm8,hA8⟩:=(OwI.rd ho8).open;unfold maxLen at hm8;obtain⟨Bc,hBc⟩:∃Bc,Bc=wc.heap.size:=⟨_,rfl⟩;rw[<-hBc] at hszc hA8;clear hP hbel hb8 ho hA0 hb0 hcv hcv2 hal hfr ho8;go_wp2_with fail
    go_loopg [10,11,12] P.length (fun g s10 s11 _s12 wx=>∃i:Nat,i<=P.length/\g=P.length-i/\s11=.int .i64 (i:Int)/\OwI wx Bc s10 (bI (dE (P.take i)))/\Below Bc wc wx/\Bc<=wx.heap.size)
    case atStart=>exact⟨0,aU _,rfl,rfl,by simp only[List.take_zero];exact OwI.nil _ _,aB _ _,by omega⟩
    case round=>
     obtain⟨i,hi,hg,rfl,ho,hbx,hszx⟩:=hrel;have HG2:=hid hg;clear hg HG;have hDl:=wL (P.take i) 2 (fun x hx=>HPB.out x (List.mem_of_mem_take hx));rw[aX,Nat.min_eq_left hi] at hDl;obtain⟨D2,hD2⟩:∃D2,D2=dE (P.take i):=⟨_,rfl⟩;rw[<-hD2] at ho hDl;have HD2:=hid hD2;clear hD2
     by_cases hlt2:i<P.length
     ·have u2:decide ((i:Int)<(P.length:Int))=true:=decide_eq_true (by omega);obtain⟨b8,o8,rfl,hb8,hc8⟩:=hA8 (by omega);obtain⟨x,hx⟩:=dH hlt2;have c1:=(hbx.cell (p:=⟨b8,o8+i,none⟩) hb8).trans (hc8 i x hx);have hxb:=HPB.out x (cH hx);have HT:=hid (show dE (P.take (i+1))=D2++(bB x.toNat true++[false]) by rw[HD2.out];exact aI2 hx);obtain⟨X,rfl⟩:∃X:Nat,x=(X:Int):=⟨x.toNat,by omega⟩;rw[Int.toNat_natCast] at HT;have hX2:X<2:=by omega
      have HC8:=hid (fun wz (h:Below Bc wc wz)=>(h.cell (p:=⟨b8,o8+i,none⟩) hb8).trans (hc8 i _ hx));clear hc8 hA8 hx hxb;go_wp2_with fail
      go_loopg [10,12] X (fun g s10 s12 wy=>∃c:Nat,c<=X/\g=X-c/\s12=.int .i64 (c:Int)/\OwI wy Bc s10 (bI (D2++bB c true))/\Below Bc wc wy/\Bc<=wy.heap.size)
      case atStart=>exact⟨0,aU _,rfl,rfl,by simpa using ho,hbx,hszx⟩
      case round=>
       clear ho c1 hbx hszx;obtain⟨c,hcc,hg,rfl,ho,hby,hszy⟩:=hrel;have HG3:=hid hg;clear hg;have c1:=HC8.out _ hby;have hol:(bI (D2++bB c true)).length<=50000:=by rw[cN,aL,List.length_replicate];omega
       by_cases hcx:c<X
       ·have u3:decide ((c:Int)<(X:Int))=true:=decide_eq_true (by omega);go_wp2_with (at_builtin;refine eN rfl _ _ rfl Bc _ _ rfl (OwI.alloc ho _) _ 1 rfl (bS _ _ _) ?_ ?_ ?_;(omega);(simp;omega);intro v3 w3 r1 r2 r3);have hg3:=HG3.out
        go_roundg (X-(c+1))
        case measure=>omega
        case rel=>
         refine⟨c+1,by omega,rfl,by go_num,?_,(hby.alloc (by omega) _).trans r2,?_⟩
         ·rw[List.replicate_succ',<-cF,gB];exact r1
         ·have:=r2.size;simp only[fV] at this;omega
       ·have u3:decide ((c:Int)<(X:Int))=false:=decide_eq_false (by omega);obtain rfl:c=X:=by omega
        go_wp2_with (at_builtin;refine eN rfl _ _ rfl Bc _ _ rfl (OwI.alloc ho _) _ 0 rfl (bS _ _ _) ?_ ?_ ?_;(omega);(simp;omega);intro v3 w3 r1 r2 r3);have hg2:=HG2.out
        go_roundg (P.length-(i+1))
        case measure=>omega
        case rel=>
         refine⟨i+1,by omega,rfl,by go_num,?_,(hby.alloc (by omega) _).trans r2,?_⟩
         ·rw[HT.out,<-cF,gB];exact r1
         ·have:=r2.size;simp only[fV] at this;omega
     ·have u2:decide ((i:Int)<(P.length:Int))=false:=decide_eq_false (by omega);have hie:i=P.length:=by omega
      subst hie;have HF:=hid (show D2=dE (dO l) by rw[HD2.out,List.take_length,HP.out]);have hA2:=hA1.below hbx (by omega);have hB2:Below w.heap.size w wr:=hB1.trans (hbx.mono (by omega));clear hA1 hB1 hA8;go_wp2_with fail;refine(uG _ D2 _ (OwI.rd ho) (by omega)).mono ?_;rintro e w6 ⟨rfl,hb6⟩;have hA6:=hA2.below hb6 (by omega);have hB6:Below w.heap.size w w6:=hB2.trans (hb6.mono (by omega));have d0:=hA6.cell (i:=0) rfl;have d1:=hA6.cell (i:=1) rfl;have f0:=hA6.free 0;have f1:=hA6.free 1;clear hb6 ho hA2 hB2;go_wp2_with fail
      have z0:Arr ((w6.setCell ⟨w.heap.size,0,none⟩ (.string (mkS (aD D2)))).setCell ⟨w.heap.size,1,none⟩ (.int .i64 (D2.length:Int))) w.heap.size 29 [.string (mkS (aD D2)),.int .i64 (D2.length:Int)]:=(hA6.set 0 _).set 1 _;refine gJ (qH rfl _ _ w.heap.size _ _ (0,0) _ rfl z0 Tryz.underlying29 rfl mF) rfl ?_;exact⟨by rw[<-HF.out];rfl,(hB6.setCell (p:=⟨w.heap.size,0,none⟩) (aA _) _).setCell (p:=⟨w.heap.size,1,none⟩) (aA _) _⟩
end
section
open Go.RowKit
theorem UU (s:ByteArray) (c:Nat) (w:World) (hs:s.size<=140737488355328) (_hc:c<256):
  Calls Tryz.prog 152 #[.string s,.int .i64 (c:Int)] w fun e w'=>e=.returned (.bool (dB s.data.toList c))/\w'=w:=by
 have HL:=hid (show s.data.toList.length=s.size by simp);go_enter Tryz.func152,Tryz.ntmps152;go_wp2_with fail
 go_loopg [5] s.size (fun gh s5 wr=>∃k:Nat,k<=s.size/\gh=s.size-k/\s5=.int .i64 k/\Hid (oT s.data.toList k c=false)/\w=wr)
 case atStart=>exact⟨0,aU _,rfl,rfl,hid rfl,rfl⟩
 case round=>
 obtain⟨k,hk,hg,rfl,HN,rfl⟩:=hrel;have HG:=hid hg;clear hg
 by_cases hlt:k<s.size
 ·have hb:=s[k].toNat_lt;have HS:=hid (UP s.data.toList k s[k] (eW s k hlt) c)
  by_cases he:s[k].toNat=c
  ·have t1:((s[k].toNat:Int)==(c:Int))=true:=by rw[beq_iff_eq];omega
   have HE:=hid he;clear he;go_wp2_with fail;go_ret;refine⟨sN ?_,rfl⟩;have hm:s[k]∈s.data.toList:=cH (eW s k hlt);rw[<-HE.out];exact((IJ s.data.toList s[k]).2 hm).symm
  ·have t1:((s[k].toNat:Int)==(c:Int))=false:=by rw[beq_eq_false_iff_ne];omega
   have HE:=hid he;clear he;go_wp2_with fail;have hg:=HG.out
   go_roundg (s.size-(k+1))
   case measure=>omega
   case rel=>
    refine⟨k+1,by omega,rfl,by go_num,hid ?_,rfl⟩;rw[HS.out,if_neg (fun e=>HE.out e.symm)];exact HN.out
 ·have hke:k=s.size:=by omega
  go_wp2_with fail;go_ret;refine⟨sN ?_,rfl⟩;have:=HN.out;unfold oT at this;rw[cS (by rw[HL.out];omega)] at this;exact this.symm
theorem KZ (s:ByteArray) (w:World) (hs:s.size<=140737488355328):
  Calls Tryz.prog 97 #[.string s] w fun e w'=>e=.returned (.string (mkS (bK s.data.toList)))/\Below w.heap.size w w':=by
 go_enter Tryz.func97,Tryz.ntmps97;go_wp2_with fail
 go_loopg [3,4] 256 (fun gh s3 s4 wr=>∃k:Nat,k<=256/\gh=256-k/\s4=.int .i64 k/\OwB wr w.heap.size s3 (jH s.data.toList k)/\Below w.heap.size w wr)
 case atStart=>exact⟨0,by omega,rfl,rfl,Ow.nil _ _ _,aB _ _⟩
 case round=>
 obtain⟨k,hk,hg,rfl,hown,hbel⟩:=hrel;have HG:=hid hg;clear hg
 by_cases hlt:k<256
 ·have t1:decide ((k:Int)<256)=true:=decide_eq_true (by omega);have t2:(k:Int)<256:=by omega
  have g2:pX.wrap (k:Int)=(k:Int):=by unfold IntKind.wrap;simp[IntKind.signed,IntKind.bits];omega
  have hlen:=PI s.data.toList k;have hbs:=hbel.size;have hsucc:=hid (IK s.data.toList k);have e1:((eK k).toNat:Int)=(k:Int):=by rw[UT hlt]
  go_wp2_with fail;refine(UU s k _ hs hlt).mono ?_;rintro e w1 ⟨rfl,rfl⟩
  by_cases hh:dB s.data.toList k=true
  ·rw[hh];have HH:=hid hh;clear hh;go_wp2_with (at_builtin;refine yZ rfl _ _ rfl w.heap.size _ _ rfl (hown.alloc _) w1.heap.size (eK k) rfl ?_ ?_ ?_ ?_;(rw[e1];exact bS _ _ _);omega;(simp;omega);intro v' w3 hown' hB hgrow);have hg:=HG.out
   go_roundg (256-(k+1))
   case measure=>omega
   case rel=>
    refine⟨k+1,by omega,rfl,by go_num,?_,(hbel.alloc hbs _).trans hB⟩;have:=hsucc.out;rw[if_pos HH.out] at this;rw[this];exact hown'
  ·have hf:dB s.data.toList k=false:=by simpa using hh
   rw[hf];have HH:=hid hf;clear hh hf;go_wp2_with fail;have hg:=HG.out
   go_roundg (256-(k+1))
   case measure=>omega
   case rel=>
    refine⟨k+1,by omega,rfl,by go_num,?_,hbel⟩;have:=hsucc.out;rw[if_neg (by rw[HH.out];exact Bool.false_ne_true),eE] at this;rw[this];exact hown
 ·have hke:k=256:=by omega
  subst hke;have hcv:=lQ hown.rd;have HE:=hid (show jH s.data.toList 256=bK s.data.toList from rfl);go_wp2_with fail;go_ret;exact⟨tY (by rw[HE.out]),hbel⟩
end
section
open Go.RowKit Go Go.Shelf
theorem VE (l:List Bool) (b:Bool):(l++[b]).any id=(l.any id||b):=by simp
theorem aJo (s:ByteArray) (k:Nat) (w:World) (hs:s.size<=140737488355328) (hk:k<16):
  Calls Tryz.prog 107 #[.string s,.int .i64 (k:Int)] w fun e w'=>∃v,e=.returned (.tuple #[v,.bool (iT s.data.toList k)])/\OwI w' w.heap.size v (bI (eQ s.data.toList k))/\Below w.heap.size w w':=by
 obtain⟨q,hq⟩:∃q,q=16*k:=⟨_,rfl⟩;have m1:aI.wrap (16*(k:Int))=(q:Int):=by rw[aM];omega
 have m1':16*(k:Int)=(q:Int):=by omega
 obtain⟨q2,hq2⟩:∃q2,q2=q+16:=⟨_,rfl⟩;have m2:aI.wrap ((q:Int)+16)=(q2:Int):=by rw[aM];omega
 have m2':(q:Int)+16=(q2:Int):=by omega
 have HQ:=hid hq;have HQ2:=hid hq2;have hq256:q2<=256:=by omega
 have hqq:q2=q+16:=hq2;have HQQ:=hid hqq;clear hq hq2 hqq;go_enter Tryz.func107,Tryz.ntmps107;go_wp2_with fail
 go_loopg [6,7,8,9] 16 (fun g s6 s7 s8 _s9 wr=>∃(j c:Nat) (T:Bool),j<=16/\g=16-j/\s8=.int .i64 (c:Int)/\s7=.bool T/\Hid (c=q+j)/\Hid (T=(oU s.data.toList k j).any id)/\OwI wr w.heap.size s6 (bI (oU s.data.toList k j))/\Below w.heap.size w wr)
 case atStart=>exact⟨0,q,false,by omega,rfl,rfl,rfl,hid rfl,hid rfl,OwI.nil _ _,aB _ _⟩
 case round=>
  obtain⟨j,c,T,hj,hg,rfl,rfl,HC,HT,hown,hbel⟩:=hrel;have HG:=hid hg;clear hg;have hc:=HC.out;have hqq:=HQQ.out
  by_cases hlt:j<16
  ·have t1:decide ((c:Int)<(q2:Int))=true:=decide_eq_true (by omega);have t2:decide (c<q2)=true:=decide_eq_true (by omega);have hc256:c<256:=by omega
   have hlen:(bI (oU s.data.toList k j)).length=j:=by rw[cN,VD]
   have hcall:=fun W=>UU s c W hs hc256
   have hbs:=hbel.size;have HS:=hid (VC s.data.toList k j);obtain⟨h,hh⟩:∃h,h=dB s.data.toList c:=⟨_,rfl⟩;rw[<-hh] at hcall;have HH:=hid (show dB s.data.toList (16*k+j)=h by rw[hh,hc,HQ.out]);have hcc:aI.wrap ((c:Int)+1)=((c+1:Nat):Int):=by rw[aM];omega
   clear hh hc hqq;go_wp2_with fail;refine(hcall _).mono ?_;rintro e w1 ⟨rfl,rfl⟩
   cases h with
   |true=>
    go_wp2_with (at_builtin;refine eN rfl _ _ rfl w.heap.size _ _ rfl (hown.alloc _) w1.heap.size (1:Int) rfl ?_ ?_ ?_ ?_;(exact bS _ _ _);(rw[hlen];omega);(simp;omega);intro v' w2 hown' hB hgrow);have hg:=HG.out
    go_roundg (16-(j+1))
    case measure=>omega
    case rel=>exact⟨j+1,c+1,true,by omega,rfl,by go_num,rfl,hid (by have:=HC.out;omega),hid (by rw[HS.out,HH.out,VE,Bool.or_true]),by rw[HS.out,HH.out,gB];exact hown',(hbel.alloc hbs _).trans hB⟩
   |false=>
    go_wp2_with (at_builtin;refine eN rfl _ _ rfl w.heap.size _ _ rfl (hown.alloc _) w1.heap.size (0:Int) rfl ?_ ?_ ?_ ?_;(exact bS _ _ _);(rw[hlen];omega);(simp;omega);intro v' w2 hown' hB hgrow);have hg:=HG.out
    go_roundg (16-(j+1))
    case measure=>omega
    case rel=>exact⟨j+1,c+1,T,by omega,rfl,by go_num,rfl,hid (by have:=HC.out;omega),hid (by rw[HS.out,HH.out,VE,Bool.or_false];exact HT.out),by rw[HS.out,HH.out,gB];exact hown',(hbel.alloc hbs _).trans hB⟩
  ·have t1:decide ((c:Int)<(q2:Int))=false:=decide_eq_false (by omega);have t2:decide (c<q2)=false:=decide_eq_false (by omega);have hje:j=16:=by omega
   subst hje;rw[LC] at hown;have HF:=hid (show T=iT s.data.toList k by rw[HT.out,LC];rfl);clear hc hqq;go_wp2_with fail
   go_ret2
   exact⟨_,by rw[HF.out];rfl,hown,hbel⟩
theorem pT.keeps {a b:Value} (h:pT a b):b.ownBlock=none\/b.ownBlock≠a.ownBlock:=by
 rcases h with h|h|h
 ·cases hb:b.ownBlock with
  |none=>exact .inl rfl
  |some k=>right;rw[h];simp
 ·exact .inl h
 ·exact .inr (fun e=>h e.symm)
theorem pT.left {w:World} {B:Nat} {a a' b:Value} {l:List Int} (h:pT a b) (hb:OwI w B b l) (ha:a'.ownBlock=a.ownBlock\/a'.ownBlock=some w.heap.size):pT a' b:=by
 rcases ha with e|e
 ·unfold pT at h ⊢;rw[e];exact h
 ·right
  cases hk:b.ownBlock with
  |none=>exact .inl rfl
  |some k=>
   right
   rw[e];have:=(Ow.lt hb k hk).2;intro e2
   injection e2 with e2
   omega
theorem aJp {s:List UInt8} (h:s≠[]):0<(eX s 16).length:=by
 have h1:=VB h;rw[Ne,yD,Bool.not_eq_false,List.any_eq_true] at h1;obtain⟨b,hb,hbt⟩:=h1;unfold nB at hb;obtain⟨k,hk,rfl⟩:=List.mem_map.1 hb;rw[List.mem_range] at hk;obtain⟨m,hm⟩:=VA s (k+1) (by omega);have hbt:iT s k=true:=hbt;rw[hm,LD,hbt,if_pos rfl];simp only[aL,sR];omega
theorem aJq {w w':World} {B:Nat} {a v:Value} {l m:List Int} (h:OwI w B a l) (hv:OwI w' w.heap.size v m):pT a v:=by
 cases ha:a.ownBlock with
 |none=>exact .inl ha
 |some k=>
  cases hb:v.ownBlock with
  |none=>exact .inr (.inl hb)
  |some j=>
   right;right
   rw[ha,hb];have h1:=(Ow.lt h k ha).2;have h2:=(Ow.lt hv j hb).1;intro e
   injection e with e
   omega
theorem VG (w:World) (x:Int):RdI (w.alloc (.cells #[.int .i64 x] 3)) (.slice (some ⟨w.heap.size,0,none⟩) 1 1) [x]:=xY w 3 [.int .i64 x] 1 rfl (by decide)
theorem aJr (s:ByteArray) (w:World) (hs:s.size<=1000000) (h0:s.data.toList≠[]):
  Calls Tryz.prog 44 #[.string s] w fun e w'=>e=.returned (eL (fZ s.data.toList))/\Below w.heap.size w w':=by
 have H0:=hid (aJp h0);have HRL:=hid (fun k=>CC s.data.toList k);clear h0;go_enter Tryz.func44,Tryz.ntmps44;go_wp2_with fail;have hA0:=Arr.new w 29 [.string ⟨#[]⟩,.int .i64 0];change Arr (w.alloc (.cells #[.string ⟨#[]⟩,.int .i64 0] 29)) _ _ _ at hA0;have hs0:(w.alloc (.cells #[.string ⟨#[]⟩,.int .i64 0] 29)).heap.size=w.heap.size+1:=by simp
 have hb0:Below w.heap.size w (w.alloc (.cells #[.string ⟨#[]⟩,.int .i64 0] 29)):=bD (aB _ _) _;generalize w.alloc (.cells #[.string ⟨#[]⟩,.int .i64 0] 29)=w0 at*
 go_loopg [3,4,5,6,7] 16 (fun g s3 s4 s5 _s6 _s7 wr=>∃k:Nat,k<=16/\g=16-k/\s5=.int .i64 (k:Int)/\OwI wr (w.heap.size+1) s3 (bI (lU s.data.toList k))/\OwI wr (w.heap.size+1) s4 (bI (eX s.data.toList k))/\pT s3 s4/\Below (w.heap.size+1) w0 wr)
 case atStart=>exact⟨0,by omega,rfl,rfl,OwI.nil _ _,OwI.nil _ _,.inl rfl,aB _ _⟩
 case round=>
  obtain⟨k,hk,hg,rfl,ho3,ho4,hap,hbel⟩:=hrel;have HG:=hid hg;clear hg;have hsz:=hbel.size
  by_cases hlt:k<16
  ·have t1:decide ((k:Int)<16)=true:=decide_eq_true (by omega);have hcall:=fun W=>aJo s k W (by omega) hlt
   have hl3:(bI (lU s.data.toList k)).length=k:=by rw[cN,zC]
   have hl4:(bI (eX s.data.toList k)).length<=16*k:=by rw[cN];exact HRL.out k
   have hlr:(bI (eQ s.data.toList k)).length=16:=by rw[cN,sR]
   have HF:=hid (VF s.data.toList k);have HR:=hid (LD s.data.toList k);obtain⟨T,hT⟩:∃T,T=iT s.data.toList k:=⟨_,rfl⟩;rw[<-hT] at hcall HF HR;clear hT;go_wp2_with fail;refine(hcall _).mono ?_;rintro e w1 ⟨v,rfl,hov,hb1⟩;have ho3':=OwI.below ho3 hb1 (aA _);have ho4':=OwI.below ho4 hb1 (aA _);have hb1s:=hb1.size;have hbel1:=hbel.trans (hb1.mono (by omega));have hav:=aJq ho3 hov;clear ho3 ho4
   cases T with
   |true=>
    go_wp2_with (first
     |(at_builtin;refine kG rfl _ _ rfl (w.heap.size+1) _ _ [1] rfl (OwI.alloc ho3' _) _ rfl (VG w1 1) (by decide) ?_ ?_ ?_;(rw[hl3];show(k+1)*8<=_;omega);(simp;omega);intro v3 w3 p1 p2 p3 p4;(have ho4'':=Ow.kept (OwI.alloc ho4' (.cells #[.int .i64 1] 3)) p3 hap.keeps);(have hov3:=(Ow.kept (OwI.alloc hov (.cells #[.int .i64 1] 3)) p3 hav.keeps));(have hap3:=hap.left (OwI.alloc ho4' (.cells #[.int .i64 1] 3)) p4);(have hs3:=p2.size))
     |(at_builtin;refine kG rfl _ _ rfl (w.heap.size+1) _ _ (bI (eQ s.data.toList k)) rfl ho4'' v rfl (OwI.rd hov3) ?_ ?_ ?_ ?_;(rw[hlr];decide);(rw[hlr];omega);(simp at hs3;omega);intro v4 w4 r1 r2 r3 r4))
    have hg:=HG.out
    go_roundg (16-(k+1))
    case measure=>omega
    case rel=>exact⟨k+1,by omega,rfl,by go_num,by rw[HF.out,gB];exact Ow.kept p1 r3 hap3.symm.keeps,by rw[HR.out,if_pos trivial,gB];exact r1,(hap3.symm.left p1 r4).symm,((hbel1.alloc (by omega) _).trans p2).trans r2⟩
   |false=>
    go_wp2_with (at_builtin;refine kG rfl _ _ rfl (w.heap.size+1) _ _ [0] rfl (OwI.alloc ho3' _) _ rfl (VG w1 0) (by decide) ?_ ?_ ?_;(rw[hl3];show(k+1)*8<=_;omega);(simp;omega);intro v3 w3 p1 p2 p3 p4);have hg:=HG.out
    go_roundg (16-(k+1))
    case measure=>omega
    case rel=>exact⟨k+1,by omega,rfl,by go_num,by rw[HF.out,gB];exact p1,by rw[HR.out,if_neg (by decide),eE];exact Ow.kept (OwI.alloc ho4' (.cells #[.int .i64 0] 3)) p3 hap.keeps,hap.left (OwI.alloc ho4' (.cells #[.int .i64 0] 3)) p4,(hbel1.alloc (by omega) _).trans p2⟩
  ·have t1:decide ((k:Int)<16)=false:=decide_eq_false (by omega);have hke:k=16:=by omega
   subst hke;have hl3:(bI (lU s.data.toList 16)).length=16:=by rw[cN,zC]
   have hl4:(bI (eX s.data.toList 16)).length<=16*16:=by rw[cN];exact HRL.out 16
   have hl5:0<(bI (eX s.data.toList 16)).length:=by rw[cN];exact H0.out
   have hr4:=OwI.rd ho4;go_wp2_with (at_builtin;refine kG rfl _ _ rfl (w.heap.size+1) _ _ (bI (eX s.data.toList 16)) rfl ho3 _ rfl hr4 hl5 ?_ ?_ ?_;(rw[hl3];omega);(omega);intro v5 w5 p1 p2 p3 p4);have hm:bI (lU s.data.toList 16)++bI (eX s.data.toList 16)=bI (fZ s.data.toList):=by rw[<-gB];rfl
   rw[hm] at p1;have hml:=CD s.data.toList;refine(uG v5 (fZ s.data.toList) w5 (OwI.rd p1) (by omega)).mono ?_;rintro e w6 ⟨rfl,hb6⟩;have hA6:=((hA0.below hbel (by omega)).below p2 (by omega)).below hb6 (by have:=p2.size;omega);have hB6:Below w.heap.size w w6:=((hb0.trans (hbel.mono (by omega))).trans (p2.mono (by omega))).trans (hb6.mono (by have:=p2.size;omega));have d0:=hA6.cell (i:=0) rfl;have d1:=hA6.cell (i:=1) rfl;have f0:=hA6.free 0;have f1:=hA6.free 1;clear hA0 hm hb6 p1 p2 p3 p4 ho3 ho4 hr4 hbel hb0;generalize hmm:fZ s.data.toList=m at*
   have HM:=hid hmm;clear hmm;go_wp2_with fail;have z0:Arr ((w6.setCell ⟨w.heap.size,0,none⟩ (.string (mkS (aD m)))).setCell ⟨w.heap.size,1,none⟩ (.int .i64 (m.length:Int))) w.heap.size 29 [.string (mkS (aD m)),.int .i64 (m.length:Int)]:=(hA6.set 0 _).set 1 _;refine gJ (results_cell_row rfl _ _ w.heap.size _ _ (0,0) _ rfl z0 Tryz.underlying29 rfl mF) rfl ?_;exact⟨by rw[HM.out];rfl,(hB6.setCell (p:=⟨w.heap.size,0,none⟩) (aA _) _).setCell (p:=⟨w.heap.size,1,none⟩) (aA _) _⟩
end
section
open Go.RowKit Go
theorem WG (a:BitVec 32):bits .xor .u32 (a.toNat:Int) 4294967295=((~~~ a).toNat:Int):=by
 have h:=DW a (0xffffffff#32);have e:(((0xffffffff#32:BitVec 32).toNat:Nat):Int)=4294967295:=by decide
 rw[e] at h;rw[h];have:a^^^(0xffffffff#32)= ~~~ a:=by
  have:=BitVec.xor_allOnes (x:=a);exact this
 rw[this]
theorem aKr (a:BitVec 32):IntKind.u32.wrap (2*(a.toNat:Int))=((a<<<1).toNat:Int):=by rw[Int.mul_comm];exact WC a
theorem aKs (X:Nat) (x:BitVec 32) (hX:X=x.toNat) (b:Bool) (w:World):
  Calls Tryz.prog 162 #[.int .u32 (X:Int),.int .u32 (b.toNat:Int)] w fun e w'=>e=.returned (.int .u32 ((rU x b).toNat:Int))/\w'=w:=by
 have e1:=WD x;have e2:=aKr x;obtain⟨y,hy⟩:∃y,y=x<<<1:=⟨_,rfl⟩;have e3:=WE y;rw[<-hy] at e2;have HZ:=hid (show rU x b=if x.msb != b then y^^^79764919#32 else y by rw[hy];rfl);obtain⟨Y,hY⟩:∃Y,Y=y.toNat:=⟨_,rfl⟩;obtain⟨Z,hZ⟩:∃Z,Z=(y^^^79764919#32).toNat:=⟨_,rfl⟩;obtain⟨m,hm⟩:∃m,m=x.msb:=⟨_,rfl⟩;rw[<-hX,<-hm] at e1;rw[<-hX,<-hY] at e2;rw[<-hY,<-hZ] at e3;rw[<-hm] at HZ;have HY:=hid hY;have HZZ:=hid hZ;clear hX hy hY hZ hm
 by_cases h:m=b
 ·subst h;have t1:((m.toNat:Int) != (m.toNat:Int))=false:=by simp
  have t2:((m.toNat:Int)==(m.toNat:Int))=true:=by simp
  clear e3;go_enter Tryz.func162,Tryz.ntmps162;go_wp2_with fail;go_ret;exact⟨fX (by rw[HZ.out,HY.out];cases m<;>rfl),rfl⟩
 ·have t1:((m.toNat:Int) != (b.toNat:Int))=true:=by cases m<;>cases b<;>simp_all
  have t2:((m.toNat:Int)==(b.toNat:Int))=false:=by cases m<;>cases b<;>simp_all
  have H:=hid h;clear h;go_enter Tryz.func162,Tryz.ntmps162;go_wp2_with fail;go_ret;refine⟨fX ?_,rfl⟩;have h:=H.out;rw[HZ.out,HZZ.out,if_pos (by cases m<;>cases b<;>simp_all)]
theorem aKt (c:BitVec 32) (s:ByteArray) (w:World) (hs:s.size<=140737488355328):
  Calls Tryz.prog 105 #[.int .u32 (c.toNat:Int),.string s] w fun e w'=>e=.returned (.int .u32 ((~~~ kQ (~~~ c) s.data.toList).toNat:Int))/\w'=w:=by
 have HL:=hid (show s.data.toList.length=s.size by simp);have x1:=WG c;obtain⟨C,hC⟩:∃C,C=c.toNat:=⟨_,rfl⟩;obtain⟨D,hD⟩:∃D,D=(~~~ c).toNat:=⟨_,rfl⟩;rw[<-hC] at x1 ⊢;rw[<-hD] at x1;have HD:=hid hD;obtain⟨cc,hcc⟩:∃cc,cc= ~~~ c:=⟨_,rfl⟩;rw[<-hcc] at HD ⊢;clear hC hD hcc;go_enter Tryz.func105,Tryz.ntmps105;go_wp2_with fail
 go_loopg [5,6,7] s.size (fun g s5 s6 _s7 wr=>∃k X:Nat,k<=s.size/\g=s.size-k/\s6=.int .i64 (k:Int)/\s5=.int .u32 (X:Int)/\Hid (X=(kQ cc (s.data.toList.take k)).toNat)/\wr=w)
 case atStart=>exact⟨0,D,aU _,rfl,rfl,rfl,HD,rfl⟩
 case round=>
  obtain⟨k,X,hk,hg,rfl,rfl,HX,rfl⟩:=hrel;have HG:=hid hg;clear hg x1
  by_cases hlt:k<s.size
  ·have t1:decide ((k:Int)<(s.size:Int))=true:=decide_eq_true (by omega);have hb:=s[k].toNat_lt;have HS:=hid (WF cc s.data.toList k s[k] (eW s k hlt));have HG1:=HG;obtain⟨x,hx⟩:∃x,x=kQ cc (s.data.toList.take k):=⟨_,rfl⟩;rw[<-hx] at HX HS;clear hx;go_wp2_with fail
   go_loopg [5,7] 8 (fun g s5 s7 wx=>∃j Y:Nat,j<=8/\g=8-j/\s7=.int .i64 (7-(j:Int))/\s5=.int .u32 (Y:Int)/\Hid (Y=(nY x s[k].toNat j).toNat)/\wx=wr)
   case atStart=>exact⟨0,X,by omega,rfl,by go_num,rfl,HX,rfl⟩
   case round=>
    obtain⟨j,Y,hj,hg,rfl,rfl,HY,rfl⟩:=hrel;have HG:=hid hg;clear hg
    by_cases hlj:j<8
    ·obtain⟨q,hq⟩:∃q:Nat,q=7-j:=⟨_,rfl⟩;have ej:(7:Int)-(j:Int)=(q:Int):=by omega
     have t2:decide ((q:Int)>=0)=true:=decide_eq_true (by omega);have t3:decide (0<=(q:Int))=true:=decide_eq_true (by omega);have e4:=yH s[k].toNat q;have e7:min q 8=q:=by omega
     rw[ej];have HQ:=hid hq;obtain⟨z,hz⟩:∃z,z=s[k].toNat.testBit q:=⟨_,rfl⟩;rw[<-hz] at e4;have e5:(z.toNat:Int)%4294967296=(z.toNat:Int):=by cases z<;>decide
     have hcall:=fun W=>aKs Y (nY x s[k].toNat j) HY.out z W
     have HC:=hid (show nY x s[k].toNat (j+1)=rU (nY x s[k].toNat j) z by rw[hz,hq];rfl);obtain⟨V,hV⟩:∃V,V=(rU (nY x s[k].toNat j) z).toNat:=⟨_,rfl⟩;rw[<-hV] at hcall;have HV:=hid hV;clear hq ej hz hV;go_wp2_with fail;refine(hcall _).mono ?_;rintro e w1 ⟨rfl,rfl⟩;go_wp2_with fail;have hg:=HG.out;have hq:=HQ.out
     go_roundg (8-(j+1))
     case measure=>omega
     case rel=>exact⟨j+1,V,by omega,rfl,by go_num,rfl,hid (by rw[HV.out,HC.out]),rfl⟩
    ·have t2:decide ((7:Int)-(j:Int)>=0)=false:=decide_eq_false (by omega);have t3:decide (0<=(7:Int)-(j:Int))=false:=decide_eq_false (by omega);have ej:j=8:=by omega
     subst ej;go_wp2_with fail;have hg:=HG1.out
     go_roundg (s.size-(k+1))
     case measure=>omega
     case rel=>exact⟨k+1,Y,by omega,rfl,by go_num,rfl,hid (by rw[HS.out];exact HY.out),rfl⟩
  ·have t1:decide ((k:Int)<(s.size:Int))=false:=decide_eq_false (by omega);obtain⟨x,hx⟩:∃x,x=kQ cc (s.data.toList.take k):=⟨_,rfl⟩;have hx2:=HX.out;rw[<-hx] at hx2;have x2:=WG x;rw[<-hx2] at x2;obtain⟨Z,hZ⟩:∃Z,Z=(~~~ x).toNat:=⟨_,rfl⟩;rw[<-hZ] at x2;have HF:=hid (show((Z:Nat):Int)=((~~~ kQ cc s.data.toList).toNat:Int) by rw[hZ,hx,cS (by rw[HL.out];omega)]);clear hx hx2 hZ;go_wp2_with fail;go_ret;exact⟨fX HF.out,rfl⟩
theorem WH (s:ByteArray) (w:World) (hs:s.size<=140737488355328):
  Calls Tryz.prog 42 #[.string s] w fun e w'=>e=.returned (.int .u32 ((fG s.data.toList).toNat:Int))/\w'=w:=by
 have h0:=aKt (0#32) s w hs;have e0:(((0#32:BitVec 32).toNat:Nat):Int)=0:=rfl;have e1:(~~~ kQ (~~~ (0#32)) s.data.toList)=fG s.data.toList:=rfl;rw[e0,e1] at h0;go_enter Tryz.func42,Tryz.ntmps42;go_wp2_with fail;refine h0.mono ?_;rintro e w1 ⟨rfl,rfl⟩;go_wp2_with fail;go_ret;exact⟨rfl,rfl⟩
end
section
open Go.RowKit
theorem aL3 (w:World):
  Calls Tryz.prog 38 #[.string cW] w fun e w'=>e=.returned (.tuple #[.agg #[.string cW,.int .i64 0,.slice none 0 0],.int .i64 1])/\Below w.heap.size w w':=by
 unfold cW;have harr:=Arr.new w 50 [.string {data:=#[]},.int .i64 0,.slice none 0 0];have f0:=harr.cell (i:=0) rfl;have f1:=harr.cell (i:=1) rfl;have f2:=harr.cell (i:=2) rfl;have f3:=harr.free;go_enter Tryz.func38,Tryz.ntmps38;go_wp2_with fail;exact gJ (zI rfl _ _ w.heap.size _ _ (0,0) _ rfl harr Tryz.underlying50 rfl EA) rfl ⟨rfl,(aB _ _).alloc (aA _) _⟩
theorem aL4 (s:ByteArray) (w:World) (h0:0<s.size) (hs:s.size<=65536):
  Calls Tryz.prog 38 #[.string s] w fun e w'=>∃o v,Ord (bX s) s.size s.size o/\e=.returned (.tuple #[.agg #[.string (mkS (bK s.data.toList)),.int .i64 ((fD o s.size:Nat):Int),v],.int .i64 0])/\OwI w' w.heap.size v (oA s o)/\Below w.heap.size w w':=by
 have t0:=rY h0;have t1:decide ((65536:Int)<(s.size:Int))=false:=decide_eq_false (by omega);have t2:decide (65536<s.size)=false:=decide_eq_false (by omega);go_enter Tryz.func38,Tryz.ntmps38;go_wp2_with fail;refine(KZ s _ (by omega)).mono ?_;rintro e w1 ⟨rfl,hb1⟩;have hz1:=hb1.size;simp only[fV] at hz1;obtain⟨A,hA⟩:∃A,A=mkS (bK s.data.toList):=⟨_,rfl⟩;rw[<-hA];have HA0:=hid hA;clear hA;go_wp2_with fail;refine(aG7 s _ (by omega) (fun w=>aHh s w (by omega))).mono ?_;rintro e w2 ⟨o,hO,rfl,hb2⟩;have hz2:=hb2.size
 obtain⟨n,hn⟩:∃n,n=fD o s.size:=⟨_,rfl⟩;have hnl:=RQ o s.size;rw[<-hn] at hnl ⊢;have HN:=hid hn;clear hn;obtain⟨L,hL⟩:∃L,L=mkS (dM s o s.size):=⟨_,rfl⟩;have hA:=HA0.out;have hLl:L.data.toList=dM s o s.size:=by rw[hL];rfl
 have hAl:A.data.toList=bK s.data.toList:=by rw[hA];rfl
 have hLs:L.size=s.size:=by rw[hL,cP,sY]
 have hAs:A.size<=256:=by rw[hA,cP];exact rX _
 have hnd:A.data.toList.Nodup:=by rw[hAl];exact BS _
 have hsub:∀b∈L.data.toList,b∈A.data.toList:=fun b hb=>by
  rw[hAl,yC];rw[hLl] at hb;exact(LN s hO).mem_iff.1 hb
 have hml:(cM A.data.toList L.data.toList).length=s.size:=by rw[rH];simp[hLs]
 have hmr:∀x∈cM A.data.toList L.data.toList,0<=x/\x<=1000000:=fun x hx=>by
  have:=vT L.data.toList A.data.toList hsub x hx;have hl:A.data.toList.length=A.size:=by simp
  omega
 have hsym:oA s o=cZ 0 (cM A.data.toList L.data.toList)++[(A.size:Int)+1]:=by
  unfold oA;rw[<-hAl,<-hLl];simp
 have HSYM:=hid hsym;have HA:=hid hA;rw[<-hL];have hFR:∀W,Calls Tryz.prog 99 #[.string A,.string L] W fun e w'=>∃v,e=.returned (.tuple #[v,.int .i64 0])/\OwI w' W.heap.size v (cM A.data.toList L.data.toList)/\Below W.heap.size W w':=fun W=>TL A L W (by omega) (by omega) hnd hsub
 have HFR:=hid hFR;obtain⟨M,hM⟩:∃M,M=cM A.data.toList L.data.toList:=⟨_,rfl⟩;rw[<-hM] at hml hmr HSYM HFR;have HMR:=hid hmr;clear hFR hnd hsub hL hA hLl hAl hLs hM hmr hsym;go_wp2_with fail;refine(HFR.out w2).mono ?_;rintro e w3 ⟨v3,rfl,hown3,hb3⟩;have hz3:=hb3.size;go_wp2_with fail;refine(aL2 v3 M w3 hown3.rd (by omega) (by omega) HMR.out).mono ?_;rintro e w4 ⟨v4,rfl,hown4,hb4⟩;have hz4:=hb4.size;have harr:=Arr.new w 50 [.string {data:=#[]},.int .i64 0,.slice none 0 0];have hlen:=hid (IT M 0)
 have e1:aI.wrap ((A.size:Int)+1)=(A.size:Int)+1:=by rw[aM];omega
 have hz04:w.heap.size+1<=w4.heap.size:=by omega
 have hz03:w.heap.size+1<=w3.heap.size:=by omega
 have hb04:Below (w.heap.size+1) (w.alloc (.cells #[.string {data:=#[]},.int .i64 0,.slice none 0 0] 50)) w4:=(((hb1.mono (by simp)).trans (hb2.mono (by omega))).trans (hb3.mono (by omega))).trans (hb4.mono (by omega))
 go_wp2_with (at_builtin;(refine eN rfl _ _ rfl w3.heap.size _ _ rfl (hown4.alloc _) w4.heap.size ((A.size:Int)+1) rfl ?_ ?_ ?_ ?_;(exact bS _ _ _);(have:=hlen.out.1;omega);(simp;omega);intro v6 w6 hown6 hb6 _;obtain⟨a6,c6,e6,_,_,_⟩:=hown6.rd.open;subst e6;have hz6:=hb6.size;simp only[fV] at hz6;have hbE:=(hb04.alloc hz04 _).trans (hb6.mono hz03);have p0:=harr.below hbE (by omega);have p1:=p0.cell (i:=0) rfl;have p2:=p0.cell (i:=1) rfl;have p3:=p0.cell (i:=2) rfl;have p4:=p0.free));rw[show(cZ 0 M++[(A.size:Int)+1]).length=(cZ 0 M).length+1 by simp] at hown6
 generalize hv:Value.slice a6 ((cZ 0 M).length+1) c6=v6 at*
 have hF:Arr (((w6.setCell ⟨w.heap.size,0,none⟩ (.string A)).setCell ⟨w.heap.size,1,none⟩ (.int .i64 (n:Int))).setCell ⟨w.heap.size,2,none⟩ v6) w.heap.size 50 [.string A,.int .i64 (n:Int),v6]:=((p0.set 0 _).set 1 _).set 2 _;have ho2:=hown6.kept (nK (nK (nK (zH _ (some w.heap.size)) 0 (.string A)) 1 (.int .i64 (n:Int))) 2 v6) (fun b e=>by simp at e;omega)
 have hbF:=(((((aB w.heap.size w).alloc (aA _) _).trans (hbE.mono (by omega))).setCell (p:=⟨w.heap.size,0,none⟩) (aA _) (.string A)).setCell (p:=⟨w.heap.size,1,none⟩) (aA _) (.int .i64 (n:Int))).setCell (p:=⟨w.heap.size,2,none⟩) (aA _) v6;refine gJ (zI rfl _ _ w.heap.size _ _ (0,0) _ rfl hF Tryz.underlying50 rfl EA) rfl ⟨o,v6,hO,?_,?_,hbF⟩
 ·rw[<-HA.out,<-HN.out];rfl
 ·rw[HSYM.out];exact ho2.base (by omega)
theorem aL5 (a:ByteArray) (o:Int) (y:Value) (_hy:y.oneCell'=true) (w:World) (ha:a.size<=140737488355328):
  Calls Tryz.prog 40 #[.agg #[.string a,.int .i64 o,y]] w fun e w'=>e=.returned (.int .i64 ((a.size:Int)+2))/\Below w.heap.size w w':=by
 have e1:aI.wrap ((a.size:Int)+2)=(a.size:Int)+2:=by rw[aM];omega
 go_enter Tryz.func40,Tryz.ntmps40;go_wp2_with fail;go_ret;exact⟨rfl,(aB _ _).alloc (aA _) _⟩
end
section
open Go.RowKit Go.Shelf
theorem aN4 (s:ByteArray) (w:World) (hs:s.size<=65536):
  Calls Tryz.prog 38 #[.string s] w fun e w'=>∃v,e=.returned (.tuple #[.agg #[.string (sqA s),.int .i64 (sqO s),v],.int .i64 (sqE s)])/\RdI w' v (sqS s)/\Below w.heap.size w w'/\(0<s.size->fS s):=by
 rcases Nat.eq_zero_or_pos s.size with h0|h0
 ·have e1:sqA s=cW:=if_pos h0;have e2:sqO s=0:=if_pos h0;have e3:sqS s=[]:=if_pos h0;have e4:sqE s=1:=if_pos h0;rw[e1,e2,e3,e4];have:=XR h0;subst this;refine(aL3 w).mono ?_;rintro e w' ⟨rfl,hb⟩;exact⟨_,rfl,⟨none,0,rfl,aA _,by simp[maxLen],.inl rfl⟩,hb,fun h=>absurd h (by omega)⟩
 ·have hn:¬s.size=0:=by omega
  refine(aL4 s w h0 hs).mono ?_;rintro e w' ⟨o,v,hO,rfl,hown,hb⟩;obtain⟨q1,q2⟩:=XQ hO;have e1:sqA s=mkS (bK s.data.toList):=if_neg hn;have e2:sqO s=((fD (oOf s) s.size:Nat):Int):=if_neg hn;have e3:sqS s=oA s (oOf s):=if_neg hn;have e4:sqE s=0:=if_neg hn;rw[e1,e2,e3,e4,<-q1,<-q2];exact⟨v,rfl,hown.rd,hb,fun _=>LV hO⟩
end
section
open Go.RowKit Go Go.Shelf
theorem YS {l g:List Int} (h:fY l) (hg:∀x∈g,0<=x/\x<(l.length:Int)) (h0:0<g.length):0<(eR l g).length:=by
 cases g with
 |nil=>simp at h0
 |cons x g=>
  have hx:=hg x (List.mem_cons_self ..);have:=(jG h (s:=x.toNat) (by omega)).1;unfold eR;rw[List.flatMap_cons,aL,cY];omega
theorem aOr (s:List UInt8):0<(fZ s).length:=by
 unfold fZ nB;simp;omega
theorem YT (l:List Int):0<(dW l).length:=by unfold dW;rw[aL,cY];omega
theorem aOs {m:List Int} {n j:Nat} {g:List Int} (h:(cK m)[j]? =some g):(cT m n)[j]? =some (nX (dN m n 0) (dN m n 1) g):=by
 unfold cT;rw[List.getElem?_map,h];rfl
end
end Go.Proofs.YtiifmcicleljjaaGreatDoor
