/-
  Texts put together (part 24): the walks and the plain laws on which the statement stands.
-/
import Derived.Test.YtiifmcicleljjaaGreatDoorZ10
set_option maxRecDepth 100000
set_option maxHeartbeats 12800000
open Bool renaming noConfusion->tQ
open Go renaming Operand->iM
open Go.Addr renaming add->iN
open Go.Calls renaming quiet_of->OB
open Go.Instr renaming sliceAt->GN
open Go.IntKind renaming i64->aI,wrap_i64->aM
open Go.IntWalk renaming i64_in->tS
open Go.Op renaming bytesLess->oL
open Go.Oper renaming wp->lX
open Go.Region renaming wanted->nR
open Go.Result renaming andThen_ok->GG
open Go.RowKit.Below renaming refl->aB
open Go.Sem renaming run_bind->vL,run_pure->GF
open Go.Value renaming int->bO
open Go.Value.slice renaming injEq->aCd
open Go.World renaming block_lt_of_cell?->iO
open Int renaming tmod_eq_emod_of_nonneg->oJ
open List renaming drop_eq_getElem_cons->oH,drop_of_length_le->qY,ext_getElem?->jA,getD->fF,getD_eq_getElem?_getD->aV,getElem?_drop->gR,getElem?_eq_getElem->aN,getElem?_eq_none->dL,getElem?_eq_some_iff->eU,getElem?_take_of_lt->mB,length_append->aL,length_cons->cR,length_drop->cI,length_eraseIdx->GJ,length_map->bJ,length_nil->cX,length_take->aX,map_append->fI,map_cons->pG,map_nil->xS,map_toArray->GH,mem_append->cU,mem_cons->kD,mem_map->dU,mem_of_getElem?->cH,mem_of_mem_drop->xU,mem_of_mem_take->nO,pairwise_append->aCg,pairwise_iff_getElem->xO,take_add_one->cQ,take_of_length_le->cS,take_sublist->aCl
open Nat renaming eq_zero_or_pos->fJ,le_refl->aA,le_trans->aW,zero_le->aU
open UInt8 renaming lt_iff_toNat_lt->NZ
namespace Go.Proofs.YtiifmcicleljjaaGreatDoor
section
open Go.RowKit
theorem BI (s:ByteArray) (q:Nat) (h:q<s.size):s.extract q (q+1)=mkS [s.data.toList.getD q 0]:=by
 rw[nT,show q+1-q=1 by omega];have hq:q<s.data.toList.length:=by simpa using h
 rw[oH hq];simp[fF,aN hq]
end
section
theorem aDl (l:List Bool):(kW (aD l)).take l.length=l:=by
 apply jA;intro i;rw[List.getElem?_take]
 by_cases h:i<l.length
 ·rw[if_pos h,sP,if_pos (by rw[gY];omega),sO,aV,aN h];rfl
 ·rw[if_neg h,dL (by omega)]
end
section
open Go.RowKit Go
theorem aD2 (x j:Nat):((x:Int)/2^j)%2=((x.testBit j).toNat:Int):=by
 have e:((2:Int)^j)=((2^j:Nat):Int):=by push_cast;rfl
 rw[e,<-Int.natCast_ediv,<-IU];omega
theorem yH (x j:Nat):((x:Int)/2^j).tmod 2=((x.testBit j).toNat:Int):=by
 rw[oJ (by rw[yG];exact Int.natCast_nonneg _),aD2]
end
section
open Go.RowKit
theorem gB (l m:List Bool):bI (l++m)=bI l++bI m:=fI ..
theorem aD5 (l:List Bool) (k:Nat):(bI l).take k=bI (l.take k):=List.map_take.symm
theorem aD6 (s:List UInt8) (k:Nat) (h:k<8*s.length):(kW s).take (k+1)=(kW s).take k++[dI s k]:=by
 rw[cQ,sP,if_pos h];rfl
theorem PQ (s:ByteArray) (i:Nat) (w:World) (hi:i<8*s.size) (hs:s.size<=140737488355328):
  Calls Tryz.prog 118 #[.string s,.int .i64 (i:Int)] w fun e w'=>e=.returned (.int .i64 ((dI s.data.toList i).toNat:Int))/\w'=w:=by
 have hk:i/8<s.size:=by omega
 have e1:(i:Int).tdiv 8=((i/8:Nat):Int):=by rw[Int.tdiv_eq_ediv_of_nonneg (by omega)];omega
 have e2:(i:Int).tmod 8=((i%8:Nat):Int):=by rw[oJ (by omega)];omega
 have e3:aI.wrap (7-((i%8:Nat):Int))=((7-i%8:Nat):Int):=by rw[aM];omega
 have eb:=eW s (i/8) hk;have e4:=yH s[i/8].toNat (7-i%8);have e5:dI s.data.toList i=s[i/8].toNat.testBit (7-i%8):=by unfold dI;rw[aV,eb];rfl
 rw[e5];have hb:=s[i/8].toNat_lt;go_enter Tryz.func118,Tryz.ntmps118;go_wp2_with fail;go_ret;exact⟨rfl,rfl⟩
theorem aD7 (s:ByteArray) (w:World) (hs:s.size<=1000000):
  Calls Tryz.prog 106 #[.string s] w fun e w'=>∃v,e=.returned v/\OwI w' w.heap.size v (bI (kW s.data.toList))/\Below w.heap.size w w':=by
 have HL:=hid (show s.data.toList.length=s.size by simp);go_enter Tryz.func106,Tryz.ntmps106;go_wp2_with fail
 go_loopg [3,4] (8*s.size) (fun g s3 s4 wr=>∃k:Nat,k<=8*s.size/\g=8*s.size-k/\s4=.int .i64 k/\OwI wr w.heap.size s3 (bI ((kW s.data.toList).take k))/\Below w.heap.size w wr)
 case atStart=>exact⟨0,aU _,rfl,rfl,OwI.nil _ _,aB _ _⟩
 case round=>
  obtain⟨k,hk,hg,rfl,hown,hbel⟩:=hrel;have HG:=hid hg;clear hg;have m1:aI.wrap (8*(s.size:Int))=8*(s.size:Int):=by rw[aM];omega
  by_cases hlt:k<8*s.size
  ·have t1:decide ((k:Int)<8*(s.size:Int))=true:=decide_eq_true (by omega);have hlen:(bI ((kW s.data.toList).take k)).length=k:=by rw[cN,aX,xZ,HL.out];omega
   have hbs:=hbel.size;have HS:=hid (aD6 s.data.toList k (by rw[HL.out];exact hlt));go_wp2_with fail;refine(PQ s k _ hlt (by omega)).mono ?_;rintro e w1 ⟨rfl,rfl⟩;go_wp2_with (at_builtin;refine eN rfl _ _ rfl w.heap.size _ _ rfl (hown.alloc _) w1.heap.size ((dI s.data.toList k).toNat:Int) rfl ?_ ?_ ?_ ?_;(exact bS _ _ _);(rw[hlen];omega);(simp;omega);intro v' w1 hown' hB hgrow);have hg:=HG.out
   go_roundg (8*s.size-(k+1))
   case measure=>omega
   case rel=>
    refine⟨k+1,by omega,rfl,by go_num,?_,(hbel.alloc hbel.size _).trans hB⟩;rw[HS.out,gB];exact hown'
  ·have t1:decide ((k:Int)<8*(s.size:Int))=false:=decide_eq_false (by omega);go_wp2_with fail;go_ret;refine⟨_,rfl,?_,hbel⟩;rw[cS (by rw[xZ,HL.out];omega)] at hown;exact hown
theorem uF (v n:Nat) (w:World) (_hv:v<18446744073709551616) (hn:n<=64):
  Calls Tryz.prog 41 #[.int .u64 (v:Int),.int .i64 (n:Int)] w fun e w'=>∃u,e=.returned u/\OwI w' w.heap.size u (bI (aY v n))/\Below w.heap.size w w':=by
 go_enter Tryz.func41,Tryz.ntmps41;go_wp2_with fail;have m1:aI.wrap ((n:Int)-1)=(n:Int)-1:=by rw[aM];omega
 go_loopg [5,6] n (fun g s5 s6 wr=>∃k:Nat,k<=n/\g=n-k/\s6=.int .i64 ((n:Int)-1-(k:Int))/\OwI wr w.heap.size s5 (bI ((aY v n).take k))/\Below w.heap.size w wr)
 case atStart=>exact⟨0,aU _,rfl,by go_num,OwI.nil _ _,aB _ _⟩
 case round=>
  obtain⟨k,hk,hg,rfl,hown,hbel⟩:=hrel;have HG:=hid hg;clear hg
  by_cases hlt:k<n
  ·have t1:decide ((n:Int)-1-(k:Int)>=0)=true:=decide_eq_true (by omega);have t2:decide (0<=(n:Int)-1-(k:Int))=true:=decide_eq_true (by omega);obtain⟨j,hj⟩:∃j:Nat,j=n-1-k:=⟨_,rfl⟩;have ej:(n:Int)-1-(k:Int)=(j:Int):=by omega
   have hlen:(bI ((aY v n).take k)).length=k:=by rw[cN,aX,cY];omega
   have hbs:=hbel.size;have HS:=hid (PP v n k hlt);have e4:=yH v j;have eb:((v.testBit j).toNat:Int)<2:=by cases v.testBit j<;>decide
   have e6:wrap64 ((v.testBit j).toNat:Int)=((v.testBit j).toNat:Int):=by unfold wrap64;omega
   rw[ej];have e7:min j 64=j:=by omega
   have HJ:=hid hj;clear hj ej;go_wp2_with (at_builtin;refine eN rfl _ _ rfl w.heap.size _ _ rfl (hown.alloc _) wr.heap.size ((v.testBit j).toNat:Int) rfl ?_ ?_ ?_ ?_;(exact bS _ _ _);(rw[hlen];omega);(simp;omega);intro v' w1 hown' hB hgrow);have hg:=HG.out
   go_roundg (n-(k+1))
   case measure=>omega
   case rel=>
    have hj:=HJ.out;refine⟨k+1,by omega,rfl,by go_num,?_,(hbel.alloc hbel.size _).trans hB⟩;rw[HS.out,gB,<-hj];exact hown'
  ·have t1:decide ((n:Int)-1-(k:Int)>=0)=false:=decide_eq_false (by omega);have t2:decide (0<=(n:Int)-1-(k:Int))=false:=decide_eq_false (by omega);go_wp2_with fail;go_ret;refine⟨_,rfl,?_,hbel⟩;rw[cS (by rw[cY];omega)] at hown;exact hown
theorem JJ (n:Nat) (w:World) (hn:n<=1000000):
  Calls Tryz.prog 157 #[.int .i64 (n:Int)] w fun e w'=>∃v,e=.returned v/\OwI w' w.heap.size v (dig n)/\Below w.heap.size w w':=by
 go_enter Tryz.func157,Tryz.ntmps157;go_wp2_with fail
 go_loopg [3,4] n (fun gh s3 s4 wr=>∃(m:Nat) (l:List Int),m<=n/\gh=m/\s4=.int .i64 m/\OwI wr w.heap.size s3 l/\Hid (l++dig m=dig n)/\l.length+m<=n/\Below w.heap.size w wr)
 case atStart=>exact⟨n,[],aA _,rfl,rfl,OwI.nil _ _,hid rfl,by simp,aB _ _⟩
 case round=>
  obtain⟨m,l,hm,hg,rfl,hown,HD,hlm,hbel⟩:=hrel;have HG:=hid hg;clear hg;rcases fJ m with h0|h0
  ·subst h0;go_wp2_with fail;go_ret;refine⟨_,rfl,?_,hbel⟩;have:=HD.out;rw[qF,List.append_nil] at this;rw[<-this];exact hown
  ·obtain⟨b,hb,e1,_,_,e4,e5,e6,e7⟩:=RI m h0;have E1:=hid e1;clear e1;have hbs:=hbel.size;have s1:aI.wrap ((m:Int)-1)=(m:Int)-1:=tS _ (by omega);go_wp2_with (at_builtin;refine eN rfl _ _ rfl w.heap.size _ _ rfl (hown.alloc _) wr.heap.size (b:Int) rfl ?_ ?_ ?_ ?_;(exact bS _ _ _);omega;(simp;omega);intro v' w1 hown' hB hgrow);have hg:=HG.out
   go_roundg ((m-1)/2)
   case measure=>omega
   case rel=>
    refine⟨(m-1)/2,l++[(b:Int)],by omega,rfl,by go_num,hown',hid ?_,by simp;omega,(hbel.alloc hbel.size _).trans hB⟩;rw[List.append_assoc,List.singleton_append,<-E1.out];exact HD.out
theorem RJ (v:Value) (l:List Int) (w:World) (hr:RdI w v l) (hpos:∀x∈l,0<=x):
  Calls Tryz.prog 156 #[v] w fun e w'=>e=.returned (.bool false)/\w'=w:=by
 obtain⟨a,ca,rfl,hca,hma,hA⟩:=hr.open;unfold maxLen at hma;clear hr;go_enter Tryz.func156,Tryz.ntmps156;go_wp2_with fail
 go_loopg [3] l.length (fun gh s3 wr=>∃k:Nat,k<=l.length/\gh=l.length-k/\s3=.int .i64 k/\wr=w)
 case atStart=>exact⟨0,aU _,rfl,rfl,rfl⟩
 case round=>
  obtain⟨k,hk,hg,rfl,rfl⟩:=hrel;have HG:=hid hg;clear hg
  by_cases hlt:k<l.length
  ·obtain⟨b1,o1,rfl,hb1,hc1⟩:=hA (by omega);obtain⟨x,hx⟩:=dH hlt;have c1:=hc1 k x hx;have hx0:=hpos x (cH hx);have t1:decide (x<0)=false:=decide_eq_false (by omega);clear hc1 hx hA;go_wp2_with fail;have hg:=HG.out
   go_roundg (l.length-(k+1))
   case measure=>omega
   case rel=>exact⟨k+1,by omega,rfl,by go_num,rfl⟩
  ·go_wp2_with fail;go_ret;exact⟨rfl,rfl⟩
end
section
open Go.RowKit Go Go.Shelf
theorem nG.sub {l m:List VV} (h:nG l) (k:∀q∈m,q∈l):nG m:=fun q hq=>h q (k q hq)
section
variable {P:Program} {t e bytes:Nat} {z:Value}
theorem RL (E:El2 P t e bytes z) {ops:Array Oper} {rest:List Oper} {o:Oper} {a:Act} {Q:Exit->Act->World->Prop} {w:World} (hgd:o.guard=none) (s x:iM)
  (ho:o.op=.call {callee:=.builtin .append,args:=#[s,x],argTypes:=#[t,t]}) (base:Nat) (v:Value) (l:List VV) (hs:a.eval s=v) (hown:OwP w base e v l)
  (sv:Value) (m:List VV) (hx:a.eval x=sv) (hsrc:kK w sv m) (h1:nG m) (hroom:(l.length+m.length)*bytes<=140737488355328) (hbase:base<=w.heap.size)
  (h:∀v' w',OwP w' base e v' (l++m)->Below base w w'->w.grownBy w' v.ownBlock->wpList P ops Q rest (a.put o.dst v') w'):wpList P ops Q (o::rest) a w:=by
 refine wpList_plain hgd fun K hK=>?_
 obtain⟨v',w',hr,q1,q2,q3⟩:=JL E o.type base v l hown sv m hsrc h1 hroom hbase;unfold lX execOp;simp only[ho,resolve,invoke,builtin,vL,GF,GG,GH,pG,xS,hs,hx,hr];exact hK _ _ (h v' w' q1 q2 q3)
theorem CR (E:El2 P t e bytes z) {ops:Array Oper} {o:Oper} {a:Act} {K:Act->World->Prop} {Q:Exit->Act->World->Prop} {E':Prop} {w:World} (hgd:o.guard=none) (s x:iM)
  (ho:o.op=.call {callee:=.builtin .append,args:=#[s,x],argTypes:=#[t,t]}) (base:Nat) (v:Value) (l:List VV) (hs:a.eval s=v) (hown:OwP w base e v l)
  (sv:Value) (m:List VV) (hx:a.eval x=sv) (hsrc:kK w sv m) (h1:nG m) (hroom:(l.length+m.length)*bytes<=140737488355328) (hbase:base<=w.heap.size)
  (h:∀v' w',OwP w' base e v' (l++m)->Below base w w'->w.grownBy w' v.ownBlock->K (a.put o.dst v') w'):if nR o (yielded ops a.tmps)=true then lX P o a w K Q else E':=by
 have hw:nR o (yielded ops a.tmps)=true:=by simp[nR,hgd]
 rw[if_pos hw];obtain⟨v',w',hr,q1,q2,q3⟩:=JL E o.type base v l hown sv m hsrc h1 hroom hbase;unfold lX execOp;simp only[ho,resolve,invoke,builtin,vL,GF,GG,GH,pG,xS,hs,hx,hr];exact h v' w' q1 q2 q3
end
end
section
open Go.RowKit
theorem aG6 (s:ByteArray) (k:Nat) (w:World) (hn:s.size<=1000000) (hk:k<=s.size):
  Calls Tryz.prog 154 #[.string s,.int .i64 (k:Int)] w fun e w'=>e=.returned (.string (mkS (rot s k)))/\Below w.heap.size w w':=by
 have e:=JR s k;have HE:=hid e;clear e;go_enter Tryz.func154,Tryz.ntmps154;go_wp2
 go_quiet (fail)
 go_wp2;go_ret;exact⟨tY HE.out,iI (aB _ _) _⟩
theorem RS (s:ByteArray) (k:Nat) (w:World) (hn:s.size<=1000000) (hk:k<=s.size):
  Calls Tryz.prog 154 #[.string s,.int .i64 (k:Int)] w fun e w'=>e=.returned (.string (mkS (rot s k)))/\∃m,w'=w.drewN m:=by
 have e:=JR s k;have HE:=hid e;clear e;go_enter Tryz.func154,Tryz.ntmps154;go_wp2
 go_quiet (fail)
 go_wp2;go_ret;exact⟨tY HE.out,_,rfl⟩
theorem aG7 (s:ByteArray) (w:World) (hn:s.size<=1000000)
  (hord:∀w,Calls Tryz.prog 153 #[.string s] w fun e w'=>∃v o,e=.returned v/\Ord (bX s) s.size s.size o/\OwI w' w.heap.size v (gI s.size o)/\Below w.heap.size w w'):
  Calls Tryz.prog 98 #[.string s] w fun e w'=>
   ∃o,Ord (bX s) s.size s.size o/\e=.returned (.tuple #[.string (mkS (dM s o s.size)),.int .i64 ((fD o s.size:Nat):Int)])/\Below w.heap.size w w':=by
 have HORD:=hid hord;clear hord;go_enter Tryz.func98,Tryz.ntmps98;go_wp2_with fail;refine(HORD.out _).mono ?_;rintro e w1 ⟨v,o,rfl,hO,hown,hbel⟩;obtain⟨a,cap,rfl,hca,hma,hA⟩:=hown.rd.open;rw[mL] at hca hA ⊢;unfold maxLen at hma;have HO:=hid hO;have HA:=hid hA;clear hO hA hown;go_wp2_with fail
 go_loopg [5,6,7,8] s.size (fun gh s5 s6 s7 _s8 wr=>∃k:Nat,k<=s.size/\gh=s.size-k/\s7=.int .i64 k/\s6=.int .i64 ((fD o k:Nat):Int)/\s5=.string (mkS (dM s o k))/\Below w1.heap.size w1 wr)
 case atStart=>exact⟨0,aU _,rfl,rfl,rfl,rfl,aB _ _⟩
 case round=>
  obtain⟨k,hk,hg,rfl,rfl,rfl,hbel1⟩:=hrel;have HG:=hid hg;clear hg
  by_cases hlt:k<s.size
  ·obtain⟨b,off,rfl,hbl,hc⟩:=HA.out (by omega);have hok:=HO.out.rng k hlt;obtain⟨kk,hkk⟩:∃kk,kk=(o k).toNat:=⟨_,rfl⟩;have ek:o k=(kk:Int):=by omega
   have hkn:kk<s.size:=by omega
   have c1:=(hbel1.cell (p:=⟨b,off+k,none⟩) hbl).trans (hc k _ (wC _ _ _ hlt));rw[ek] at c1;have EK:=hid ek;have HKK:=hid hkk;clear ek hkk hok hc;go_wp2_with fail;refine(aG6 s kk _ hn (by omega)).mono ?_;rintro e w2 ⟨rfl,hb2⟩;obtain⟨t,ht⟩:∃t,t=mkS (rot s kk):=⟨_,rfl⟩;rw[<-ht];have hts:t.size=s.size:=by rw[ht,cP,yO _ _ (by omega)]
   obtain⟨d,hd⟩:∃d,d=s.size-1:=⟨_,rfl⟩;have hdn:d<s.size:=by omega
   have hdt:d<t.size:=by omega
   have ed:(s.size:Int)-1=(d:Int):=by omega
   obtain⟨C,hC⟩:∃C,C=mkS [s.data.toList.getD ((kk+d)%s.size) 0]:=⟨_,rfl⟩;have hbyte:t.extract d s.size=C:=by
    have h1:=JQ s kk d hkn hdn;have h2:=BI t d hdt;rw[show d+1=s.size by omega] at h2;rw[h2,hC,show t.data.toList=rot s kk by rw[ht];rfl,fF,h1];rfl
   have hCs:C.size=1:=by rw[hC];rfl
   obtain⟨S,hS⟩:∃S,S=mkS (dM s o k):=⟨_,rfl⟩;rw[<-hS];have hSs:S.size<=1000000:=by rw[hS,cP,sY];omega
   have hnext:mkS (dM s o (k+1))=S++C:=by
    rw[hS,hC,pM,JS,<-HKK.out,<-hd]
   have HN:=hid hnext;have HD:=hid hd;have hbel2:=hbel1.trans (hb2.mono hbel1.size);have c1':=(hb2.cell (p:=⟨b,off+k,none⟩) (iO wr _ c1)).trans c1;have hle:d<=s.size:=by omega
   clear hbel1 ht hd hC hS hnext c1
   by_cases h0:kk=0
   ·have t1:((kk:Int)==0)=true:=by rw[beq_iff_eq];omega
    go_wp2_with fail;have hg:=HG.out
    go_roundg (s.size-(k+1))
    case measure=>omega
    case rel=>
     refine⟨k+1,by omega,rfl,by go_num,?_,by rw[HN.out],hbel2⟩;unfold fD;rw[if_pos (by rw[EK.out];omega)]
   ·have t1:((kk:Int)==0)=false:=by rw[beq_eq_false_iff_ne];omega
    go_wp2_with fail;have hg:=HG.out
    go_roundg (s.size-(k+1))
    case measure=>omega
    case rel=>
     refine⟨k+1,by omega,rfl,by go_num,?_,by rw[HN.out],hbel2⟩;show _=bO .i64 (((if o k=0 then k else fD o k:Nat)):Int);rw[if_neg (by rw[EK.out];omega)]
  ·have hke:k=s.size:=by omega
   subst hke;go_wp2_with fail
   go_ret2
   exact⟨o,HO.out,rfl,hbel.trans (hbel1.mono hbel.size)⟩
theorem aHa:∀(t:Nat) (x y:List UInt8) (p q:UInt8),(∀u,u<t->x[u]? =y[u]?)->x[t]? =some p->y[t]? =some q->p.toNat<q.toNat->oL x y=true:=by
 intro t
 induction t with
 |zero=>
  intro x y p q _ hx hy hpq
  cases x with
  |nil=>simp at hx
  |cons a x=>
   cases y with
   |nil=>simp at hy
   |cons b y=>
    simp at hx hy;subst hx;subst hy;simp[oL,NZ,hpq]
 |succ t ih=>
  intro x y p q h hx hy hpq
  cases x with
  |nil=>simp at hx
  |cons a x=>
   cases y with
   |nil=>simp at hy
   |cons b y=>
    have h0:=h 0 (by omega);simp at h0 hx hy;subst h0;have:=ih x y p q (fun u hu=>by have:=h (u+1) (by omega);simpa using this) hx hy hpq;simp[oL,this]
theorem aHb (x:List UInt8):oL x x=false:=by
 induction x with
 |nil=>rfl
 |cons a x ih=>simp[oL,ih]
theorem RT (s:ByteArray) {a b i:Nat} (ha:a<s.size) (hb:b<s.size) (hi:i<s.size) (h:bX s (a+i)=bX s (b+i)):(rot s a)[i]? =(rot s b)[i]? :=by
 obtain⟨x,hx,ex⟩:=yP s ha hi;obtain⟨y,hy,ey⟩:=yP s hb hi;rw[hx,hy];have:x=y:=UInt8.toNat_inj.1 (by omega);rw[this]
theorem aHc (s:ByteArray) {a b:Nat} (ha:a<s.size) (hb:b<s.size) (h:eqm (bX s) s.size a b):rot s a=rot s b:=by
 apply jA;intro i
 by_cases hi:i<s.size
 ·exact RT s ha hb hi (h i hi)
 ·rw[dL (by rw[yO _ _ (by omega)];omega),dL (by rw[yO _ _ (by omega)];omega)]
theorem RU (s:ByteArray) {a b:Nat} (ha:a<s.size) (hb:b<s.size) (h:ltm (bX s) s.size a b):oL (rot s a) (rot s b)=true:=by
 obtain⟨t,t1,t2,t3⟩:=h;obtain⟨x,hx,ex⟩:=yP s ha t1;obtain⟨y,hy,ey⟩:=yP s hb t1;exact aHa t _ _ x y (fun u hu=>RT s ha hb (by omega) (t2 u hu)) hx hy (by omega)
end
section
theorem aHd:∀(x y:List UInt8),oL x y=true->oL y x=false:=by
 intro x
 induction x with
 |nil=>
  intro y h
  cases y with
  |nil=>rfl
  |cons b y=>rfl
 |cons a x ih=>
  intro y h
  cases y with
  |nil=>simp[oL] at h
  |cons b y=>
   simp only[oL,Bool.or_eq_true,Bool.and_eq_true,decide_eq_true_eq,beq_iff_eq,Bool.or_eq_false_iff,Bool.and_eq_false_iff,decide_eq_false_iff_not] at h ⊢;rcases h with h|⟨h1,h2⟩
   ·exact⟨fun h'=>by rw[NZ] at h h';omega,.inl (by rw[beq_eq_false_iff_ne];intro e;rw[e,NZ] at h;omega)⟩
   ·exact⟨fun h'=>by rw[h1,NZ] at h';omega,.inr (ih y h2)⟩
theorem aHe (s:ByteArray) {a b:Nat} (ha:a<s.size) (hb:b<s.size):oL (rot s a) (rot s b)=true↔ltm (bX s) s.size a b:=by
 constructor
 ·intro h;rcases uL (bX s) a b s.size with p|p|p
  ·exact p
  ·rw[aHc s ha hb p,aHb] at h;exact tQ h
  ·have:=aHd _ _ (RU s hb ha p);rw[this] at h;exact tQ h
 ·exact RU s ha hb
def mM (L:List Int) (j:Nat) (k:Int):List Int:=L.take j++k::L.drop j
theorem JT (L:List Int) (j:Nat) (k:Int):(mM L j k).length=L.length+1:=by
 unfold mM;rw[aL,cR,aX,cI];omega
theorem JU {R:Int->Int->Prop} {L:List Int} {j:Nat} {k:Int} (h:L.Pairwise R) (h1:∀x∈L.take j,R x k) (h2:∀x∈L.drop j,R k x):(mM L j k).Pairwise R:=by
 unfold mM;rw[aCg];refine⟨h.sublist (aCl _ _),?_,?_⟩
 ·rw[List.pairwise_cons];exact⟨h2,h.sublist (List.drop_sublist _ _)⟩
 ·intro a ha b hb;rcases kD.1 hb with rfl|hb
  ·exact h1 a ha
  ·rw[<-List.take_append_drop j L,aCg] at h;exact h.2.2 a ha b hb
theorem JV {L:List Int} {j:Nat} {k:Nat} (h:∀x∈L,0<=x/\x<(k:Int)):∀x∈mM L j k,0<=x/\x<((k+1:Nat):Int):=by
 intro x hx;unfold mM at hx;rcases cU.1 hx with hx|hx
 ·have:=h x (nO hx);omega
 ·rcases kD.1 hx with rfl|hx
  ·omega
  ·have:=h x (xU hx);omega
theorem aHf {c:Nat->Nat} {n:Nat} {L:List Int} (h:L.Pairwise (bef c n)) {j:Nat} {y k:Int} (hj:0<j) (hy:L[j-1]? =some y) (hk:bef c n y k):∀x∈L.take j,bef c n x k:=by
 intro x hx;obtain⟨i,hi,rfl⟩:=List.mem_iff_getElem.1 hx;rw[aX] at hi;rw[List.getElem_take];obtain⟨hl,hy'⟩:=eU.1 hy;rcases Nat.lt_or_ge i (j-1) with p|p
 ·have:=xO.1 h i (j-1) (by omega) hl p;rw[hy'] at this;exact(vW c n).tr _ _ _ this hk
 ·have:i=j-1:=by omega
  subst this;rw[hy'];exact hk
theorem aHg {c:Nat->Nat} {n:Nat} {L:List Int} (hl:L.length=n) (hr:∀x∈L,0<=x/\x<(n:Int)) (hs:L.Pairwise (bef c n)):Ord c n n (fun k=>L.getD k 0):=by
 subst hl;refine⟨fun k hk=>hr _ (by simp[fF,aN hk]),fun i j _ h2 h3=>?_⟩;have:=xO.1 hs i j (by omega) h3 h2
 simpa [fF,aN h3,aN (show i<L.length by omega)] using this
end
section
open Go.RowKit
theorem qN {ops:Array Oper} {o:Oper} {a:Act} {K:Act->World->Prop} {Q:Exit->Act->World->Prop} {E:Prop} {w:World} (hgd:o.guard=none) (s x:iM)
  (ho:o.op=.call {callee:=.builtin .append,args:=#[s,x],argTypes:=#[27,27]}) (base:Nat) (v:Value) (l:List Int) (hs:a.eval s=v) (hown:OwI w base v l)
  (ad:Addr) (m c:Nat) (new:List Int) (hx:a.eval x=.slice (some ad) m c) (hl:new.length=m) (hnews:∀j y,new[j]? =some y->w.cell? (ad.add j)=some (.int .i64 y)) (hroom:(l.length+m)*8<=140737488355328) (hbase:base<=w.heap.size)
  (h:∀v' w',OwI w' base v' (l++new)->Below base w w'->w.grownBy w' v.ownBlock->K (a.put o.dst v') w'):if nR o (yielded ops a.tmps)=true then lX Tryz.prog o a w K Q else E:=by
 have hw:nR o (yielded ops a.tmps)=true:=by simp[nR,hgd]
 rw[if_pos hw];obtain⟨i,hi,hz,h2,h3⟩:=gL.info;have h4:(bO .i64 0).cells.size=1:=by rw[gL.cells];rfl
 have hown':w.ownsRow base 3 1 v l.length (l.map (bO .i64)):=by have:=hown;unfold OwI Ow at this;rwa[bJ] at this
 refine wp_append_own w s x _ ho base 3 i _ 1 8 gL.under hi hz h2 h3 h4 (by decide) v l.length _ hs hown' ad m c (new.map (bO .i64)) hx (by simp[hl]) ?_ ?_ (by simp only[maxLen];omega) hroom hbase (fun v' w' q1 q2 _=>h v' w' ?_ (rC hown' q2 hbase) q2)
 ·intro j u hu;rw[List.getElem?_map] at hu
  cases hn:new[j]? with
  |none=>rw[hn] at hu;simp at hu
  |some y=>rw[hn] at hu;simp at hu;subst hu;exact hnews j y hn
 ·intro u hu;obtain⟨y,_,rfl⟩:=dU.1 hu;rfl
 ·unfold OwI Ow;rw[fI];rw[aL,bJ,bJ,hl];exact q1
theorem RV {ops:Array Oper} {o:Oper} {a:Act} {K:Act->World->Prop} {Q:Exit->Act->World->Prop} {E:Prop} {w:World} (hgd:o.guard=none) (s x:iM)
  (ho:o.op=.call {callee:=.builtin .append,args:=#[s,x],argTypes:=#[27,27]}) (base:Nat) (v:Value) (l:List Int) (hs:a.eval s=v) (hown:OwI w base v l)
  (hx:a.eval x=.slice none 0 0)
  (h:K (a.put o.dst v) w):if nR o (yielded ops a.tmps)=true then lX Tryz.prog o a w K Q else E:=by
 have hw:nR o (yielded ops a.tmps)=true:=by simp[nR,hgd]
 rw[if_pos hw];obtain⟨i,hi,_,_,_⟩:=gL.info;have hown':w.ownsRow base 3 1 v l.length (l.map (bO .i64)):=by have:=hown;unfold OwI Ow at this;rwa[bJ] at this
 have hrun:=run_append_owned_none (P:=Tryz.prog) (w:=w) base _ o.type 3 i 1 gL.under hi v l.length _ hown';unfold lX;simp[execOp,ho,resolve,invoke,builtin,hs,hx,hrun,Result.andThen];exact h
theorem RW (b off j:Nat):(⟨b,off,none⟩:Addr).add j=⟨b,off+j,none⟩:=by unfold iN;split<;>simp_all
theorem yQ {wr w:World} {b off:Nat} {L:List Int} (hb:b<wr.heap.size) (hc:∀j x,L[j]? =some x->wr.cell? ⟨b,off+j,none⟩=some (.int .i64 x)) (h:Below wr.heap.size wr w/\wr.heap.size<=w.heap.size) (n:Nat):
  (∀j y,(L.take n)[j]? =some y->w.cell? ((⟨b,off,none⟩:Addr).add j)=some (.int .i64 y))/\(∀j y,(L.drop n)[j]? =some y->w.cell? ((⟨b,off+n,none⟩:Addr).add j)=some (.int .i64 y)):=by
 refine⟨fun j y hy=>?_,fun j y hy=>?_⟩
 ·rw[RW,h.1.cell (p:=⟨b,off+j,none⟩) hb]
  by_cases hj:j<n
  ·rw[mB hj] at hy;exact hc j y hy
  ·rw[List.getElem?_take_eq_none (by omega)] at hy;simp at hy
 ·rw[RW,h.1.cell (p:=⟨b,off+n+j,none⟩) hb];rw[gR] at hy;rw[Nat.add_assoc];exact hc _ y hy
theorem wD {B:Nat} {w0 w1 w2:World} (h:Below B w0 w1/\B<=w1.heap.size) (hb:Below B w1 w2):Below B w0 w2/\B<=w2.heap.size:=⟨h.1.trans hb,aW h.2 hb.size⟩
theorem uQ {B:Nat} {w0 w1:World} (h:Below B w0 w1/\B<=w1.heap.size) (o:Obj):Below B w0 (w1.alloc o)/\B<=(w1.alloc o).heap.size:=⟨h.1.alloc h.2 o,aW h.2 (by simp)⟩
theorem CU {B:Nat} {w0 w1:World} (h:Below B w0 w1) (hB:B<=w1.heap.size) (n:Nat):Below B w0 (w1.drewN n).drew/\B<=(w1.drewN n).drew.heap.size:=⟨(iI h n).drew,hB⟩
theorem CV {B:Nat} {w0 w1:World} (h:Below B w0 w1) (hB:B<=w1.heap.size) (n:Nat) (o:Obj):Below B w0 ((w1.drewN n).alloc o)/\B<=((w1.drewN n).alloc o).heap.size:=uQ ⟨iI h n,hB⟩ o
theorem CW {W w':World} {p:Addr} {v:Value} (hg:W.grownBy w' none) (hc:W.cell? p=some v):w'.cell? p=some v:=by
 rw[<-hc];exact World.cell?_of_block (w:=W) (hg.block p.block (iO W p hc) (by simp))
theorem sZ {w:World} {g:Nat} {x:Int} (h:w.cell? ⟨g,0,none⟩=some (.int .i64 x)):∀j y,[x][j]? =some y->w.cell? ((⟨g,0,none⟩:Addr).add j)=some (.int .i64 y):=by
 intro j y hy
 cases j with
 |zero=>simp at hy;subst hy;simpa [iN] using h
 |succ j=>simp at hy
theorem aHh (s:ByteArray) (w:World) (hn:s.size<=1000000):
  Calls Tryz.prog 153 #[.string s] w fun e w'=>∃v o,e=.returned v/\Ord (bX s) s.size s.size o/\OwI w' w.heap.size v (gI s.size o)/\Below w.heap.size w w':=by
 go_enter Tryz.func153,Tryz.ntmps153;go_wp2_with fail
 go_loopg [3,4,5] s.size (fun gh s3 s4 _s5 wr=>∃(k:Nat) (L:List Int),k<=s.size/\gh=s.size-k/\s4=.int .i64 k/\OwI wr w.heap.size s3 L/\Hid (L.length=k/\(∀x∈L,0<=x/\x<(k:Int))/\L.Pairwise (bef (bX s) s.size))/\(k=0->s3=.slice none 0 0)/\Below w.heap.size w wr)
 case atStart=>exact⟨0,[],aU _,rfl,rfl,OwI.nil _ _,hid ⟨rfl,fun x hx=>by simp at hx,List.Pairwise.nil⟩,fun _=>rfl,aB _ _⟩
 case round=>
  obtain⟨k,L,hk,hg,rfl,hown,HL,hnil,hbel⟩:=hrel;have HG:=hid hg;have HNIL:=hid hnil;clear hg hnil
  by_cases hlt:k<s.size
  ·obtain⟨va,cap,rfl,hca,hma,hA⟩:=hown.rd.open;rw[HL.out.1] at hca hA ⊢;unfold maxLen at hma;have HA:=hid hA;have HOWN:=hid hown;clear hA hown;obtain⟨wo,rfl⟩:∃wo:World,wo=wr:=⟨_,rfl⟩;go_wp2_with fail
   go_loopg [5] k (fun gh s5 wr=>∃j:Nat,j<=k/\gh=j/\s5=.int .i64 j/\Hid (∀x∈L.drop j,bef (bX s) s.size (k:Int) x)/\Below wo.heap.size wo wr)
   case atStart=>exact⟨k,aA _,rfl,rfl,hid (fun x hx=>by rw[qY (by rw[HL.out.1];exact aA _)] at hx;simp at hx),aB _ _⟩
   case round=>
    obtain⟨j,hj,hg,rfl,HD,hbel1⟩:=hrel;have HG2:=hid hg;clear hg;rcases fJ j with h0|h0
    ·have t1:decide (0<j)=false:=decide_eq_false (by omega);have HT:=hid (show ∀x∈L.take j,bef (bX s) s.size x (k:Int) from fun x hx=>by rw[h0] at hx;simp at hx);have HJ0:=hid h0;clear h0;go_wp2_with fail
     go_quiet (fail)
     go_wp2_with fail;rcases fJ k with hk0|hk0
     ·have hsl:=HNIL.out hk0;rw[aCd] at hsl;obtain⟨rfl,_,rfl⟩:=hsl;have hL0:L=[]:=List.eq_nil_of_length_eq_zero (by rw[HL.out.1];exact hk0);subst hk0;have hj0:j=0:=HJ0.out;subst hj0
      go_region_held3 (fun w'=>Below wo.heap.size wo w'/\wo.heap.size<=w'.heap.size)
       (first
        |with_reducible assumption
        |with_reducible exact uQ (by assumption) _
        |with_reducible exact wD (by assumption) (by assumption)
        |with_reducible exact CU hbel1 hbel1.size _
        |with_reducible exact CV hbel1 hbel1.size _ _)
       (first
        |(refine RV rfl _ _ rfl wo.heap.size (.slice none 0 0) [] rfl (OwI.nil _ _) rfl ?_)
        |(refine qN rfl _ _ rfl wo.heap.size _ [] rfl (OwI.nil _ _) ⟨_,0,none⟩ 1 1 [((0:Nat):Int)] rfl rfl ?_ ?_ ?_ ?_;(first|exact sZ (bS _ _ _)|exact sZ (CW (by assumption) (by exact bS _ _ _)));(simp only[cX];omega);(exact(show Below wo.heap.size wo _/\wo.heap.size<=_ by assumption).2);intro v2 w2 hown2 hB2 hg2)
        |(refine RV rfl _ _ rfl wo.heap.size _ ([]++[((0:Nat):Int)]) rfl (by assumption) rfl ?_))
      all_goals go_wp2_with fail
      all_goals
       have hg:=HG.out
       go_roundg (s.size-(0+1))
       case measure=>omega
       case rel=>
        have hS:Below wo.heap.size wo _/\wo.heap.size<=_:=(show Below wo.heap.size wo w2/\wo.heap.size<=w2.heap.size by assumption);refine⟨0+1,[((0:Nat):Int)],by omega,rfl,by go_num,?_,hid ⟨rfl,fun x hx=>by simp at hx;omega,List.pairwise_singleton _ _⟩,fun e=>by omega,hbel.trans (hS.1.mono hbel.size)⟩;exact Ow.base hown2 hbel.size
     ·obtain⟨b,off,rfl,hbl,hc⟩:=HA.out hk0;have HC:=hid hc;have HLL:=hid HL.out.1;clear hc;have hjk1:(j:Int)<=(k:Int):=by omega
      have hjc:j<=cap:=by omega
      have hcj:¬cap=j:=by have:=HJ0.out;omega
      go_region_held3 (fun w'=>Below wo.heap.size wo w'/\wo.heap.size<=w'.heap.size)
       (first
        |with_reducible assumption
        |with_reducible exact uQ (by assumption) _
        |with_reducible exact wD (by assumption) (by assumption)
        |with_reducible exact CU hbel1 hbel1.size _
        |with_reducible exact CV hbel1 hbel1.size _ _)
       (first
        |(refine qN rfl _ _ rfl wo.heap.size (.slice none 0 0) [] rfl (OwI.nil _ _) ⟨b,off,none⟩ j cap (L.take j) rfl ?_ ?_ ?_ ?_ ?_;(rw[aX,HLL.out];omega);(exact(yQ hbl HC.out (by assumption) j).1);(simp only[cX];omega);(exact(show Below wo.heap.size wo _/\wo.heap.size<=_ by assumption).2);intro v1 w1 hown1 hB1 hg1)
        |(refine qN rfl _ _ rfl wo.heap.size _ ([]++L.take j) rfl (by first|assumption|exact OwI.alloc (by assumption) _) ⟨_,0,none⟩ 1 1 [(k:Int)] rfl rfl ?_ ?_ ?_ ?_;(first|exact sZ (bS _ _ _)|exact sZ (CW (by assumption) (by exact bS _ _ _)));(simp only[aL,cX,aX];omega);(exact(show Below wo.heap.size wo _/\wo.heap.size<=_ by assumption).2);intro v2 w2 hown2 hB2 hg2)
        |(refine qN rfl _ _ rfl wo.heap.size _ (([]++L.take j)++[(k:Int)]) rfl (by assumption) ⟨b,off+j,none⟩ (k-j) (cap-j) (L.drop j) rfl ?_ ?_ ?_ ?_ ?_;(rw[cI,HLL.out]);(exact(yQ hbl HC.out (by assumption) j).2);(simp only[aL,cX,aX,cR];omega);(exact(show Below wo.heap.size wo _/\wo.heap.size<=_ by assumption).2);intro v3 w3 hown3 hB3 hg3))
      all_goals go_wp2_with fail
      all_goals
       have hg:=HG.out
       go_roundg (s.size-(k+1))
       case measure=>omega
       case rel=>
        obtain⟨q1,q2,q3⟩:=HL.out;have hS:Below wo.heap.size wo _/\wo.heap.size<=_:=(show Below wo.heap.size wo w3/\wo.heap.size<=w3.heap.size by assumption);refine⟨k+1,mM L j k,by omega,rfl,by go_num,?_,hid ⟨by rw[JT,q1],JV q2,JU q3 HT.out HD.out⟩,fun e=>by omega,hbel.trans (hS.1.mono hbel.size)⟩;have e:([]++L.take j++[(k:Int)])++L.drop j=mM L j k:=by simp[mM]
        rw[<-e];exact Ow.base hown3 hbel.size
    ·have t1:decide (0<j)=true:=decide_eq_true h0;obtain⟨b,off,rfl,hbl,hc⟩:=HA.out (by omega);obtain⟨h1,h2,h3⟩:=HL.out;have hjl:j-1<L.length:=by omega
     have hget:L[j-1]? =some (L.getD (j-1) 0):=by simp[fF,aN hjl]
     have hrg:=h2 _ (cH hget);obtain⟨y,hy⟩:∃y:Nat,L.getD (j-1) 0=(y:Int):=⟨(L.getD (j-1) 0).toNat,by omega⟩;have hyk:y<k:=by omega
     have c1:=(hbel1.cell (p:=⟨b,off+(j-1),none⟩) hbl).trans (hc (j-1) _ hget);rw[hy] at c1;have HY:=hid hy;have s1:aI.wrap ((j:Int)-1)=(j:Int)-1:=tS _ (by omega);have s2:((j:Int)-1).toNat=j-1:=by omega
     have s3:(0:Int)<=(j:Int)-1:=by omega
     have s4:(j:Int)-1<(k:Int):=by omega
     have s6:(1:Int)<=(j:Int):=by omega
     have s9:(j:Int)<=(k:Int):=by omega
     obtain⟨A,hA⟩:∃A,A=mkS (rot s k):=⟨_,rfl⟩;obtain⟨B,hB⟩:∃B,B=mkS (rot s y):=⟨_,rfl⟩;have qa:∀W,Calls Tryz.prog 154 #[.string s,.int .i64 (k:Int)] W fun e w'=>e=.returned (.string A)/\∃m,w'=W.drewN m:=fun W=>by rw[hA];exact RS s k W hn (by omega)
     have qb:∀W,Calls Tryz.prog 154 #[.string s,.int .i64 (y:Int)] W fun e w'=>e=.returned (.string B)/\∃m,w'=W.drewN m:=fun W=>by rw[hB];exact RS s y W hn (by omega)
     have QA:=hid qa;have QB:=hid qb;have hAl:A.toList=rot s k:=by rw[ByteArray.toList_eq,hA];rfl
     have hBl:B.toList=rot s y:=by rw[ByteArray.toList_eq,hB];rfl
     have hiff:oL A.toList B.toList=true↔ltm (bX s) s.size k y:=by rw[hAl,hBl];exact aHe s hlt (by omega)
     have HIFF:=hid hiff;have HC:=hid hc;clear qa qb hAl hBl hiff hA hB hy hrg hget h1 h2 h3 hc
     by_cases hlm:oL A.toList B.toList=true
     ·go_wp2_with fail
      go_quiet (first|(go_at_call_of 154 (bO .i64 (k:Int));refine OB (QA.out _))|(go_at_call_of 154 (bO .i64 (y:Int));refine OB (QB.out _)))
      go_wp2_with fail;have hg2:=HG2.out
      go_roundg (j-1)
      case measure=>omega
      case rel=>
       refine⟨j-1,by omega,rfl,congrArg _ (by omega),hid (fun x hx=>?_),iI hbel1 _⟩;rw[oH hjl,kD] at hx;rcases hx with rfl|hx
       ·have e:L[j-1]=(y:Int):=by rw[<-HY.out];simp[fF,aN hjl]
        rw[e];exact .inl (by simpa using HIFF.out.1 hlm)
       ·rw[show j-1+1=j by omega] at hx;exact HD.out x hx
     ·have hfl:oL A.toList B.toList=false:=by simpa using hlm
      have HLL:=hid HL.out.1;have hjc:j<=cap:=by omega
      have HT:=hid (show ∀x∈L.take j,bef (bX s) s.size x (k:Int) from aHf (y:=(y:Int)) HL.out.2.2 h0 (by simp[<-HY.out,fF,aN hjl]) (by
       rcases uL (bX s) y k s.size with p|p|p
       ·exact .inl (by simpa using p)
       ·exact .inr ⟨by simpa using p,by omega⟩
       ·exact absurd (HIFF.out.2 p) hlm))
      go_wp2_with fail
      go_quiet (first|(go_at_call_of 154 (bO .i64 (k:Int));refine OB (QA.out _))|(go_at_call_of 154 (bO .i64 (y:Int));refine OB (QB.out _)))
      clear hlm hfl c1 s1 s2 s3 s4 s6 hyk;go_wp2_with fail;obtain⟨wq,hwq⟩:∃wq:World,wq=wr:=⟨_,rfl⟩
      by_cases hcj:cap=j
      ·obtain rfl:cap=j:=hcj;obtain rfl:k=cap:=by omega
       go_region_held3 (fun w'=>Below wo.heap.size wo w'/\wo.heap.size<=w'.heap.size)
        (first
         |with_reducible assumption
         |with_reducible exact uQ (by assumption) _
         |with_reducible exact wD (by assumption) (by assumption)
         |with_reducible exact CU hbel1 hbel1.size _
         |with_reducible exact CV hbel1 hbel1.size _ _)
        (first
         |(refine qN rfl _ _ rfl wo.heap.size (.slice none 0 0) [] rfl (OwI.nil _ _) ⟨b,off,none⟩ k k (L.take k) rfl ?_ ?_ ?_ ?_ ?_;(rw[aX,HLL.out];omega);(exact(yQ hbl HC.out (by assumption) k).1);(simp only[cX];omega);(exact(show Below wo.heap.size wo _/\wo.heap.size<=_ by assumption).2);intro v1 w1 hown1 hB1 hg1)
         |(refine qN rfl _ _ rfl wo.heap.size _ ([]++L.take k) rfl (by first|assumption|exact OwI.alloc (by assumption) _) ⟨_,0,none⟩ 1 1 [(k:Int)] rfl rfl ?_ ?_ ?_ ?_;(first|exact sZ (bS _ _ _)|exact sZ (CW (by assumption) (by exact bS _ _ _)));(simp only[aL,cX,aX];omega);(exact(show Below wo.heap.size wo _/\wo.heap.size<=_ by assumption).2);intro v2 w2 hown2 hB2 hg2)
         |(refine qN rfl _ _ rfl wo.heap.size _ (([]++L.take k)++[(k:Int)]) rfl (by assumption) ⟨b,off,none⟩ 0 0 (L.drop k) rfl ?_ ?_ ?_ ?_ ?_;(rw[cI,HLL.out];omega);(intro j y hy;rw[qY (by rw[HLL.out];exact aA _)] at hy;simp at hy);(simp only[aL,cX,aX,cR];omega);(exact(show Below wo.heap.size wo _/\wo.heap.size<=_ by assumption).2);intro v3 w3 hown3 hB3 hg3))
       all_goals go_wp2_with fail
       all_goals
        have hg:=HG.out
        go_roundg (s.size-(k+1))
        case measure=>omega
        case rel=>
         obtain⟨q1,q2,q3⟩:=HL.out;have hS:Below wo.heap.size wo _/\wo.heap.size<=_:=(show Below wo.heap.size wo w3/\wo.heap.size<=w3.heap.size by assumption);refine⟨k+1,mM L k k,by omega,rfl,by go_num,?_,hid ⟨by rw[JT,q1],JV q2,JU q3 HT.out HD.out⟩,fun e=>by omega,hbel.trans (hS.1.mono hbel.size)⟩;have e:([]++L.take k++[(k:Int)])++L.drop k=mM L k k:=by simp[mM]
         rw[<-e];exact Ow.base hown3 hbel.size
      ·go_region_held3 (fun w'=>Below wo.heap.size wo w'/\wo.heap.size<=w'.heap.size)
        (first
         |with_reducible assumption
         |with_reducible exact uQ (by assumption) _
         |with_reducible exact wD (by assumption) (by assumption)
         |with_reducible exact CU hbel1 hbel1.size _
         |with_reducible exact CV hbel1 hbel1.size _ _)
        (first
         |(refine qN rfl _ _ rfl wo.heap.size (.slice none 0 0) [] rfl (OwI.nil _ _) ⟨b,off,none⟩ j cap (L.take j) rfl ?_ ?_ ?_ ?_ ?_;(rw[aX,HLL.out];omega);(exact(yQ hbl HC.out (by assumption) j).1);(simp only[cX];omega);(exact(show Below wo.heap.size wo _/\wo.heap.size<=_ by assumption).2);intro v1 w1 hown1 hB1 hg1)
         |(refine qN rfl _ _ rfl wo.heap.size _ ([]++L.take j) rfl (by first|assumption|exact OwI.alloc (by assumption) _) ⟨_,0,none⟩ 1 1 [(k:Int)] rfl rfl ?_ ?_ ?_ ?_;(first|exact sZ (bS _ _ _)|exact sZ (CW (by assumption) (by exact bS _ _ _)));(simp only[aL,cX,aX];omega);(exact(show Below wo.heap.size wo _/\wo.heap.size<=_ by assumption).2);intro v2 w2 hown2 hB2 hg2)
         |(refine qN rfl _ _ rfl wo.heap.size _ (([]++L.take j)++[(k:Int)]) rfl (by assumption) ⟨b,off+j,none⟩ (k-j) (cap-j) (L.drop j) rfl ?_ ?_ ?_ ?_ ?_;(rw[cI,HLL.out]);(exact(yQ hbl HC.out (by assumption) j).2);(simp only[aL,cX,aX,cR];omega);(exact(show Below wo.heap.size wo _/\wo.heap.size<=_ by assumption).2);intro v3 w3 hown3 hB3 hg3))
       all_goals go_wp2_with fail
       all_goals
        have hg:=HG.out
        go_roundg (s.size-(k+1))
        case measure=>omega
        case rel=>
         obtain⟨q1,q2,q3⟩:=HL.out;have hS:Below wo.heap.size wo _/\wo.heap.size<=_:=(show Below wo.heap.size wo w3/\wo.heap.size<=w3.heap.size by assumption);refine⟨k+1,mM L j k,by omega,rfl,by go_num,?_,hid ⟨by rw[JT,q1],JV q2,JU q3 HT.out HD.out⟩,fun e=>by omega,hbel.trans (hS.1.mono hbel.size)⟩;have e:([]++L.take j++[(k:Int)])++L.drop j=mM L j k:=by simp[mM]
         rw[<-e];exact Ow.base hown3 hbel.size
  ·have hke:k=s.size:=by omega
   subst hke;go_wp2_with fail;go_ret;obtain⟨h1,h2,h3⟩:=HL.out;refine⟨_,_,rfl,aHg h1 h2 h3,?_,hbel⟩;have e:=RO L;rw[h1] at e;rw[e];exact hown
end
section
open Go.RowKit Go Go.Shelf
theorem wE:El2 Tryz.prog 247 249 32 (.agg #[.int .i64 0,.slice none 0 0]):=El2.mk' (by kernel_rfl) Tryz.underlying247 rfl (by decide)
theorem RX {B:Nat} {w0 w1:World} (h:Below B w0 w1) (hB:B<=w1.heap.size):Below B w0 w1.drew/\B<=w1.drew.heap.size:=⟨h.drew,hB⟩
theorem RY (v:Value) (l:List VV) (f:Nat->Int) (w:World) (hr:kK w v l) (hl:0<l.length) (_hl2:l.length<=1000) (hf:∀(j:Nat) (q:VV),l[j]? =some q->q.1=bO .i64 (f j)):
  Calls Tryz.prog 200 #[v] w fun e w'=>e=.returned (.int .i64 (iV f l.length:Int))/\Below w.heap.size w w':=by
 obtain⟨a,ca,rfl,hca,hma,hA⟩:=hr.open;unfold maxLen at hma;obtain⟨b,off,rfl,hb,hc⟩:=hA hl;have HC:=hid (show ∀j,j<l.length->w.cell? ⟨b,off+j*2,none⟩=some (.int .i64 (f j)) from fun j hj=>by
  have e:=aN hj;rw[(hc j _ e).1,hf j _ e])
 clear hA hc hf hr;go_enter Tryz.func200,Tryz.ntmps200;go_wp2_with fail
 go_loopg [3,4] (l.length-1) (fun g s3 s4 wr=>∃k m:Nat,1<=k/\k<=l.length/\g=l.length-k/\s4=.int .i64 (k:Int)/\s3=.int .i64 (m:Int)/\Hid (m=iV f k)/\m<l.length/\Below w.heap.size w wr)
 case atStart=>exact⟨1,0,aA _,hl,by omega,rfl,rfl,hid (by unfold iV;split<;>rfl),hl,aB _ _⟩
 case round=>
  obtain⟨k,m,hk1,hk,hg,rfl,rfl,HM,hm,hbel⟩:=hrel;have HG:=hid hg;clear hg
  by_cases hlt:k<l.length
  ·have u1:decide ((k:Int)<(l.length:Int))=true:=decide_eq_true (by omega);have c1:=(hbel.cell (p:=⟨b,off+k*2,none⟩) hb).trans (HC.out k hlt);have c2:=(hbel.cell (p:=⟨b,off+m*2,none⟩) hb).trans (HC.out m hm);have hst:iV f (k+1)=if f k<f m then k else m:=by rw[HM.out];rfl
   obtain⟨x,hx⟩:∃x,x=f k:=⟨_,rfl⟩;obtain⟨y,hy⟩:∃y,y=f m:=⟨_,rfl⟩;rw[<-hx] at c1 hst;rw[<-hy] at c2 hst;clear hx hy
   by_cases hxy:x<y
   ·have u2:decide (x<y)=true:=decide_eq_true hxy;rw[if_pos hxy] at hst;have HS:=hid hst.symm;clear hst hxy;go_wp2_with fail
    go_quiet (fail)
    go_wp2_with fail;have hg:=HG.out
    go_roundg (l.length-(k+1))
    case measure=>omega
    case rel=>exact⟨k+1,k,by omega,by omega,rfl,by go_num,rfl,HS,hlt,iI hbel _⟩
   ·have u2:decide (x<y)=false:=decide_eq_false hxy;rw[if_neg hxy] at hst;have HS:=hid hst.symm;clear hst hxy;go_wp2_with fail
    go_quiet (fail)
    go_wp2_with fail;have hg:=HG.out
    go_roundg (l.length-(k+1))
    case measure=>omega
    case rel=>exact⟨k+1,m,by omega,by omega,rfl,by go_num,rfl,HS,hm,iI hbel _⟩
  ·have u1:decide ((k:Int)<(l.length:Int))=false:=decide_eq_false (by omega);have hke:k=l.length:=by omega
   subst hke;go_wp2_with fail;go_ret;exact⟨by rw[<-HM.out];rfl,hbel⟩
theorem RZ {wr w:World} {b off cap:Nat} {l:List VV} (hb:b<wr.heap.size) (hc:∀j q,l[j]? =some q->wr.cell? ⟨b,off+j*2,none⟩=some q.1/\wr.cell? ⟨b,off+j*2+1,none⟩=some q.2) (h:Below wr.heap.size wr w/\wr.heap.size<=w.heap.size)
  (k:Nat) (hk:k<=l.length) (h1:k<=cap) (h2:cap<=maxLen):kK w (.slice (some ⟨b,off,none⟩) k cap) (l.take k):=by
 have hl:(l.take k).length=k:=by rw[aX];omega
 refine .inr ⟨b,off,cap,by rw[hl],by omega,h2,by omega,fun j q hq=>?_⟩;have hj:=(eU.1 hq).1;rw[mB (by omega)] at hq;rw[h.1.cell (p:=⟨b,off+j*2,none⟩) hb,h.1.cell (p:=⟨b,off+j*2+1,none⟩) hb];exact hc j q hq
theorem aHi {wr w:World} {b off cap:Nat} {l:List VV} (hb:b<wr.heap.size) (hc:∀j q,l[j]? =some q->wr.cell? ⟨b,off+j*2,none⟩=some q.1/\wr.cell? ⟨b,off+j*2+1,none⟩=some q.2) (h:Below wr.heap.size wr w/\wr.heap.size<=w.heap.size)
  (k:Nat) (h1:l.length<=cap) (h2:cap<=maxLen):kK w (.slice (some ⟨b,off+k*2,none⟩) (l.length-k) (cap-k)) (l.drop k):=by
 refine .inr ⟨b,off+k*2,cap-k,by rw[cI],by rw[cI];omega,by omega,by omega,fun j q hq=>?_⟩;rw[gR] at hq;rw[h.1.cell (p:=⟨b,off+k*2+j*2,none⟩) hb,h.1.cell (p:=⟨b,off+k*2+j*2+1,none⟩) hb,show off+k*2+j*2=off+(k+j)*2 by omega];exact hc _ q hq
theorem aHj {wr w:World} {b off:Nat} (hb:b<wr.heap.size) (h:Below wr.heap.size wr w/\wr.heap.size<=w.heap.size):kK w (.slice (some ⟨b,off,none⟩) 0 0) []:=
 .inr ⟨b,off,0,rfl,aA _,by simp[maxLen],by omega,fun j q hq=>by simp at hq⟩
theorem SA (v:Value) (l:List VV) (i:Nat) (w:World) (hr:kK w v l) (hi:i<l.length) (hl2:l.length<=1000) (h1:nG l):
  Calls Tryz.prog 201 #[v,.int .i64 (i:Int)] w fun e w'=>∃v',e=.returned v'/\OwP w' w.heap.size 249 v' (l.eraseIdx i)/\Below w.heap.size w w':=by
 obtain⟨a,ca,rfl,hca,hma,hA⟩:=hr.open;have HMA:=hid hma;unfold maxLen at hma;obtain⟨b,off,rfl,hb,hc⟩:=hA (by omega);have HC:=hid hc;have HB:=hid hb;have HO1:=hid (h1.sub (m:=l.take i) (fun q hq=>nO hq));have HO2:=hid (h1.sub (m:=l.drop (i+1)) (fun q hq=>xU hq));have hi1:i<=ca:=by omega
 obtain⟨d,hd⟩:∃d,d=i+1:=⟨_,rfl⟩;rw[<-hd] at HO2;have m1:aI.wrap ((i:Int)+1)=(d:Int):=by rw[aM];omega
 have m2:(i:Int)+1=(d:Int):=by omega
 have m3:aI.wrap (d:Int)=(d:Int):=by rw[aM];omega
 have hi2:d<=l.length:=by omega
 have hi3:(d:Int)<=(l.length:Int):=by omega
 have hi4:(0:Int)<=(d:Int):=by omega
 have hi7:¬d*2=0:=by omega
 have HE:=hid (show l.take i++l.drop d=l.eraseIdx i by rw[hd,List.eraseIdx_eq_take_drop_succ]);clear hd;have hin:(i:Int)<=(ca:Int):=by omega
 have hin0:(0:Int)<=(i:Int):=by omega
 have hd1:i<=l.length:=by omega
 clear hA hc hr h1 hi
 by_cases hcap:ca=d
 ·have hll:l.length=d:=by omega
  have HDN:=hid (show l.drop d=[] from qY (by omega));have hsl:∀w,(GN 247 (.slice (some ⟨b,off,none⟩) l.length ca) (some (.int .i64 (d:Int))) none none).run Tryz.prog w=.ok (.slice (some ⟨b,off,none⟩) 0 0) w:=fun W=>by
   simp[go_sem,hcap,hll]
  clear hcap hll;go_enter Tryz.func201,Tryz.ntmps201;go_wp2_with fail
  go_region_held3 (fun w'=>Below w.heap.size w w'/\w.heap.size<=w'.heap.size)
   (first
    |with_reducible assumption
    |with_reducible exact uQ (by assumption) _
    |with_reducible exact wD (by assumption) (by assumption)
    |with_reducible exact RX (aB _ _) (aA _))
   (first
    |(refine CR wE rfl _ _ rfl w.heap.size (.slice none 0 0) [] rfl (OwP.nil _ _ _) (.slice (some ⟨b,off,none⟩) i ca) (l.take i) rfl ?_ ?_ ?_ ?_ ?_;(exact RZ HB.out HC.out (by assumption) i hd1 hi1 HMA.out);(exact HO1.out);(simp only[cX,aX];omega);(exact(show Below w.heap.size w _/\w.heap.size<=_ by assumption).2);intro v1 w1 hown1 hB1 hg1)
    |(refine CR wE rfl _ _ rfl w.heap.size _ ([]++l.take i) rfl (by assumption) (.slice (some ⟨b,off,none⟩) 0 0) [] rfl ?_ ?_ ?_ ?_ ?_;(exact aHj HB.out (by assumption));(exact fun q hq=>by simp at hq);(simp only[aL,cX,aX];omega);(exact(show Below w.heap.size w _/\w.heap.size<=_ by assumption).2);intro v2 w2 hown2 hB2 hg2))
  all_goals
   go_wp2_with fail;go_ret;have hS:Below w.heap.size w w2/\w.heap.size<=w2.heap.size:=by assumption
   refine⟨_,rfl,?_,hS.1⟩;rw[<-HE.out,HDN.out];exact hown2
 ·have hsl:∀w,(GN 247 (.slice (some ⟨b,off,none⟩) l.length ca) (some (.int .i64 (d:Int))) none none).run Tryz.prog w=.ok (.slice (some ⟨b,off+d*2,none⟩) (l.length-d) (ca-d)) w:=fun W=>by
   simp[go_sem,hi3,hcap,iN,hi7]
  go_enter Tryz.func201,Tryz.ntmps201;go_wp2_with fail
  go_region_held3 (fun w'=>Below w.heap.size w w'/\w.heap.size<=w'.heap.size)
   (first
    |with_reducible assumption
    |with_reducible exact uQ (by assumption) _
    |with_reducible exact wD (by assumption) (by assumption)
    |with_reducible exact RX (aB _ _) (aA _))
   (first
    |(refine CR wE rfl _ _ rfl w.heap.size (.slice none 0 0) [] rfl (OwP.nil _ _ _) (.slice (some ⟨b,off,none⟩) i ca) (l.take i) rfl ?_ ?_ ?_ ?_ ?_;(exact RZ HB.out HC.out (by assumption) i hd1 hi1 HMA.out);(exact HO1.out);(simp only[cX,aX];omega);(exact(show Below w.heap.size w _/\w.heap.size<=_ by assumption).2);intro v1 w1 hown1 hB1 hg1)
    |(refine CR wE rfl _ _ rfl w.heap.size _ ([]++l.take i) rfl (by assumption) (.slice (some ⟨b,off+d*2,none⟩) (l.length-d) (ca-d)) (l.drop d) rfl ?_ ?_ ?_ ?_ ?_;(exact aHi HB.out HC.out (by assumption) d hca HMA.out);(exact HO2.out);(simp only[aL,cX,aX,cI];omega);(exact(show Below w.heap.size w _/\w.heap.size<=_ by assumption).2);intro v2 w2 hown2 hB2 hg2))
  all_goals
   go_wp2_with fail;go_ret;have hS:Below w.heap.size w w2/\w.heap.size<=w2.heap.size:=by assumption
   refine⟨_,rfl,?_,hS.1⟩;rw[<-HE.out];exact hown2
theorem JW {ops:Array Oper} {o:Oper} {a:Act} {K:Act->World->Prop} {Q:Exit->Act->World->Prop} {E:Prop} {w:World} (hgd:o.guard=none) (s x:iM)
  (ho:o.op=.call {callee:=.builtin .append,args:=#[s,x],argTypes:=#[27,27]}) (base:Nat) (v:Value) (l:List Int) (hs:a.eval s=v) (hown:OwI w base v l)
  (sv:Value) (m:List Int) (hx:a.eval x=sv) (hsrc:pQ w sv m) (hroom:(l.length+m.length)*8<=140737488355328) (hbase:base<=w.heap.size)
  (h:∀v' w',OwI w' base v' (l++m)->Below base w w'->w.grownBy w' v.ownBlock->K (a.put o.dst v') w'):if nR o (yielded ops a.tmps)=true then lX Tryz.prog o a w K Q else E:=by
 have hw:nR o (yielded ops a.tmps)=true:=by simp[nR,hgd]
 rw[if_pos hw];obtain⟨v',w',hr,q1,q2,q3⟩:=RH o.type base v l hown sv m hsrc hroom hbase;unfold lX execOp;simp only[ho,resolve,invoke,builtin,vL,GF,GG,GH,pG,xS,hs,hx,hr];exact h v' w' q1 q2 q3
theorem CX {w1 w2:World} {b1 o1 b2 o2 b3 o3:Nat} {v1 v2 v3:Value} {B:Nat} {w0:World}
  (h:w1.cell? ⟨b1,o1,none⟩=some v1/\w1.cell? ⟨b2,o2,none⟩=some v2/\w1.cell? ⟨b3,o3,none⟩=some v3/\Below B w0 w1/\B<=w1.heap.size) (hb:Below B w1 w2) (k1:b1<B) (k2:b2<B) (k3:b3<B):
  w2.cell? ⟨b1,o1,none⟩=some v1/\w2.cell? ⟨b2,o2,none⟩=some v2/\w2.cell? ⟨b3,o3,none⟩=some v3/\Below B w0 w2/\B<=w2.heap.size:=by
 obtain⟨h1,h2,h3,h6,h7⟩:=h;exact⟨(hb.cell (p:=⟨b1,o1,none⟩) k1).trans h1,(hb.cell (p:=⟨b2,o2,none⟩) k2).trans h2,(hb.cell (p:=⟨b3,o3,none⟩) k3).trans h3,h6.trans hb,aW h7 hb.size⟩
theorem TOK.erase {w:World} {B bd:Nat} {l:List VV} {r:bQ} (h:TOK w B bd l r) (i:Nat):TOK w B bd (l.eraseIdx i) (r.eraseIdx i):=by
 refine⟨by rw[GJ,GJ,h.1],fun j q p hq hp=>?_⟩;rw[List.getElem?_eraseIdx] at hq hp;split at hq
 ·next k=>rw[if_pos k] at hp;exact h.2 _ _ _ hq hp
 ·next k=>rw[if_neg k] at hp;exact h.2 _ _ _ hq hp
theorem TOK.one {w:World} {B bd:Nat} {l:List VV} {r:bQ} (h:TOK w B bd l r):nG l:=fun q hq=>by
 obtain⟨j,hj⟩:=List.mem_iff_getElem?.1 hq;have hjl:=(eU.1 hj).1;obtain⟨h1,_,_,h4⟩:=h.2 j q _ hj (aN (by rw[<-h.1];exact hjl));exact⟨by rw[h1];rfl,h4⟩
theorem TOK.fst {w:World} {B bd:Nat} {l:List VV} {r:bQ} (h:TOK w B bd l r):∀(j:Nat) (q:VV),l[j]? =some q->q.1=bO .i64 ((fun i=>(r.getD i (0,.leaf 0)).1) j):=fun j q hj=>by
 have hjl:=(eU.1 hj).1;have hjr:j<r.length:=by rw[<-h.1];exact hjl
 have hr:r[j]? =some r[j]:=aN hjr;rw[(h.2 j q _ hj hr).1];show _=bO .i64 (r.getD j (0,.leaf 0)).1;rw[aV,hr];rfl
end
section
theorem SN:∀(n:Nat) (l:List Nat),l.Nodup->(∀x∈l,x<n)->l.length<=n
 |0,l,_,h=>by
  cases l with
  |nil=>simp
  |cons x l=>have:=h x (List.mem_cons_self ..);omega
 |n+1,l,hn,h=>by
  have ih:=SN n (l.erase n) (hn.erase n) (fun x hx=>by
   have h1:=h x (List.mem_of_mem_erase hx);have h2:=(hn.mem_erase_iff.1 hx).1;omega)
  by_cases hm:n∈l
  ·rw[List.length_erase_of_mem hm] at ih;omega
  ·rw[List.erase_of_not_mem hm] at ih;omega
theorem SO (ws:List Int) (t:Nat) (ht:t<ws.length) {p:Int×HT} (hp:p∈bP ws t):∀x∈p.2.leaves,x<ws.length:=fun x hx=>by
 rw[<-HT.deep_map p.2 0] at hx;obtain⟨q,hq,rfl⟩:=dU.1 hx;exact((qM.all ws t ht).2 p hp q hq).1
def lG (ws:List Int) (t:Nat):List Nat:=(bM (bP ws t)).1.2.leaves++(bM (bM (bP ws t)).2).1.2.leaves
theorem KF (ws:List Int) (t:Nat) (ht:t+1<ws.length):(lG ws t).Nodup/\(∀x∈lG ws t,x<ws.length)/\(lG ws t).length<=ws.length:=by
 have hl:=pR ws t (by omega);obtain⟨a,b,s,hp,he,ea,eb,_,_,_⟩:=qL (ws.length+t) (bP ws t) (by omega);obtain⟨h1,_⟩:=JM (jT.all ws t (by omega)).nodup hp;have ha:a∈bP ws t:=hp.mem_iff.1 (by simp);have hb:b∈bP ws t:=hp.mem_iff.1 (by simp);unfold lG;rw[ea,eb];have h2:∀x∈a.2.leaves++b.2.leaves,x<ws.length:=fun x hx=>by
  rcases cU.1 hx with hx|hx
  ·exact SO ws t (by omega) ha x hx
  ·exact SO ws t (by omega) hb x hx
 exact⟨h1,h2,SN _ _ h1 h2⟩
theorem SP (ws:List Int) (t:Nat):gO ws (t+1)=jJ (gO ws t) (lG ws t):=rfl
theorem SQ (ws:List Int):∀t,t<ws.length->∀j,j<ws.length->0<=(gO ws t).getD j 0/\(gO ws t).getD j 0<=(t:Int)
 |0,_,j,hj=>by simp[gO,hj]
 |t+1,ht,j,hj=>by
  have ih:=SQ ws t (by omega) j hj;have hl:=rN ws t;rw[SP,vZ _ _ (KF ws t ht).1 j (by omega)];split<;>omega
theorem aHn (deep:List Int) (all:List Nat) (y:Nat):jJ deep (all++[y])=(jJ deep all).set y ((jJ deep all).getD y 0+1):=by
 unfold jJ;rw[List.foldl_append];rfl
theorem aHo (ws:List Int) (t:Nat) (ht:t+1<ws.length) {j y:Nat} (hy:(lG ws t)[j]? =some y):y<ws.length/\∃d:Int,(jJ (gO ws t) ((lG ws t).take j))[y]? =some d/\0<=d/\d<=1000+(ws.length:Int)/\
  jJ (gO ws t) ((lG ws t).take (j+1))=(jJ (gO ws t) ((lG ws t).take j)).set y (d+1):=by
 obtain⟨h1,h2,h3⟩:=KF ws t ht;have hyl:=h2 y (cH hy);have hl:(jJ (gO ws t) ((lG ws t).take j)).length=ws.length:=by rw[CS,rN]
 have hg:=vZ ((lG ws t).take j) (gO ws t) (h1.sublist (aCl _ _)) y (by rw[rN];exact hyl);have hd:=SQ ws t (by omega) y hyl;have hsome:(jJ (gO ws t) ((lG ws t).take j))[y]? =some ((jJ (gO ws t) ((lG ws t).take j)).getD y 0):=by
  rw[aV,aN (by omega)];rfl
 refine⟨hyl,_,hsome,?_,?_,?_⟩
 ·rw[hg];split<;>omega
 ·rw[hg];split<;>omega
 ·rw[cQ,hy,Option.toList_some,aHn]
end
end Go.Proofs.YtiifmcicleljjaaGreatDoor
