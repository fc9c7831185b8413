/- The walks and the plain laws, part 8. -/
import Derived.Deep.Cut
import Derived.Laws.IdiomCopy
import Derived.Lib.BytesEntry
import Derived.Lib.ConvBytes
import Derived.Test.YtiifmcicleljjaaGreatDoorT6
set_option maxRecDepth 100000
set_option maxHeartbeats 12800000
set_option linter.unusedVariables false
open Go renaming bodyPost_ret->gJ,heap_setCell_other->kT,wpList_plain->AD
open Go.IntKind renaming i64->aI,u8->pX,wrap_i64->aM,wrap_u8->xQ
open Go.Lib renaming bytesWorld_size->aCt
open Go.Oper renaming wp->lX
open Go.Result renaming andThen->jB
open Go.RowKit.Below renaming heap_alloc->oF,refl->aB
open Go.World renaming cell?_of_block->oK,cell?_setCell_other->iQ,cell?_setCell_same->oM,cell?_setCells_out->aTi,frozen?_of_block->OI,frozen?_setCell->AU,grownBy_alloc->AV,size_alloc->fV
open Int renaming toNat_natCast->eG
open List renaming append_assoc->cF,append_nil->eE,drop_drop->xM,drop_eq_getElem_cons->oH,drop_eq_nil_of_le->AT,drop_of_length_le->qY,drop_zero->AP,getD->fF,getD_eq_getElem?_getD->aV,getElem?_append_left->gS,getElem?_append_right->jY,getElem?_drop->gR,getElem?_eq_getElem->aN,getElem?_eq_none->dL,getElem?_eq_some_iff->eU,getElem?_set_ne->qU,getElem?_take_of_lt->mB,length->tM,length_append->aL,length_cons->cR,length_drop->cI,length_map->bJ,length_nil->cX,length_replicate->vO,length_singleton->fK,length_take->aX,mem_map->dU,mem_of_getElem?->cH,mem_of_mem_drop->xU,mem_of_mem_take->nO,replicate->bB,replicate_succ'->AI,take_add_one->cQ,take_append_drop->jE,take_of_length_le->cS,take_zero->FX
open Nat renaming eq_zero_or_pos->fJ,le_refl->aA,le_trans->aW,lt_of_lt_of_le->dR,lt_or_ge->bT,min_eq_left->gU,mul_one->sE,zero_add->iZ,zero_le->aU
open Option renaming toList_some->mX
open Option.some renaming inj->bW
open UInt8 renaming ofNat->eK,toNat_inj->qV
namespace Go.Proofs.YtiifmcicleljjaaGreatDoor
section
open Go.RowKit
theorem aIi (a:ByteArray) (i:Nat):a.extract i (i+1)++a.extract 0 i++a.extract (i+1) a.size=mkS (eF a.data.toList i):=by
 rw[nT,nT,nT,pM,pM];unfold eF;rw[AP,Nat.sub_zero,show i+1-i=1 by omega,cS (l:=a.data.toList.drop (i+1)) (by rw[cI];simp)]
theorem TI (a:ByteArray) (b:UInt8) (w:World) (V:a.size<=1000000000) (F:b∈a.data.toList):
  Calls Tryz.prog 199 #[.string a,.int .u8 (b.toNat:Int)] w fun e w'=>e=.returned (.int .i64 ((plc a.data.toList b:Nat):Int))/\w'=w:=by
 have z:a.data.toList.length=a.size:=by simp
 have G:=rG F;rw[z] at G;obtain⟨p,A⟩:∃p,p=plc a.data.toList b:=⟨_,rfl⟩;rw[<-A] at G ⊢;have H:=hid A;have L:=hid z;have Y:=b.toNat_lt;clear z A;go_enter Tryz.func199,Tryz.ntmps199;go_wp2_with fail
 go_loopg [5] p (fun M O wr=>∃k:Nat,k<=p/\M=p-k/\O=.int .i64 k/\w=wr)
 case atStart=>exact⟨0,aU _,rfl,rfl,rfl⟩
 case round=>
 obtain⟨k,Z,E,rfl,rfl⟩:=hrel;have T:=hid E;clear E;have I:k<a.size:=by omega
 have a0:=a[k].toNat_lt
 by_cases U:k<p
 ·have a1:a[k].toNat≠b.toNat:=by
   have d:=PL (a:=a.data.toList) (c:=b) (i:=k) (by rw[<-H.out];exact U) (by rw[L.out];exact I);intro e;exact d (qV.1 e)
  have t1:((a[k].toNat:Int)==(b.toNat:Int))=false:=by rw[beq_eq_false_iff_ne];omega
  have t2:¬((a[k].toNat:Int)=(b.toNat:Int)):=by omega
  go_wp2_with fail;have E:=T.out
  go_roundg (p-(k+1))
  case measure=>omega
  case rel=>exact⟨k+1,by omega,rfl,by go_num,rfl⟩
 ·obtain rfl:p=k:=by omega
  have J:a[p]=b:=by
   have d:=BU F;rw[<-H.out] at d;rw[eW a p I] at d;exact bW d
  have t1:((a[p].toNat:Int)==(b.toNat:Int))=true:=by rw[beq_iff_eq,J]
  clear J;go_wp2_with fail;go_ret;exact⟨rfl,rfl⟩
theorem TJ (a:ByteArray) (w:World) (E:a.size<=1000000000) (z:a.data.toList.Nodup):
  Calls Tryz.prog 181 #[.string a] w fun e w'=>e=.returned (.bool true)/\w'=w:=by
 have F:=hid z;clear z;go_enter Tryz.func181,Tryz.ntmps181;go_wp2_with fail
 go_loopg [3] a.size (fun G H wr=>∃k:Nat,k<=a.size/\G=a.size-k/\H=.int .i64 k/\w=wr)
 case atStart=>exact⟨0,aU _,rfl,rfl,rfl⟩
 case round=>
 obtain⟨k,M,d,rfl,rfl⟩:=hrel;have I:=hid d;clear d
 by_cases A:k<a.size
 ·have J:=hid (show plc a.data.toList a[k]=k from IL (a:=a.data.toList) F.out (i:=k) (by simpa using A));have L:a[k]∈a.data.toList:=cH (eW a k A);have t1:decide ((k:Int)<(k:Int))=false:=decide_eq_false (by omega);go_wp2_with fail;refine(TI a a[k] _ E L).mono ?_;rintro e O ⟨rfl,rfl⟩;rw[J.out];go_wp2_with fail;have d:=I.out
  go_roundg (a.size-(k+1))
  case measure=>omega
  case rel=>exact⟨k+1,by omega,rfl,by go_num,rfl⟩
 ·go_wp2_with fail;go_ret;exact⟨rfl,rfl⟩
theorem TK (a:ByteArray) (i:Nat) (w:World) (z:a.size<=1000000000) (hi:i<a.size):
  Calls Tryz.prog 182 #[.string a,.int .i64 (i:Int)] w fun e w'=>e=.returned (.string (mkS (eF a.data.toList i)))/\Below w.heap.size w w':=by
 have e:=aIi a i;have d:=hid e;clear e;have A:i<=a.size:=by omega
 have E:i+1<=a.size:=by omega
 go_enter Tryz.func182,Tryz.ntmps182;go_wp2
 go_quiet (fail)
 go_wp2;go_ret;exact⟨tY d.out,iI (aB _ _) _⟩
theorem TL (a s:ByteArray) (w:World) (ha:a.size<=1000) (hs:s.size<=1000000) (G:a.data.toList.Nodup) (H:∀b∈s.data.toList,b∈a.data.toList):
  Calls Tryz.prog 99 #[.string a,.string s] w fun e w'=>∃v,e=.returned (.tuple #[v,.int .i64 0])/\OwI w' w.heap.size v (cM a.data.toList s.data.toList)/\Below w.heap.size w w':=by
 have U:Calls Tryz.prog 155 #[.string a,.string s] w fun e w'=>∃v u,e=.returned (.tuple #[v,u,.int .i64 0])/\OwI w' w.heap.size v (cM a.data.toList s.data.toList)/\Below w.heap.size w w':=by
  have HN:=hid G;have a1:=hid H;have V:s.data.toList.length=s.size:=by simp
  have Y:a.data.toList.length=a.size:=by simp
  have Z:=hid V;have a8:=hid Y;clear G H V Y;go_enter Tryz.func155,Tryz.ntmps155;go_wp2_with fail;refine(TJ a _ (by omega) HN.out).mono ?_;rintro e d ⟨rfl,rfl⟩;go_wp2_with fail
  go_loopg [8,9,10,11] s.size (fun gh s8 s9 a2 _s11 wr=>∃k:Nat,k<=s.size/\gh=s.size-k/\a2=.int .i64 k/\s8=.string (mkS (eB a.data.toList (s.data.toList.take k)))/\OwI wr d.heap.size s9 (cM a.data.toList (s.data.toList.take k))/\Below d.heap.size d wr)
  case atStart=>exact⟨0,aU _,rfl,rfl,by simp[eB,pL],OwI.nil _ _,aB _ _⟩
  case round=>
  obtain⟨k,hk,I,rfl,rfl,z,J⟩:=hrel;have HG:=hid I;clear I
  by_cases L:k<s.size
  ·obtain⟨A,M⟩:∃A,A=mkS (eB a.data.toList (s.data.toList.take k)):=⟨_,rfl⟩;have E:A.data.toList=eB a.data.toList (s.data.toList.take k):=by rw[M];rfl
   have F:=BV (s.data.toList.take k) a.data.toList;rw[<-E] at F;have a3:A.size=a.size:=by
    have:=F.length_eq
    simpa using this
   have a0:s[k]∈A.data.toList:=F.mem_iff.2 (a1.out _ (cH (eW s k L)));have e1:=hid (show cM a.data.toList (s.data.toList.take (k+1))=cM a.data.toList (s.data.toList.take k)++[((plc A.data.toList s[k]:Nat):Int)] by
    rw[cQ,eW s k L,mX,BW,<-E])
   have e2:=hid (show eB a.data.toList (s.data.toList.take (k+1))=eF A.data.toList (plc A.data.toList s[k]) by
    rw[cQ,eW s k L,mX,IM,<-E])
   have a4:=hid (show(cM a.data.toList (s.data.toList.take k)).length=k by rw[rH,aX,Z.out];omega);rw[<-M];have O:=rG a0;rw[show A.data.toList.length=A.size by simp] at O;obtain⟨p,T⟩:∃p,p=plc A.data.toList s[k]:=⟨_,rfl⟩;rw[<-T] at O e1 e2;have a5:=hid T;have a9:A.size<=1000:=by omega
   have a6:=J.size;have hb:=s[k].toNat_lt;clear M E F a3 T;go_wp2_with fail;refine(TI A s[k] _ (by omega) a0).mono ?_;rintro e w2 ⟨rfl,rfl⟩;rw[<-a5.out];go_wp2_with (at_builtin;refine eN rfl _ _ rfl d.heap.size _ _ rfl (z.alloc _) w2.heap.size (p:Int) rfl ?_ ?_ ?_ ?_;(exact bS _ _ _);(rw[a4.out];omega);(simp;omega);intro v' w3 a7 hB b0);refine(TK A p _ (by omega) O).mono ?_;rintro e w4 ⟨rfl,h4⟩;rw[<-e2.out];go_wp2_with fail;have I:=HG.out
   go_roundg (s.size-(k+1))
   case measure=>omega
   case rel=>exact⟨k+1,by omega,rfl,by go_num,rfl,by rw[e1.out];exact a7.below h4 (aA _),((J.alloc a6 _).trans hB).trans (h4.mono (by have:=hB.size;simp at this;omega))⟩
  ·have b1:k=s.size:=by omega
   go_wp2_with fail
   go_ret3
   rw[cS (by rw[Z.out];omega)] at z;exact⟨_,_,rfl,z,J⟩
 have HT:=hid U;clear U G H;go_enter Tryz.func99,Tryz.ntmps99;go_wp2_with fail;refine HT.out.mono ?_;rintro e d ⟨v,u,rfl,z,hb⟩;go_wp2_with fail
 go_ret2
 exact⟨_,rfl,z,hb⟩
theorem TM (a:ByteArray) (v:Value) (l:List Int) (w:World) (ha:a.size<=1000) (hl:l.length<=1000000) (J:a.data.toList.Nodup) (L:RdI w v l) (d:∀x∈l,0<=x/\x<(a.size:Int)):
  Calls Tryz.prog 124 #[.string a,v] w fun e w'=>e=.returned (.tuple #[.string (mkS (unL a.data.toList l)),.int .i64 0])/\Below w.heap.size w w':=by
 obtain⟨ad,ca,rfl,a4,V,M⟩:=L.open;unfold maxLen at V;have Y:=hid J;have Z:=hid d;clear J d L;go_enter Tryz.func124,Tryz.ntmps124;go_wp2_with fail;refine(TJ a _ (by omega) Y.out).mono ?_;rintro e O ⟨rfl,rfl⟩;go_wp2_with fail
 go_loopg [7,8,9] l.length (fun gh s7 s8 s9 wr=>∃k:Nat,k<=l.length/\gh=l.length-k/\s9=.int .i64 k/\s7=.string (mkS (unA a.data.toList (l.take k)))/\s8=.string (mkS (unL a.data.toList (l.take k)))/\Below O.heap.size O wr)
 case atStart=>exact⟨0,aU _,rfl,rfl,by simp[unA,pL],by simp[unL,mkS],aB _ _⟩
 case round=>
 obtain⟨k,hk,H,rfl,rfl,rfl,z⟩:=hrel;have HG:=hid H;clear H
 by_cases a0:k<l.length
 ·obtain⟨b0,o0,rfl,T,U⟩:=M (by omega);obtain⟨x,d⟩:=dH a0;have c1:=(z.cell (p:=⟨b0,o0+k,none⟩) T).trans (U k x d);have a1:=Z.out x (cH d);obtain⟨i,rfl⟩:∃i:Nat,x=(i:Int):=⟨x.toNat,by omega⟩;obtain⟨A,E⟩:∃A,A=mkS (unA a.data.toList (l.take k)):=⟨_,rfl⟩;have I:A.data.toList=unA a.data.toList (l.take k):=by rw[E];rfl
  have a2:A.size=a.size:=by rw[E,cP,(PM _ _).length_eq];simp
  obtain⟨S,F⟩:∃S,S=mkS (unL a.data.toList (l.take k)):=⟨_,rfl⟩;have a3:S.size=k:=by rw[F,cP,oO,aX];omega
  have hi:i<A.size:=by omega
  have a5:A.size<=1000:=by omega
  obtain⟨C,G⟩:∃C,C=mkS [A.data.toList.getD i 0]:=⟨_,rfl⟩;have eC:A.extract i (i+1)=C:=by rw[BI A i hi,G]
  have a6:C.size=1:=by rw[G];rfl
  have e1:=hid (show mkS (unL a.data.toList (l.take (k+1)))=S++C by
   rw[cQ,d,mX,IN,<-pM,F,G,I];rfl)
  have e2:=hid (show mkS (unA a.data.toList (l.take (k+1)))=mkS (eF A.data.toList i) by
   rw[cQ,d,mX,IP,<-I];rfl)
  rw[<-E,<-F];have t1:decide ((i:Int)<0)=false:=decide_eq_false (by omega);have t2:decide (A.size<=i)=false:=decide_eq_false (by omega);have a7:i+1<=A.size:=by omega
  have a8:S.size<=1000000:=by omega
  have a9:=dR T z.size;clear U M d a1 E I a2 F a3 G;go_wp2_with fail
  go_quiet (fail)
  clear eC;go_wp2_with fail;refine(TK A i _ (by omega) hi).mono ?_;rintro e w2 ⟨rfl,h2⟩;rw[<-e2.out];go_wp2_with fail;have H:=HG.out
  go_roundg (l.length-(k+1))
  case measure=>omega
  case rel=>exact⟨k+1,by omega,rfl,by go_num,rfl,by rw[e1.out],(iI z _).trans (h2.mono z.size)⟩
 ·have b1:k=l.length:=by omega
  go_wp2_with fail
  go_ret2
  rw[cS (by omega)];exact⟨rfl,z⟩
end
section
open Go.RowKit Go Go.Shelf
theorem aIj (s:ByteArray) (a t:Nat) (w:World) (V:s.size<=1000000) (ha:a<=90000000) (a2:2<=t) (a3:t<=6):
  Calls Tryz.prog 177 #[.string s,.int .i64 (a:Int),.int .i64 (t:Int)] w fun e w'=>e=.returned (.tuple #[.int .i64 (gV s.data.toList (t:Int) (a:Int) 0).1,.int .i64 (gV s.data.toList (t:Int) (a:Int) 0).2.1,.int .i64 (gV s.data.toList (t:Int) (a:Int) 0).2.2])/\w'=w:=by
 have Y:=hid (show s.data.toList.length=s.size by simp);obtain⟨R,H⟩:∃R,R=gV s.data.toList (t:Int) (a:Int) 0:=⟨_,rfl⟩;rw[<-H];have Z:=hid H.symm;clear H;go_enter Tryz.func177,Tryz.ntmps177;go_wp2_with fail
 go_loopg [9,10,11,12] (8*s.size+2-a) (fun g s9 a0 _s11 _s12 wr=>∃p m:Nat,p<=90000000+m/\m<t/\g=8*s.size+2-p/\a0=.int .i64 (p:Int)/\s9=.int .i64 (m:Int)/\Hid (gV s.data.toList (t:Int) (p:Int) (m:Int)=R)/\wr=w)
 case atStart=>exact⟨a,0,by omega,by omega,rfl,rfl,rfl,Z,rfl⟩
 case round=>
  obtain⟨p,m,hp,hm,I,rfl,rfl,HP,rfl⟩:=hrel;have HG:=hid I;clear I;have d:=DB s.data.toList (t:Int) (p:Int) (m:Int) (by omega);rw[HP.out,Y.out] at d;have A:=fun W=>oP s (p:Int) 1 W V (by decide) (by omega) (by omega)
  have J:=fQ (n:=s.size) (at':=(p:Int)) (k:=1);have a1:=iA s.data.toList (p:Int) 1;obtain⟨G,L⟩:∃G,G=aO s.size (p:Int) 1:=⟨_,rfl⟩;obtain⟨E,M⟩:∃E,E=aE s.data.toList (p:Int) 1:=⟨_,rfl⟩;rw[<-L,<-M] at d;rw[<-L] at A J;rw[<-M] at A a1;clear L M;have m1:aI.wrap ((p:Int)+1)=((p:Int)+1):=by rw[aM];omega
  have m2:aI.wrap ((m:Int)+1)=((m:Int)+1):=by rw[aM];omega
  by_cases O:G=0
  ·subst O;rw[if_neg (fun k=>k rfl)] at d;have J:=J rfl
   by_cases U:E=0
   ·subst U;rw[if_pos rfl] at d;have z:=hid d;clear d;go_wp2_with fail;refine(A _).mono ?_;rintro e T ⟨rfl,rfl⟩;go_wp2_with fail
    go_ret3
    exact⟨by rw[z.out];rfl,rfl⟩
   ·rw[if_neg U] at d;have v2:((E:Int)==0)=false:=by rw[beq_eq_false_iff_ne];omega
    have v3:(E==0)=false:=by rw[beq_eq_false_iff_ne];omega
    by_cases F:(m:Int)+1=(t:Int)
    ·rw[if_pos F] at d;have v4:((m:Int)+1==(t:Int))=true:=by rw[beq_iff_eq];exact F
     have z:=hid d;clear d F;go_wp2_with fail;refine(A _).mono ?_;rintro e T ⟨rfl,rfl⟩;go_wp2_with fail
     go_ret3
     exact⟨by rw[z.out];rfl,rfl⟩
    ·rw[if_neg F] at d;have v4:((m:Int)+1==(t:Int))=false:=by rw[beq_eq_false_iff_ne];exact F
     have z:=hid d.symm;clear d;go_wp2_with fail;refine(A _).mono ?_;rintro e T ⟨rfl,rfl⟩;go_wp2_with fail;have I:=HG.out
     go_roundg (8*s.size+2-(p+1))
     case measure=>omega
     case rel=>exact⟨p+1,m+1,by omega,by omega,rfl,by go_num,by go_num,by push_cast;exact z,rfl⟩
  ·rw[if_pos O] at d;have u1:(G != 0)=true:=by simpa using O
   have z:=hid d;clear d;go_wp2_with fail;refine(A _).mono ?_;rintro e T ⟨rfl,rfl⟩;go_wp2_with fail
   go_ret3
   exact⟨by rw[z.out];rfl,rfl⟩
theorem TN (t:Nat) (w:World) (d:2<=t) (z:t<=6):
  Calls Tryz.prog 108 #[.int .i64 (t:Int)] w fun e w'=>e=.returned (.string (mkS (cC t)))/\w'=w:=by
 obtain rfl|rfl|rfl|rfl|rfl:t=2\/t=3\/t=4\/t=5\/t=6:=by omega
 all_goals
  go_enter Tryz.func108,Tryz.ntmps108;go_wp2_with fail;go_ret;exact⟨by kernel_rfl,rfl⟩
def dV (c:Int):UInt8:=eK c.toNat
theorem KM (l:List Int):dO l=cM (cC 2) (l.map dV):=rfl
theorem DN {l:List Int} (h:∀x∈l,x=0\/x=1):∀b∈l.map dV,b∈cC 2:=fun b d=>by
 obtain⟨x,z,rfl⟩:=dU.1 d;rcases h x z with rfl|rfl<;>decide
theorem uU (l:List Int):(dO l).length=l.length:=by rw[KM,rH,bJ]
theorem yW {l:List Int} (h:∀x∈l,x=0\/x=1):∀x∈dO l,0<=x/\x<2:=fun x d=>vT _ _ (DN h) x (by rw[KM] at d;exact d)
theorem aI2 {l:List Int} {k:Nat} {x:Int} (h:l[k]? =some x):dE (l.take (k+1))=dE (l.take k)++(bB x.toNat true++[false]):=by
 rw[cQ,h];exact KB _ _
theorem wL:∀(l:List Int) (B:Nat),(∀x∈l,0<=x/\x<(B:Int))->(dE l).length<=B*l.length
 |[],B,_=>by simp[dE]
 |x::l,B,h=>by
  have z:=wL l B (fun y d=>h y (List.mem_cons_of_mem _ d));have A:=h x (List.mem_cons_self ..);have e:dE (x::l)=(bB x.toNat true++[false])++dE l:=rfl;rw[e,aL,aL,vO];simp only[cR,cX,Nat.mul_add,sE];omega
theorem aI3 (v:Value) (l:List Int) (w:World) (hr:RdI w v l) (hl:l.length<=20000) (d:∀x∈l,x=0\/x=1):
  Calls Tryz.prog 45 #[v,.int .i64 2] w fun e w'=>e=.returned (.tuple #[eL (dE (dO l)),.int .i64 0])/\Below w.heap.size w w':=by
 have HX:=hid d;have Y:=hid (yW d);have a7:=hid (DN d);have a9:=hid (uU l);clear d;have Z:=Arr.new w 29 [.string ⟨#[]⟩,.int .i64 0];have e8:(w.alloc (.cells #[.string ⟨#[]⟩,.int .i64 0] 29)).heap.size=w.heap.size+1:=by simp
 have a0:Below w.heap.size w (w.alloc (.cells #[.string ⟨#[]⟩,.int .i64 0] 29)):=bD (aB _ _) _;change Arr (w.alloc (.cells #[.string ⟨#[]⟩,.int .i64 0] 29)) _ _ _ at Z;have b0:=hr.below a0;obtain⟨a,ca,rfl,e9,c5,hA⟩:=b0.open;unfold maxLen at c5;clear hr b0;go_enter Tryz.func45,Tryz.ntmps45;go_wp2_with fail;generalize w.alloc (.cells #[.string ⟨#[]⟩,.int .i64 0] 29)=w0 at*
 go_loopg [6,7] l.length (fun g s6 s7 wr=>∃(k:Nat) (v6:Value),k<=l.length/\g=l.length-k/\v6=s6/\s7=.int .i64 (k:Int)/\OwB wr (w.heap.size+1) v6 ((l.take k).map dV)/\Below (w.heap.size+1) w0 wr)
 case atStart=>exact⟨0,_,aU _,rfl,rfl,rfl,Ow.nil _ _ _,aB _ _⟩
 case round=>
  obtain⟨k,v6,hk,F,rfl,rfl,z,I⟩:=hrel;have HG:=hid F;clear F;have f2:=I.size;have b2:((l.take k).map dV).length=k:=by rw[bJ,aX];omega
  by_cases c6:k<l.length
  ·have u1:decide ((k:Int)<(l.length:Int))=true:=decide_eq_true (by omega);obtain⟨b1,o1,rfl,f3,b3⟩:=hA (by omega);obtain⟨x,d⟩:=dH c6;have c1:=(I.cell (p:=⟨b1,o1+k,none⟩) (by show b1<w.heap.size+1;omega)).trans (b3 k x d);have b4:=HX.out x (cH d);have HT:=hid (show(l.take (k+1)).map dV=(l.take k).map dV++[dV x] by rw[cQ,d,List.map_append];rfl);have e1:((dV x).toNat:Int)=x:=by rcases b4 with rfl|rfl<;>rfl
   have v1:decide (x<0)=false:=decide_eq_false (by omega);have v2:decide (x>=2)=false:=decide_eq_false (by omega);have v3:decide (2<=x)=false:=decide_eq_false (by omega);have m1:pX.wrap x=x:=by rw[xQ];omega
   have m2:x%256=x:=by omega
   have e2:=hid e1;clear b3 hA d b4 e1;go_wp2_with (at_builtin;refine IX rfl _ _ rfl (w.heap.size+1) _ _ rfl (Ow.alloc z _) wr.heap.size (dV x) rfl ?_ ?_ ?_ ?_;(rw[e2.out];exact bS _ _ _);(omega);(simp;omega);intro v' U L H r3);have F:=HG.out
   go_roundg (l.length-(k+1))
   case measure=>omega
   case rel=>exact⟨k+1,_,by omega,rfl,rfl,by go_num,by rw[HT.out];exact L,(I.alloc (by omega) _).trans H⟩
  ·have u1:decide ((k:Int)<(l.length:Int))=false:=decide_eq_false (by omega);have c7:k=l.length:=by omega
   subst c7;rw[cS (aA _)] at z b2;obtain⟨D,hD⟩:∃D,D=l.map dV:=⟨_,rfl⟩;rw[<-hD] at z b2 a7;have HD:=hid hD;clear hD hA;have c9:(convert 45 9 v6).run Tryz.prog wr=.ok (.string (mkS D)) wr:=lQ z.rd;have d2:(convert 45 9 v6).run Tryz.prog wr.drew=.ok (.string (mkS D)) wr.drew:=lQ (w:=wr.drew) (OwB.rd (w:=wr.drew) z);have b5:∀W,Calls Tryz.prog 108 #[.int .i64 2] W fun e w'=>e=.returned (.string (mkS (cC 2)))/\w'=W:=fun W=>TN 2 W (by decide) (by decide)
   have a1:=fun W=>TL (mkS (cC 2)) (mkS D) W (by simp[cC]) (by rw[cP];omega) (by decide) a7.out
   have d3:=hid (show cM (mkS (cC 2)).data.toList (mkS D).data.toList=dO l by rw[fW,fW,HD.out];rfl);rw[d3.out] at a1;go_upto_region 10 with fail
   go_cut [8,9] (fun c8 _c9 J=>∃v8,v8=c8/\OwI J wr.heap.size v8 (dO l)/\Below wr.heap.size wr J)
   case first=>
    go_region_with (first|(go_at_call 108;refine(b5 _).mono ?_;rintro e U ⟨rfl,rfl⟩)|(go_at_call 99;refine(a1 _).mono ?_;rintro e U ⟨v8,rfl,M,G⟩))
    all_goals
     go_wp2_with fail;go_meet;exact⟨v8,rfl,M,(aB wr.heap.size wr).drew.trans G⟩
   case rest=>
    obtain⟨v8,rfl,M,G⟩:=hcut;have b6:=(Z.below I (by omega)).below G (by omega);have b7:Below w.heap.size w wc:=(a0.trans (I.mono (by omega))).trans (G.mono (by omega));have d4:=G.size;obtain⟨P,hP⟩:∃P,P=dO l:=⟨_,rfl⟩;rw[<-hP] at Y a9 M;have HP:=hid hP;have f4:P.length<=20000:=by have:=a9.out;omega
    obtain⟨a8,c8,rfl,f5,d5,V⟩:=(OwI.rd M).open;unfold maxLen at d5;obtain⟨A,d6⟩:∃A,A=wc.heap.size:=⟨_,rfl⟩;rw[<-d6] at d4 V;clear hP I G z Z a0 c9 d2 b5 a1 M;go_wp2_with fail
    go_loopg [10,11,12] P.length (fun g a2 d7 _s12 J=>∃i:Nat,i<=P.length/\g=P.length-i/\d7=.int .i64 (i:Int)/\OwI J A a2 (bI (dE (P.take i)))/\Below A wc J/\A<=J.heap.size)
    case atStart=>exact⟨0,aU _,rfl,rfl,by simp only[FX];exact OwI.nil _ _,aB _ _,by omega⟩
    case round=>
     obtain⟨i,hi,F,rfl,z,O,b9⟩:=hrel;have d8:=hid F;clear F HG;have c0:=wL (P.take i) 2 (fun x d=>Y.out x (nO d));rw[aX,gU hi] at c0;obtain⟨E,a3⟩:∃E,E=dE (P.take i):=⟨_,rfl⟩;rw[<-a3] at z c0;have c2:=hid a3;clear a3
     by_cases d9:i<P.length
     ·have u2:decide ((i:Int)<(P.length:Int))=true:=decide_eq_true (by omega);obtain⟨b8,o8,rfl,G,a4⟩:=V (by omega);obtain⟨x,d⟩:=dH d9;have c1:=(O.cell (p:=⟨b8,o8+i,none⟩) G).trans (a4 i x d);have e0:=Y.out x (cH d);have HT:=hid (show dE (P.take (i+1))=E++(bB x.toNat true++[false]) by rw[c2.out];exact aI2 d);obtain⟨X,rfl⟩:∃X:Nat,x=(X:Int):=⟨x.toNat,by omega⟩;rw[eG] at HT;have f6:X<2:=by omega
      have e3:=hid (fun wz (h:Below A wc wz)=>(h.cell (p:=⟨b8,o8+i,none⟩) G).trans (a4 i _ d));clear a4 V d e0;go_wp2_with fail
      go_loopg [10,12] X (fun g a2 e4 wy=>∃c:Nat,c<=X/\g=X-c/\e4=.int .i64 (c:Int)/\OwI wy A a2 (bI (E++bB c true))/\Below A wc wy/\A<=wy.heap.size)
      case atStart=>exact⟨0,aU _,rfl,rfl,by simpa using z,O,b9⟩
      case round=>
       clear z c1 O b9;obtain⟨c,f7,F,rfl,z,a5,f8⟩:=hrel;have e5:=hid F;clear F;have c1:=e3.out _ a5;have f9:(bI (E++bB c true)).length<=50000:=by rw[cN,aL,vO];omega
       by_cases g0:c<X
       ·have u3:decide ((c:Int)<(X:Int))=true:=decide_eq_true (by omega);go_wp2_with (at_builtin;refine eN rfl _ _ rfl A _ _ rfl (OwI.alloc z _) _ 1 rfl (bS _ _ _) ?_ ?_ ?_;(omega);(simp;omega);intro v3 U L H r3);have g1:=e5.out
        go_roundg (X-(c+1))
        case measure=>omega
        case rel=>
         refine⟨c+1,by omega,rfl,by go_num,?_,(a5.alloc (by omega) _).trans H,?_⟩
         ·rw[AI,<-cF,gB];exact L
         ·have:=H.size;simp only[fV] at this;omega
       ·have u3:decide ((c:Int)<(X:Int))=false:=decide_eq_false (by omega);obtain rfl:c=X:=by omega
        go_wp2_with (at_builtin;refine eN rfl _ _ rfl A _ _ rfl (OwI.alloc z _) _ 0 rfl (bS _ _ _) ?_ ?_ ?_;(omega);(simp;omega);intro v3 U L H r3);have g2:=d8.out
        go_roundg (P.length-(i+1))
        case measure=>omega
        case rel=>
         refine⟨i+1,by omega,rfl,by go_num,?_,(a5.alloc (by omega) _).trans H,?_⟩
         ·rw[HT.out,<-cF,gB];exact L
         ·have:=H.size;simp only[fV] at this;omega
     ·have u2:decide ((i:Int)<(P.length:Int))=false:=decide_eq_false (by omega);have e6:i=P.length:=by omega
      subst e6;have HF:=hid (show E=dE (dO l) by rw[c2.out,List.take_length,HP.out]);have c3:=b6.below O (by omega);have c4:Below w.heap.size w wr:=b7.trans (O.mono (by omega));clear b6 b7 V;go_wp2_with fail;refine(uG _ E _ (OwI.rd z) (by omega)).mono ?_;rintro e w6 ⟨rfl,a6⟩;have T:=c3.below a6 (by omega);have e7:Below w.heap.size w w6:=c4.trans (a6.mono (by omega));have d0:=T.cell (i:=0) rfl;have d1:=T.cell (i:=1) rfl;have f0:=T.free 0;have f1:=T.free 1;clear a6 z c3 c4;go_wp2_with fail
      have z0:Arr ((w6.setCell ⟨w.heap.size,0,none⟩ (.string (mkS (aD E)))).setCell ⟨w.heap.size,1,none⟩ (.int .i64 (E.length:Int))) w.heap.size 29 [.string (mkS (aD E)),.int .i64 (E.length:Int)]:=(T.set 0 _).set 1 _;refine gJ (qH rfl _ _ w.heap.size _ _ (0,0) _ rfl z0 Tryz.underlying29 rfl mF) rfl ?_;exact⟨by rw[<-HF.out];rfl,(e7.setCell (p:=⟨w.heap.size,0,none⟩) (aA _) _).setCell (p:=⟨w.heap.size,1,none⟩) (aA _) _⟩
end
section
open Go.RowKit Go
theorem aKi (s:ByteArray) (w:World) (hs:s.size<=140737488355328):
  Calls Tryz.prog 96 #[.string s] w fun e w'=>e=.returned (.int .i64 ((dX s.data.toList:Nat):Int))/\Below w.heap.size w w':=by
 have E:=hid (show s.data.toList.length=s.size by simp);go_enter Tryz.func96,Tryz.ntmps96;go_wp2_with fail
 go_loopg [3] 256 (fun g T wr=>∃k:Nat,k<=s.size/\k<=255/\g=256-k/\T=.int .i64 (k:Int)/\Hid (∀j,j<k->s.data.toList[j]? =s.data.toList[0]?)/\Below w.heap.size w wr)
 case atStart=>exact⟨0,aU _,by omega,rfl,rfl,hid (fun j U=>by omega),aB _ _⟩
 case round=>
  obtain⟨k,J,L,M,rfl,F,G⟩:=hrel;have V:=hid M;clear M
  by_cases Y:k<s.size
  ·have t1:decide ((k:Int)<(s.size:Int))=true:=decide_eq_true (by omega)
   by_cases a0:k<255
   ·have Z:decide ((k:Int)<255)=true:=decide_eq_true (by omega);have h0:0<s.size:=by omega
    have H:=eW s k Y;have I:=eW s 0 h0;obtain⟨b,d⟩:∃b,b=s[k].toNat:=⟨_,rfl⟩;obtain⟨c,z⟩:∃c,c=s[0].toNat:=⟨_,rfl⟩
    by_cases O:b=c
    ·have t3:((b:Int)==(c:Int))=true:=by rw[O];simp
     have t4:decide ((b:Int)=(c:Int))=true:=decide_eq_true (by omega);have HS:=hid (show s.data.toList[k]? =s.data.toList[0]? by rw[H,I];congr 1;exact qV.1 (by rw[<-d,<-z];exact O));have e1:(s[k].toNat:Int)=(b:Int):=by rw[d]
     have e2:(s[0].toNat:Int)=(c:Int):=by rw[z]
     clear H I d z;go_wp2_with fail
     go_quiet (fail)
     go_wp2_with fail;have M:=V.out
     go_roundg (256-(k+1))
     case measure=>omega
     case rel=>exact⟨k+1,by omega,by omega,rfl,by go_num,hid (fun j U=>by rcases bT j k with q|q;exact F.out j q;rw[show j=k by omega];exact HS.out),iI G _⟩
    ·have t3:((b:Int)==(c:Int))=false:=by rw[beq_eq_false_iff_ne];omega
     have t4:decide ((b:Int)=(c:Int))=false:=decide_eq_false (by omega);have A:=hid (show dX s.data.toList=k from DV L (by rw[E.out];exact J) F.out (.inr (.inr (by rw[H,I];intro e;injection e with e;exact O (by rw[d,z,e])))));have e1:(s[k].toNat:Int)=(b:Int):=by rw[d]
     have e2:(s[0].toNat:Int)=(c:Int):=by rw[z]
     clear H I d z;go_wp2_with fail
     go_quiet (fail)
     go_wp2_with fail;go_ret;exact⟨fX (by rw[A.out]),iI G _⟩
   ·have Z:decide ((k:Int)<255)=false:=decide_eq_false (by omega);have A:=hid (show dX s.data.toList=k from DV L (by rw[E.out];exact J) F.out (.inl (by omega)));go_wp2_with fail
    go_quiet (fail)
    go_wp2_with fail;go_ret;exact⟨fX (by rw[A.out]),iI G _⟩
  ·have t1:decide ((k:Int)<(s.size:Int))=false:=decide_eq_false (by omega);have A:=hid (show dX s.data.toList=k from DV L (by rw[E.out];exact J) F.out (.inr (.inl (by rw[E.out];omega))));go_wp2_with fail
   go_quiet (fail)
   go_wp2_with fail;go_ret;exact⟨fX (by rw[A.out]),iI G _⟩
theorem aKj (b:UInt8) (W:World):(convert 45 9 (.slice (some ⟨W.heap.size,0,none⟩) 1 1)).run Tryz.prog (W.alloc (.cells #[.int .u8 (b.toNat:Int)] 5)).drew=.ok (.string (mkS [b])) (W.alloc (.cells #[.int .u8 (b.toNat:Int)] 5)).drew:=
 lQ (l:=[b]) (Arr.rdB (w:=(W.alloc (.cells #[.int .u8 (b.toNat:Int)] 5)).drew) (l:=[b]) (Arr.new W 5 [.int .u8 (b.toNat:Int)]) rfl (by decide))
theorem aKk (s:ByteArray) (w:World) (hs:s.size<=1000000):
  Calls Tryz.prog 37 #[.string s] w fun e w'=>e=.returned (.string (mkS (bC s.data.toList)))/\Below w.heap.size w w':=by
 have F:=hid (show s.data.toList.length=s.size by simp);go_enter Tryz.func37,Tryz.ntmps37;go_wp2_with fail
 go_loopg [3,4,5] s.size (fun g s3 s4 _s5 wr=>∃(a:Nat) (o:List UInt8),a<=s.size/\g=s.size-a/\s4=.int .i64 (a:Int)/\s3=.string (mkS o)/\Hid (o++bC (s.data.toList.drop a)=bC s.data.toList)/\Below w.heap.size w wr)
 case atStart=>exact⟨0,[],aU _,rfl,rfl,rfl,hid (by simp),aB _ _⟩
 case round=>
  obtain⟨a,o,ha,I,rfl,rfl,O,G⟩:=hrel;have HG:=hid I;clear I
  by_cases b2:a<s.size
  ·have t1:decide ((a:Int)<(s.size:Int))=true:=decide_eq_true (by omega);have T:s.data.toList.drop a≠[]:=fun e=>by have:=congrArg tM e;rw[cI,F.out] at this;simp at this;omega
   have a3:=pS _ T;have J:=aI1 T O.out;have b3:o.length<=2000000:=by
    have h1:=(oS s.data.toList.length s.data.toList (aA _)).1;have h2:=congrArg tM O.out;rw[aL] at h2;rw[F.out] at h1;omega
   have hx:s.extract a s.size=mkS (s.data.toList.drop a):=by
    rw[nT,cS (by rw[cI,F.out];omega)]
   have a9:(s.data.toList.drop a).length=s.size-a:=by rw[cI,F.out]
   obtain⟨r,L⟩:∃r,r=s.data.toList.drop a:=⟨_,rfl⟩;rw[<-L] at hx a3 J a9;have U:=fun W=>aKi (mkS r) W (by rw[cP];omega)
   obtain⟨n,V⟩:∃n,n=dX r:=⟨_,rfl⟩;rw[fW,<-V] at U;rw[<-V] at a3 J;have a4:r.drop n=s.data.toList.drop (a+n):=by rw[L,xM]
   have a5:=hid J;have HD:=hid a4;have HR:=hid L;clear T V L J a4;have q1:a<=s.size:=ha;have q2:(a:Int)<=(s.size:Int):=by omega
   by_cases h4:n<4
   ·have t2:decide ((n:Int)<4)=true:=decide_eq_true (by omega);have Y:aI.wrap ((a:Int)+(n:Int))=((a+n:Nat):Int):=by rw[aM];omega
    have Z:a+n<=s.size:=by omega
    have q4:((a+n:Nat):Int)<=(s.size:Int):=by omega
    have q5:(a:Int)<=((a+n:Nat):Int):=by omega
    have q6:a<=a+n:=by omega
    have H:s.extract a (a+n)=mkS (mN r n):=by
     rw[nT,<-HR.out,show a+n-a=n by omega]
     congr 1
     unfold mN;rw[if_neg (by omega),eE,gU (by omega)]
    have a6:(mN r n).length<=5:=by
     rw[TY r n (by omega)];split<;>omega
    obtain⟨p,A⟩:∃p,p=mN r n:=⟨_,rfl⟩;rw[<-A] at H a6;have HP:=hid A;clear A;obtain⟨c,z⟩:∃c:Nat,c=a+n:=⟨_,rfl⟩;rw[<-z] at Y Z q4 q5 q6 H;have b0:mkS o++mkS p=mkS (o++p):=pM o p;have HC:=hid z;clear z;go_wp2_with fail;refine(U _).mono ?_;rintro e w1 ⟨rfl,M⟩;go_wp2_with fail;have I:=HG.out;have z:=HC.out;have a0:=G.size
    go_roundg (s.size-c)
    case measure=>omega
    case rel=>exact⟨c,o++p,Z,rfl,by go_num,rfl,hid (by rw[HP.out,z,<-HD.out];exact a5.out),G.trans (M.mono a0)⟩
   ·have t2:decide ((n:Int)<4)=false:=decide_eq_false (by omega);have Y:aI.wrap ((a:Int)+4)=((a+4:Nat):Int):=by rw[aM];omega
    have m2:aI.wrap ((a:Int)+(n:Int))=((a+n:Nat):Int):=by rw[aM];omega
    have m3:aI.wrap ((n:Int)-4)=((n-4:Nat):Int):=by rw[aM];omega
    have H:s.extract a (a+4)=mkS (r.take 4):=by
     rw[nT,<-HR.out,show a+4-a=4 by omega]
    obtain⟨d,hd⟩:∃d:Nat,d=n-4:=⟨_,rfl⟩;obtain⟨b,hb⟩:∃b:UInt8,b=eK d:=⟨_,rfl⟩;have a7:b.toNat=d:=by rw[hb,UInt8.toNat_ofNat'];omega
    have m4:pX.wrap (d:Int)=(b.toNat:Int):=by rw[a7,xQ];omega
    have a1:r.take 4++[b]=mN r n:=by
     unfold mN;rw[if_pos (by omega),Nat.min_eq_right (by omega),hb,hd]
    rw[<-hd] at m3;obtain⟨E,a8⟩:∃E:Nat,E=a+4:=⟨_,rfl⟩;obtain⟨c,z⟩:∃c:Nat,c=a+n:=⟨_,rfl⟩;rw[<-a8] at Y H;rw[<-z] at m2;have Z:E<=s.size:=by omega
    have q4:(E:Int)<=(s.size:Int):=by omega
    have q5:(a:Int)<=(E:Int):=by omega
    have q6:a<=E:=by omega
    obtain⟨p,A⟩:∃p,p=r.take 4:=⟨_,rfl⟩;have a6:p.length<=4:=by rw[A,aX];omega
    rw[<-A] at H a1;have b0:mkS o++mkS p=mkS (o++p):=pM o p;have b4:mkS (o++p)++mkS [b]=mkS (o++p++[b]):=pM _ _;have b1:=hid a1;have HC:=hid z;have q7:c<=s.size:=by omega
    have b5:=aKj b;have q8:¬9223372036854775807<o.length+p.length:=by omega
    have q9:¬9223372036854775807<o.length+p.length+1:=by omega
    clear hb a7 hd A a1 a8 z;go_wp2_with fail;refine(U _).mono ?_;rintro e w1 ⟨rfl,M⟩;go_wp2_with fail
    go_region
    all_goals
     go_wp2_with fail;have I:=HG.out;have z:=HC.out;have a0:=G.size;have b6:=M.size
     go_roundg (s.size-c)
     case measure=>omega
     case rel=>exact⟨c,o++(p++[b]),q7,rfl,by go_num,rfl,hid (by rw[b1.out,z,<-HD.out];exact a5.out),(G.trans (M.mono a0)).trans (((aB _ w1).alloc (aA _) _).mono (by omega)).drew⟩
  ·have t1:decide ((a:Int)<(s.size:Int))=false:=decide_eq_false (by omega);have a2:=O.out;rw[AT (by rw[F.out];omega),DL,eE] at a2;have HF:=hid a2;clear a2;go_wp2_with fail;go_ret;exact⟨tY (by rw[HF.out]),G⟩
def zG (s:List UInt8):Ending:=match dT s with
 |none=>.returned (.tuple #[.string ⟨#[]⟩,.bool false])
 |some o=>.returned (.tuple #[.string (mkS o),.bool true])
theorem WA {s:List UInt8} (h:dT s=none):zG s=.returned (.tuple #[.string ⟨#[]⟩,.bool false]):=by unfold zG;rw[h]
theorem WB {s o:List UInt8} (h:dT s=some o):zG s=.returned (.tuple #[.string (mkS o),.bool true]):=by unfold zG;rw[h]
theorem aKl (s:ByteArray) (w:World) (hs:s.size<=1000000):
  Calls Tryz.prog 126 #[.string s] w fun e w'=>e=zG s.data.toList/\Below w.heap.size w w':=by
 have HL:=hid (show s.data.toList.length=s.size by simp);go_enter Tryz.func126,Tryz.ntmps126;go_wp2_with fail
 go_loopg [4,5,6,7] s.size (fun g s4 s5 _s6 _s7 wr=>∃(a:Nat) (o:List UInt8),a<=s.size/\g=s.size-a/\s5=.int .i64 (a:Int)/\s4=.string (mkS o)/\Hid (dT s.data.toList=(dT (s.data.toList.drop a)).map (o++·))/\o.length<=52*a/\Below w.heap.size w wr)
 case atStart=>exact⟨0,[],aU _,rfl,rfl,rfl,hid (by rw[AP];cases dT s.data.toList<;>rfl),by simp,aB _ _⟩
 case round=>
  obtain⟨a,o,ha,d,rfl,rfl,HO,b7,a0⟩:=hrel;have a7:=hid d;clear d
  by_cases a1:a<s.size
  ·have t1:decide ((a:Int)<(s.size:Int))=true:=decide_eq_true (by omega);have b8:=a0.size;have a8:(s.data.toList.drop a).length=s.size-a:=by rw[cI,HL.out]
   go_wp2_with fail
   go_loopg [6] 5 (fun g s6 I=>∃n:Nat,n<=4/\a+n<=s.size/\g=5-n/\s6=.int .i64 (n:Int)/\Hid (∀j,j<n->(s.data.toList.drop a)[j]? =some s[a])/\Below w.heap.size w I)
   case atStart=>exact⟨0,by omega,by omega,rfl,rfl,hid (fun j hj=>by omega),a0⟩
   case round=>
    obtain⟨n,b9,c0,d,rfl,J,L⟩:=hrel;have HG:=hid d;clear d;have M:=eW s a a1;obtain⟨T,hT⟩:∃T:Bool,T=decide (n<4/\a+n<s.size/\s.data.toList[a+n]? =some s[a]):=⟨_,rfl⟩;have HT:=hid hT;clear hT;go_upto_region 5 with fail
    go_cut [32] (fun b2 I=>b2=.bool T/\Below w.heap.size w I)
    case first=>
     by_cases O:n<4
     ·have u1:decide ((n:Int)<4)=true:=decide_eq_true (by omega);obtain⟨q,A⟩:∃q,q=a+n:=⟨_,rfl⟩;have m1:aI.wrap ((a:Int)+(n:Int))=(q:Int):=by rw[aM];omega
      have m2:(a:Int)+(n:Int)=(q:Int):=by omega
      rw[<-A] at HT;clear A
      by_cases H:q<s.size
      ·have u2:decide ((q:Int)<(s.size:Int))=true:=decide_eq_true (by omega);have U:=eW s q H
       by_cases E:s[q]=s[a]
       ·have u3:((s[q].toNat:Int)==(s[a].toNat:Int))=true:=by rw[E];simp
        have u4:decide ((s[q].toNat:Int)=(s[a].toNat:Int))=true:=decide_eq_true (by rw[E]);have F:=hid (show T=true by rw[HT.out,decide_eq_true];exact⟨O,H,by rw[U,E]⟩);clear E M U
        go_quiet (fail)
        go_wp2_with fail;go_meet;exact⟨by rw[F.out],iI L _⟩
       ·have a2:(s[q].toNat:Int)≠(s[a].toNat:Int):=fun e=>E (qV.1 (by omega))
        have u3:((s[q].toNat:Int)==(s[a].toNat:Int))=false:=by rw[beq_eq_false_iff_ne];exact a2
        have u4:decide ((s[q].toNat:Int)=(s[a].toNat:Int))=false:=decide_eq_false a2;have F:=hid (show T=false by rw[HT.out,decide_eq_false];rintro⟨_,_,V⟩;rw[U] at V;injection V with V;exact E V);clear E M U a2
        go_quiet (fail)
        go_wp2_with fail;go_meet;exact⟨by rw[F.out],iI L _⟩
      ·have u2:decide ((q:Int)<(s.size:Int))=false:=decide_eq_false (by omega);have F:=hid (show T=false by rw[HT.out,decide_eq_false];rintro⟨_,h2,_⟩;exact H h2)
       go_quiet (fail)
       go_wp2_with fail;go_meet;exact⟨by rw[F.out],iI L _⟩
     ·have u1:decide ((n:Int)<4)=false:=decide_eq_false (by omega);have F:=hid (show T=false by rw[HT.out,decide_eq_false];rintro⟨h1,_,_⟩;exact O h1)
      go_quiet (fail)
      go_wp2_with fail;go_meet;exact⟨by rw[F.out],iI L _⟩
    case rest=>
    obtain⟨rfl,Y⟩:=hcut;clear L
    cases T with
    |true=>
     have Z:=of_decide_eq_true HT.out.symm;have HS:=hid (show(s.data.toList.drop a)[n]? =some s[a] by rw[gR];exact Z.2.2);have O:=Z.1;have H:=Z.2.1;clear Z M;go_wp2_with fail;have d:=HG.out
     go_roundg (5-(n+1))
     case measure=>omega
     case rel=>exact⟨n+1,by omega,by omega,rfl,by go_num,hid (fun j hj=>by rcases bT j n with h|h;exact J.out j h;rw[show j=n by omega];exact HS.out),Y⟩
    |false=>
     have a3:=of_decide_eq_false HT.out.symm;have b3:1<=n:=by
      rcases fJ n with h|h
      ·exact absurd (show n<4/\a+n<s.size/\s.data.toList[a+n]? =some s[a] from⟨by omega,by omega,by rw[h];exact M⟩) a3
      ·exact h
     have a9:n=4\/n=(s.data.toList.drop a).length\/(s.data.toList.drop a)[n]?≠some s[a]:=by
      by_cases O:n<4
      ·by_cases H:a+n<s.size
       ·right;right
        rw[gR];exact fun h=>a3 ⟨O,H,h⟩
       ·right;left;rw[a8];omega
      ·left;omega
     have HE:=hid a9;clear a3 a9 M HT;have a4:=HO.out;obtain⟨r,hr⟩:∃r,r=s.data.toList.drop a:=⟨_,rfl⟩;rw[<-hr] at HE J a8 a4;obtain⟨q,A⟩:∃q,q=a+n:=⟨_,rfl⟩;have m1:aI.wrap ((a:Int)+(n:Int))=(q:Int):=by rw[aM];omega
     have m2:(a:Int)+(n:Int)=(q:Int):=by omega
     have q1:a<=s.size:=ha;have q2:(a:Int)<=(s.size:Int):=by omega
     have q3:q<=s.size:=by omega
     have q4:(q:Int)<=(s.size:Int):=by omega
     have q5:(a:Int)<=(q:Int):=by omega
     have q6:a<=q:=by omega
     have hx:s.extract a q=mkS (r.take n):=by rw[nT,<-hr,show q-a=n by omega]
     obtain⟨p,hp⟩:∃p,p=r.take n:=⟨_,rfl⟩;have c2:p.length=n:=by rw[hp,aX];omega
     rw[<-hp] at hx;have c3:mkS o++mkS p=mkS (o++p):=pM o p;have q8:¬9223372036854775807<o.length+p.length:=by omega
     have HQ:=hid A;have HP:=hid hp;have HR:=hid hr;have HH:=hid a4;clear A hp hr a4
     by_cases h4:n<4
     ·have u5:decide ((n:Int)<4)=true:=decide_eq_true (by omega);go_wp2_with fail;have d:=a7.out;have A:=HQ.out
      go_roundg (s.size-q)
      case measure=>omega
      case rel=>
       refine⟨q,o++p,q3,rfl,by go_num,rfl,hid ?_,by rw[aL];omega,Y⟩;have:=aKf HH.out J.out b3 h4 (by rcases HE.out with h|h|h;omega;exact .inl h;exact .inr h);rw[HP.out,A,<-xM,<-HR.out];exact this
     ·have hn:n=4:=by omega
      subst hn;have u5:decide (((4:Nat):Int)<4)=false:=by decide
      have c4:decide ((4:Int)<4)=false:=by decide
      by_cases h5:q<s.size
      ·have u6:decide ((q:Int)>=(s.size:Int))=false:=decide_eq_false (by omega);have u7:decide ((s.size:Int)<=(q:Int))=false:=decide_eq_false (by omega);have m3:(a:Int)+4=(q:Int):=by omega
       have m4:aI.wrap ((a:Int)+4)=(q:Int):=by rw[aM];omega
       have hb:=s[q].toNat_lt;have HF:=hid (aKh HH.out J.out (b:=s[q]) (by rw[HR.out,gR,<-HQ.out];exact eW s q h5));obtain⟨z,b0⟩:∃z,z=a+1:=⟨_,rfl⟩;have c6:s.extract a z=mkS [s[a]]:=by
        rw[b0,BI s a a1,aV,eW s a a1];rfl
       have m5:(a:Int)+1=(z:Int):=by omega
       have m6:aI.wrap ((a:Int)+1)=(z:Int):=by rw[aM];omega
       have r3:z<=s.size:=by omega
       have r4:(z:Int)<=(s.size:Int):=by omega
       have r5:(a:Int)<=(z:Int):=by omega
       have r6:a<=z:=by omega
       clear b0;go_wp2_with fail
       go_loopg [4,7] 256 (fun g s4 s7 I=>∃(k:Nat) (X:List UInt8),k<=s[q].toNat/\g=256-k/\s7=.int .i64 (k:Int)/\s4=.string (mkS X)/\Hid (X=o++p++bB k s[a])/\X.length<=52*a+4+k/\Below w.heap.size w I)
       case atStart=>exact⟨0,o++p,aU _,rfl,rfl,rfl,hid (by simp),by rw[aL];omega,Y⟩
       case round=>
        obtain⟨k,X,hk,d,rfl,rfl,HX,c7,b1⟩:=hrel;have b4:=hid d;clear d
        by_cases c8:k<s[q].toNat
        ·have v1:decide ((k:Int)<(s[q].toNat:Int))=true:=decide_eq_true (by omega);have c9:mkS X++mkS [s[a]]=mkS (X++[s[a]]):=pM _ _;have q9:¬9223372036854775807<X.length+1:=by omega
         go_wp2_with fail;have d:=b4.out
         go_roundg (256-(k+1))
         case measure=>omega
         case rel=>exact⟨k+1,X++[s[a]],by omega,rfl,by go_num,rfl,hid (by rw[HX.out,AI,<-cF]),by rw[aL,fK];omega,b1⟩
        ·have v1:decide ((k:Int)<(s[q].toNat:Int))=false:=decide_eq_false (by omega);have b5:k=s[q].toNat:=by omega
         obtain⟨G,a5⟩:∃G,G=q+1:=⟨_,rfl⟩;have m8:(a:Int)+5=(G:Int):=by omega
         have m9:aI.wrap ((a:Int)+5)=(G:Int):=by rw[aM];omega
         have b6:=hid a5;clear a5;go_wp2_with fail;have d:=a7.out;have A:=HQ.out;have a5:=b6.out
         go_roundg (s.size-G)
         case measure=>omega
         case rel=>
          refine⟨G,X,by omega,rfl,by go_num,rfl,hid ?_,by omega,b1⟩;rw[HX.out,b5,HP.out,show G=a+5 by omega,<-xM,<-HR.out];exact HF.out
      ·have u6:decide ((q:Int)>=(s.size:Int))=true:=decide_eq_true (by omega);have u7:decide ((s.size:Int)<=(q:Int))=true:=decide_eq_true (by omega);have m3:(a:Int)+4=(q:Int):=by omega
       have m4:aI.wrap ((a:Int)+4)=(q:Int):=by rw[aM];omega
       have hN:=aKg HH.out (by have:=HQ.out;omega) J.out;have HN:=hid (WA hN);clear hN;go_wp2_with fail
       go_ret2
       exact⟨HN.out.symm,Y⟩
  ·have t1:decide ((a:Int)<(s.size:Int))=false:=decide_eq_false (by omega);have a6:=HO.out;rw[AT (by rw[HL.out];omega)] at a6;have HN:=hid (WB (s:=s.data.toList) (o:=o) (by rw[a6];show some (o++[])=some o;rw[eE]));clear a6;go_wp2_with fail
   go_ret2
   exact⟨HN.out.symm,a0⟩
theorem aKm (s:ByteArray) (most:Int) (w:World) (F:s.size<=1000000) (_hm1: -9223372036854775808<=most) (_hm2:most<=9223372036854775807):
  Calls Tryz.prog 57 #[.string s,.int .i64 most] w fun e w'=>e=.returned (.tuple #[.string (mkS (fR s.data.toList most).1),.int .i64 (fR s.data.toList most).2])/\Below w.heap.size w w':=by
 have z:=aKl s w F
 cases d:dT s.data.toList with
 |none=>
  rw[WA d] at z;rw[VZ d];clear d;go_enter Tryz.func57,Tryz.ntmps57;go_wp2_with fail;refine z.mono ?_;rintro e E ⟨rfl,A⟩;go_wp2_with fail
  go_ret2
  exact⟨rfl,A⟩
 |some o=>
  rw[WB d] at z;rw[LI d];clear d
  by_cases h:most<(o.length:Int)
  ·rw[if_pos h];have t1:decide (most<(o.length:Int))=true:=decide_eq_true h;have G:decide ((o.length:Int)>most)=true:=decide_eq_true h;go_enter Tryz.func57,Tryz.ntmps57;go_wp2_with fail;refine z.mono ?_;rintro e E ⟨rfl,A⟩;go_wp2_with fail
   go_ret2
   exact⟨rfl,A⟩
  ·rw[if_neg h];have t1:decide (most<(o.length:Int))=false:=decide_eq_false h;have G:decide ((o.length:Int)>most)=false:=decide_eq_false h;go_enter Tryz.func57,Tryz.ntmps57;go_wp2_with fail;refine z.mono ?_;rintro e E ⟨rfl,A⟩;go_wp2_with fail
   go_ret2
   exact⟨rfl,A⟩
end
section
open Go.RowKit
def ByA (w:World) (g:Nat) (l:List UInt8):Prop:=g<w.heap.size/\(∀j b,l[j]? =some b->w.cell? ⟨g,j,none⟩=some (.int .u8 (b.toNat:Int)))/\∀j,j<l.length->w.frozen? ⟨g,j,none⟩=false
theorem ByA.kept {w w':World} {g:Nat} {l:List UInt8} {row:Option Nat} (h:ByA w g l) (d:w.grownBy w' row) (A:some g≠row):ByA w' g l:=
 ⟨dR h.1 d.size,fun j b z=>by rw[oK (d.block g h.1 A)];exact h.2.1 j b z,fun j z=>by rw[OI (d.block g h.1 A)];exact h.2.2 j z⟩
theorem ByA.below {w w':World} {B g:Nat} {l:List UInt8} (h:ByA w g l) (d:Below B w w') (A:g<B):ByA w' g l:=
 ⟨dR h.1 d.size,fun j b z=>by rw[d.cell (p:=⟨g,j,none⟩) A];exact h.2.1 j b z,fun j z=>by rw[d.frozen (p:=⟨g,j,none⟩) A];exact h.2.2 j z⟩
theorem ByA.set {w:World} {g:Nat} {l:List UInt8} (h:ByA w g l) (i:Nat) (b:UInt8):ByA (w.setCell ⟨g,i,none⟩ (.int .u8 (b.toNat:Int))) g (l.set i b):=by
 refine⟨by simpa using h.1,fun j c d=>?_,fun j d=>by rw[AU];exact h.2.2 j (by simpa using d)⟩;obtain⟨z,A⟩:=eU.1 d;rw[List.length_set] at z
 by_cases e:i=j
 ·subst e;rw[List.getElem_set_self] at A;subst A;exact oM _ _ _ (h.2.1 i _ (aN z))
 ·rw[iQ _ _ _ _ (fun E=>e (by have:=congrArg Addr.off E;simpa using this))];refine h.2.1 j c ?_;rw[<-d,qU e]
theorem WI:(Tryz.prog.info? 5).map (·.size)=some 1:=by kernel_rfl
theorem WJ {J:Array Oper} {rest:List Oper} {o:Oper} {a:Act} {Q:Exit->Act->World->Prop} {w:World} (Z:o.guard=none) (d s:Operand)
  (L:o.op=.call {callee:=.builtin .copy,args:=#[d,s],argTypes:=#[45,45]}) (g:Nat) (l:List UInt8) (i:Nat) (hA:ByA w g l) (hi:i<l.length)
  (dp:Option Addr) (dLen dCap sCap:Nat) (hd:a.eval d=.slice dp dLen dCap) (hs:a.eval s=.slice (some ⟨g,0,none⟩) i sCap) (hdl:dLen=l.length-1) (hdp:1<l.length->dp=some ⟨g,1,none⟩)
  (h:∀w',ByA w' g (l.take 1++l.take i++l.drop (i+1))->w.grownBy w' (some g)->wpList Tryz.prog J Q rest (a.put o.dst (goInt i)) w'):
  wpList Tryz.prog J Q (o::rest) a w:=by
 refine AD Z fun K hK=>?_
 replace h:=fun w' q1 q2=>hK _ _ (h w' q1 q2)
 rcases fJ i with M|M
 ·subst M;have G:=run_copy_none (P:=Tryz.prog) w 45 45 o.type 5 dp (some ⟨g,0,none⟩) dLen dCap 0 sCap Tryz.underlying45 WI (Nat.zero_min _);unfold lX;simp[execOp,L,resolve,invoke,builtin,hd,hs,G,jB];refine h w ?_ ⟨rfl,rfl,rfl,aA _,fun _ _ _=>rfl⟩;rw[FX,eE,jE];exact hA
 ·have a0:=hdp (by omega);subst a0;have A:(l.take i).length=i:=by rw[aX];omega
  have G:=run_copy_cells (P:=Tryz.prog) w 45 45 o.type 5 g 1 dLen dCap ⟨g,0,none⟩ i sCap (eO (l.take i)) Tryz.underlying45 WI (by rw[rE,A];exact(gU (by omega)).symm)
   (fun j v z=>by
    unfold eO at z;rw[List.getElem?_map] at z
    cases E:(l.take i)[j]? with
    |none=>rw[E] at z;simp at z
    |some b=>
     rw[E] at z;simp at z;subst z;have e:(⟨g,0,none⟩:Addr).add j=⟨g,j,none⟩:=by unfold Addr.add;split<;>simp_all
     rw[e];have a1:j<i:=by have:=(eU.1 E).1;omega
     rw[mB a1] at E;exact hA.2.1 j b E)
   (fun j z=>by
    rw[rE,A] at z;rw[hA.2.1 (1+j) _ (aN (by omega))];rfl)
   (fun j z=>by rw[rE,A] at z;exact hA.2.2 (1+j) (by omega))
   (fun v hv=>by obtain⟨b,_,rfl⟩:=dU.1 hv;rfl)
  rw[rE,A] at G;unfold lX;simp[execOp,L,resolve,invoke,builtin,hd,hs,G,jB];have O:∀(H:List Value) (o:Nat) (w:World),w.grownBy (w.setCells g o H) (some g):=by
   intro H
   induction H with
   |nil=>intro o w;exact⟨rfl,rfl,rfl,aA _,fun _ _ _=>rfl⟩
   |cons v H ih=>
    intro o w;have F:=ih (o+1) (w.setCell ⟨g,o,none⟩ v);refine⟨F.os,F.tape,F.output,aW (by simp) F.size,fun k I T=>?_⟩;rw[World.setCells,F.block k (by simpa using I) T];exact kT _ _ _ _ (fun e=>T (by rw[e]))
  have a2:(l.take 1++l.take i++l.drop (i+1)).length=l.length:=by simp only[aL,aX,cI];omega
  refine h _ ⟨dR hA.1 (O _ _ _).size,fun j b z=>?_,fun j z=>?_⟩ (O _ _ _)
  ·rcases fJ j with U|U
   ·subst U;rw[aTi g _ _ _ _ (fun _ _=>.inl (by simp))];refine hA.2.1 0 b ?_;rw[<-z,cF,gS (by rw[aX];omega),mB (by omega)]
   ·rcases bT j (i+1) with q|q
    ·have V:j-1<(eO (l.take i)).length:=by rw[rE,A];omega
     have Y:=World.cell?_setCells_in g (eO (l.take i)) 1 w (fun k I=>by
      rw[rE,A] at I;rw[hA.2.1 (1+k) _ (aN (by omega))];rfl) (j-1) V
     rw[show 1+(j-1)=j by omega] at Y;rw[Y];have e:(l.take i)[j-1]? =some b:=by
      rw[<-z,cF,jY (by rw[aX];omega),aX,show min 1 l.length=1 by omega,gS (by rw[A];omega)]
     have:=BH e;rw[aN V] at this;exact this
    ·rw[aTi g _ _ _ _ (fun _ _=>.inr (by rw[rE,A];simp;omega))];refine hA.2.1 j b ?_;have e3:i+1+(j-(l.take 1++l.take i).length)=j:=by simp only[aL,aX];omega
     rw[<-z,jY (by simp only[aL,aX];omega),gR,e3]
  ·rw[World.frozen?_setCells];rw[a2] at z;exact hA.2.2 j z
theorem aKu {l:List UInt8} {i:Nat} (hi:i<l.length):eF l i=l[i]::(l.take i++l.drop (i+1)):=by
 have e:(l.drop i).take 1=[l[i]]:=by rw[oH hi];rfl
 unfold eF;rw[e];simp
theorem WK {l:List UInt8} {i:Nat} (hi:i<l.length):(l.take 1++l.take i++l.drop (i+1)).set 0 l[i]=eF l i:=by
 rw[aKu hi]
 cases l with
 |nil=>simp at hi
 |cons b l=>simp
theorem nK {w w':World} {g:Nat} (h:w.grownBy w' (some g)) (k:Nat) (v:Value):w.grownBy (w'.setCell ⟨g,k,none⟩ v) (some g):=
 ⟨h.os,h.tape,h.output,by simpa using h.size,fun i hi d=>(kT _ _ _ _ (fun e=>d (by rw[e]))).trans (h.block i hi d)⟩
theorem WL {w0 w:World} {g n cap bx:Nat} {l:List UInt8} (h:w.cell? ⟨bx,0,none⟩=some (.slice (some ⟨g,0,none⟩) n cap)/\ByA w g l/\w0.grownBy w (some g)):w.drew.cell? ⟨bx,0,none⟩=some (.slice (some ⟨g,0,none⟩) n cap)/\ByA w.drew g l/\w0.grownBy w.drew (some g):=
 ⟨h.1,h.2.1,nC h.2.2⟩
theorem WM (g cap i:Nat) (l:List UInt8) (w:World) (O:ByA w g l) (hi:i<l.length) (hl:l.length<=1000) (a6:l.length<=cap) (a1:cap<=maxLen):
  Calls Tryz.prog 224 #[.agg #[.slice (some ⟨g,0,none⟩) l.length cap],.int .i64 (i:Int)] w fun e w'=>e=.returned (.int .u8 (l[i].toNat:Int))/\ByA w' g (eF l i)/\w.grownBy w' (some g):=by
 unfold maxLen at a1;obtain⟨b,H⟩:∃b,b=l[i]:=⟨_,rfl⟩;have I:=hid H;have c1:=O.2.1 i b (by rw[H];exact aN hi);rw[<-H];have a7:=O.1;have J:ByA (w.alloc (.cells #[.slice (some ⟨g,0,none⟩) l.length cap] 183)) g l:=O.kept (row:=none) (AV _ _ _) (by simp);have L:w.grownBy (w.alloc (.cells #[.slice (some ⟨g,0,none⟩) l.length cap] 183)) (some g):=AV _ _ _;have M:=bS w (.slice (some ⟨g,0,none⟩) l.length cap) 183;have z:w.heap.size<(w.alloc (.cells #[.slice (some ⟨g,0,none⟩) l.length cap] 183)).heap.size:=by simp
 have a8:1<=l.length:=by omega
 have a9:1<=cap:=by omega
 have b0:=b.toNat_lt;clear H;go_enter Tryz.func224,Tryz.ntmps224;have b1:i<=cap:=by omega
 have b2:(i:Int)<=(cap:Int):=by omega
 have b3:(1:Int)<=(l.length:Int):=by omega
 have b4:(1:Int)<=(cap:Int):=by omega
 go_upto_region 2 with fail;generalize w.alloc (.cells #[.slice (some ⟨g,0,none⟩) l.length cap] 183)=A at*
 by_cases a2:cap=1
 ·subst a2;have b5:l.length=1:=by omega
  have hi0:i=0:=by omega
  subst hi0
  go_still_tail 7,(by kernel_rfl)
  change wpList _ _ _ _ _ A.drew;obtain⟨T,U,V⟩:=WL ⟨M,J,L⟩
  replace z:w.heap.size<A.drew.heap.size:=z
  clear M J L;generalize A.drew=w2 at*
  refine WJ rfl _ _ rfl g l 0 U hi _ _ _ _ rfl rfl (by omega) (fun h1=>?_) ?_
  ·exfalso;omega
  intro w3 d E;have Y:some w.heap.size≠some g:=by simp;omega
  have Z:=T;rw[<-oK (E.block _ z Y)] at Z;have a3:(l.take 1++l.take 0++l.drop (0+1)).length=l.length:=by simp only[aL,aX,cI];omega
  have F:0<(l.take 1++l.take 0++l.drop (0+1)).length:=by omega
  have a4:=d.2.1 0 _ (aN F);have a5:=d.2.2 0 F;have G:=d.set 0 b;have a0:=nK (dS V E) 0 (.int .u8 (b.toNat:Int));rw[I.out,WK hi,<-I.out] at G;go_wp2_with fail;go_ret;exact⟨rfl,G,a0⟩
 ·go_still_tail 7,(by kernel_rfl)
  change wpList _ _ _ _ _ A.drew;obtain⟨T,U,V⟩:=WL ⟨M,J,L⟩
  replace z:w.heap.size<A.drew.heap.size:=z
  clear M J L;generalize A.drew=w2 at*
  refine WJ rfl _ _ rfl g l i U hi _ _ _ _ rfl rfl rfl (fun h1=>rfl) ?_;intro w3 d E;have Y:some w.heap.size≠some g:=by simp;omega
  have Z:=T;rw[<-oK (E.block _ z Y)] at Z;have a3:(l.take 1++l.take i++l.drop (i+1)).length=l.length:=by simp only[aL,aX,cI];omega
  have F:0<(l.take 1++l.take i++l.drop (i+1)).length:=by omega
  have a4:=d.2.1 0 _ (aN F);have a5:=d.2.2 0 F;have G:=d.set 0 b;have a0:=nK (dS V E) 0 (.int .u8 (b.toNat:Int));rw[I.out,WK hi,<-I.out] at G;go_wp2_with fail;go_ret;exact⟨rfl,G,a0⟩
def qQ (f:Nat->Bool):List Value:=(List.range 256).map (fun d=>Value.bool (f d))
theorem LK (f:Nat->Bool) (i:Nat) (h:i<256):(qQ f)[i]? =some (.bool (f i)):=by simp[qQ,h]
theorem aKv (f f':Nat->Bool) (i:Nat) (v:Bool) (h:∀d,d<256->f' d=if d=i then v else f d):(qQ f).set i (.bool v)=qQ f':=by
 apply List.ext_getElem?;intro j
 by_cases z:j<256
 ·by_cases A:i=j
  ·subst A;simp[qQ,z,h i z]
  ·rw[qU A,LK f j z,LK f' j z,h j z,if_neg (fun e=>A e.symm)]
 ·rw[dL (by simp[qQ];omega),dL (by simp[qQ];omega)]
theorem aKw {l:List UInt8} {c:UInt8} (h:c∈l):Lib.indexByte l c=((plc l c:Nat):Int):=by
 induction l with
 |nil=>simp at h
 |cons b l d=>
  unfold Lib.indexByte plc;rw[List.findIdx_cons]
  by_cases e:b=c
  ·subst e;simp
  ·have z:c∈l:=by rcases List.mem_cons.1 h with q|q;exact absurd q.symm e;exact q
   have:=d z;unfold plc at this;have A:(b==c)=false:=by simp[e]
   rw[this];simp only[A,cond_false];rw[if_neg (by simp),if_neg (by simp)];rfl
theorem aKx (g cap:Nat) (l:List UInt8) (c:UInt8) (w:World) (z:ByA w g l) (A:c∈l):
  Calls Tryz.prog 223 #[.slice (some ⟨g,0,none⟩) l.length cap,.int .u8 (c.toNat:Int)] w fun e w'=>e=.returned (.int .i64 ((plc l c:Nat):Int))/\w'=w:=by
 have d:=Lib.run_indexByteSlice (P:=Tryz.prog) w g 0 l.length cap (l.map (fun b=>(b.toNat:Int))) (by simp) (fun i hi=>by
  rw[iZ,z.2.1 i _ (aN hi)];simp[fF,aN hi]) (c.toNat:Int)
 have E:Lib.bytesOf (l.map (fun b=>(b.toNat:Int)))=l:=by
  unfold Lib.bytesOf;rw[List.map_map]
  conv=>rhs;rw[<-List.map_id l]
  exact List.map_congr_left (fun b _=>by simp)
 rw[E,show((c.toNat:Int).toNat.toUInt8)=c by simp,aKw A] at d;go_enter Tryz.func223,Tryz.ntmps223;go_wp2_with fail;rw[run_callFunc_extern Tryz.func243 (by kernel_rfl) (by kernel_rfl) (by kernel_rfl) (e:=Extern.BytealgIndexByte.indexByte) (by kernel_rfl),d];simp only[jB];rw[Oper.upon_value];go_wp2;go_ret;exact⟨rfl,rfl⟩
theorem WN (a:ByteArray) (w:World) (hs:a.size<=1000000000) (J:a.data.toList.Nodup):
  Calls Tryz.prog 187 #[.string a] w fun e w'=>e=.returned (.bool true)/\Below w.heap.size w w':=by
 have L:=hid J;clear J;have M:a.data.toList.length=a.size:=by simp
 have E:=hid M;clear M;go_enter Tryz.func187,Tryz.ntmps187;go_wp2_with fail
 go_loopg [2,4,7] a.size (fun Y _s2 _s4 Z wr=>∃k:Nat,k<=a.size/\Y=a.size-k/\Z=.int .i64 k/\Arr wr w.heap.size 123 (qQ (fun d=>(a.data.toList.take k).any (fun b=>b.toNat==d)))/\Below w.heap.size w wr)
 case atStart=>
  refine⟨0,aU _,rfl,rfl,?_,(aB _ _).alloc (aA _) _⟩;have z:Tryz.zeroCells123=(qQ (fun _=>false)).toArray:=by kernel_rfl
  rw[z]
  simpa using Arr.new w 123 (qQ (fun _=>false))
 case round=>
 obtain⟨k,hk,F,rfl,G,O⟩:=hrel;have HG:=hid F;clear F
 by_cases H:k<a.size
 ·have I:=a[k].toNat_lt;have a0:a[k].toNat<256:=I;have a2:(a[k].toNat:Int)<256:=by omega
  have a1:(a.data.toList.take k).any (fun b=>b.toNat==a[k].toNat)=false:=by
   rw[<-Bool.not_eq_true,List.any_eq_true];rintro⟨b,I,e⟩
   replace e:=beq_iff_eq.1 e
   have e2:b=a[k]:=qV.1 e;subst e2;obtain⟨j,hj,T⟩:=List.getElem_of_mem I;rw[aX] at hj;rw[List.getElem_take] at T;have p1:=IL L.out (i:=j) (by rw[E.out];omega);have p2:=IL L.out (i:=k) (by rw[E.out];exact H);rw[T] at p1;have p3:a.data.toList[k]'(by rw[E.out];exact H)=a[k]:=by simp;rfl
   rw[p3] at p2;omega
  have a3:=G.cell (i:=a[k].toNat) (by rw[LK _ _ a0,a1]);have a4:=G.free a[k].toNat;have U:=aKv (fun d=>(a.data.toList.take k).any (fun b=>b.toNat==d)) (fun d=>(a.data.toList.take (k+1)).any (fun b=>b.toNat==d)) a[k].toNat true (fun d _=>by
   rw[cQ,eW a k H,mX];rw[List.any_append]
   by_cases A:d=a[k].toNat
   ·rw[if_pos A,A];simp
   ·rw[if_neg A];have:(a[k].toNat==d)=false:=by(rw[beq_eq_false_iff_ne];exact fun e=>A e.symm)
    simp[this])
  have V:=G.set a[k].toNat (.bool true);rw[U] at V;clear U;go_wp2_with fail;have F:=HG.out
  go_roundg (a.size-(k+1))
  case measure=>omega
  case rel=>exact⟨k+1,by omega,rfl,by go_num,V,O.setCell (aA _) _⟩
 ·go_wp2_with fail;go_ret;exact⟨rfl,O⟩
structure Tel (w:World) (B C tb g cap:Nat) (l:List UInt8) (pv:Value) (ps:List Int):Prop where
 c0:w.cell? ⟨tb,0,none⟩=some (.slice (some ⟨g,0,none⟩) l.length cap)
 c1:w.cell? ⟨tb,1,none⟩=some pv
 fr:w.frozen? ⟨tb,1,none⟩=false
 by':ByA w g l
 own:OwI w C pv ps
 sep:B<=g/\B<=tb/\tb≠g/\g<C/\tb<C/\C<=w.heap.size
theorem zH (w:World) (row:Option Nat):w.grownBy w row:=⟨rfl,rfl,rfl,aA _,fun _ _ _=>rfl⟩
theorem OwI.kept {w w':World} {B:Nat} {v:Value} {l:List Int} {row:Option Nat} (h:OwI w B v l) (d:w.grownBy w' row) (z:∀b,row=some b->b<B):OwI w' B v l:=by
 refine Ow.kept h d ?_
 cases e:v.ownBlock with
 |none=>exact .inl rfl
 |some k=>
  right
  intro A;have:=z k A.symm;have:=(Ow.lt h k e).1;omega
theorem aKy {w z:World} {C d g:Nat} {l:List UInt8} {x y:Value} {o:Obj} (G:w.cell? ⟨d,0,none⟩=some x) (H:w.cell? ⟨d,1,none⟩=some y) (I:w.frozen? ⟨d,1,none⟩=false) (J:ByA w g l) (L:g<C) (A:d<C) (M:C<=w.heap.size) (E:Below C (w.alloc o) z):
  z.cell? ⟨d,0,none⟩=some x/\z.cell? ⟨d,1,none⟩=some y/\z.frozen? ⟨d,1,none⟩=false/\ByA z g l:=by
 have F:d<w.heap.size:=dR A M;refine⟨?_,?_,?_,((J.kept (row:=none) (AV w o none) (by simp)).below E L)⟩
 ·rw[E.cell (p:=⟨d,0,none⟩) A,oK (oF w o d F)];exact G
 ·rw[E.cell (p:=⟨d,1,none⟩) A,oK (oF w o d F)];exact H
 ·rw[E.frozen (p:=⟨d,1,none⟩) A,OI (oF w o d F)];exact I
theorem aKz (B C d g cap:Nat) (l:List UInt8) (pv:Value) (E:List Int) (c:UInt8) (w w0:World) (hT:Tel w B C d g cap l pv E) (a0:Below B w0 w) (L:c∈l) (hl:l.length<=1000) (a1:l.length<=cap) (a2:cap<=maxLen) (hp:E.length<=1000000):
  Calls Tryz.prog 188 #[.pointer (some ⟨d,0,none⟩),.int .u8 (c.toNat:Int)] w fun e w'=>e=.returned (.bool true)/\Below B w0 w'/\∃z,Tel w' B C d g cap (eF l (plc l c)) z (E++[((plc l c:Nat):Int)]):=by
 obtain⟨t1,t2,t3,M,a4,hg,O,G,T,U,a5⟩:=hT;have V:=rG L;obtain⟨p,H⟩:∃p,p=plc l c:=⟨_,rfl⟩;rw[<-H] at V;have Y:=hid H;clear H;rw[<-Y.out];have b2:=c.toNat_lt;have b3:=decide_eq_false (show ¬(p:Int)<0 by omega);go_enter Tryz.func188,Tryz.ntmps188;go_wp2_with fail;refine(aKx g cap l c _ M L).mono ?_;rintro e w1 ⟨rfl,rfl⟩;rw[<-Y.out]
 go_wp2_with (at_builtin;refine eN rfl _ _ rfl C _ _ rfl (a4.alloc _) w1.heap.size (p:Int) rfl ?_ ?_ ?_ ?_;(exact bS _ _ _);omega;(simp;omega);intro v' A I J _;obtain⟨a3,c3,e3,_,_,_⟩:=I.rd.open;subst e3;obtain⟨u1,u2,u3,u4⟩:=aKy t1 t2 t3 M T U a5 J);rw[show(E++[(p:Int)]).length=E.length+1 by simp] at I;generalize hv:Value.slice a3 (E.length+1) c3=z at*
 have a6:C<=A.heap.size:=by have:=J.size;simp at this;omega
 have Z:=nK (zH A (some d)) 1 z;have a7:=u4.kept Z (by simp;omega);have a8:=I.kept Z (fun b e=>by simp at e;omega);have q0:(A.setCell ⟨d,1,none⟩ z).cell? ⟨d,0,none⟩=some (.slice (some ⟨g,0,none⟩) l.length cap):=by
  rw[iQ _ _ _ _ (by simp)];exact u1
 have q1:(A.setCell ⟨d,1,none⟩ z).cell? ⟨d,1,none⟩=some z:=oM _ _ _ u2;have q2:(A.setCell ⟨d,1,none⟩ z).frozen? ⟨d,1,none⟩=false:=by rw[AU];exact u3
 have a9:Below B w0 (A.setCell ⟨d,1,none⟩ z):=((a0.alloc (by omega) _).trans (J.mono (by omega))).setCell O _;have b0:C<=(A.setCell ⟨d,1,none⟩ z).heap.size:=by simpa using a6
 generalize A.setCell ⟨d,1,none⟩ z=w4 at*
 refine(WM g cap p l _ a7 V hl a1 a2).mono ?_;rintro e w5 ⟨rfl,b1,F⟩;have b4:=(l[p]).toNat_lt;go_wp2_with fail;go_ret;have tl:=(vS l p).symm;refine⟨rfl,a9.grown F (by omega) (fun k e=>by simp at e;omega),z,⟨?_,?_,?_,b1,a8.kept F (fun b e=>by simp at e;omega),hg,O,G,T,U,aW b0 F.size⟩⟩
 ·rw[oK (F.block d (by omega) (by simpa using G)),<-tl];exact q0
 ·rw[oK (F.block d (by omega) (by simpa using G))];exact q1
 ·rw[OI (F.block d (by omega) (by simpa using G))];exact q2
theorem aK0 (w:World) (e:TypeId) (s:ByteArray):Below w.heap.size w (Lib.bytesWorld w e s):=
 ⟨rfl,rfl,rfl,by rw[aCt];omega,fun k d=>Lib.bytesWorld_at_old w e s k d⟩
theorem DX (w:World) (a:ByteArray) (A:a.size<=1000000):∃cap w',(convert 9 45 (.string a)).run Tryz.prog w=.ok (.slice (some ⟨w.heap.size,0,none⟩) a.size cap) w'/\a.size<=cap/\cap<=maxLen/\ByA w' w.heap.size a.data.toList/\Below w.heap.size w w'/\w'.heap.size=w.heap.size+1:=by
 refine⟨grownCap w a.size 0 5,Lib.bytesWorld w 5 a,Lib.run_convert_string_bytes w _ _ _ a Tryz.underlying9 Tryz.underlying45 Tryz.underlying5,grownCap_ge _ _ _ _,grownCap_le_maxLen _ _ _ _ (by unfold maxLen;omega),⟨?_,?_,?_⟩,aK0 _ _ _,aCt _ _ _⟩
 ·rw[aCt];omega
 ·intro j b d;have z:j<a.size:=by simpa using(eU.1 d).1
  rw[Lib.bytesWorld_cell w _ a j z,aV,d];rfl
 ·intro j d;have z:j<a.size:=by simpa using d
  have E:j<(Lib.bytesCells w 5 a).size:=by
   unfold Lib.bytesCells;rw[Array.size_append,Array.size_map];have:a.data.size=a.size:=rfl;omega
  simp only[World.frozen?,Lib.bytesWorld_at_new];simp;omega
theorem zI {P:Program} {A:Func} {p u:Tmp} {z:TypeId} (h:A.results=#[.cell p z,.tmp u]) (tmps:Array Value) (w:World) (g:Nat) (t:TypeId) (cs:Array Value) (E:Nat×Nat) (d:TypeDesc)
  (F:tmps.getD p undef=.pointer (some ⟨g,0,none⟩)) (G:w.heap[g]? =some (.cells cs t E))
  (H:P.underlying z=some d) (I:(match d with|.struct _|.array _ _=>true|_=>false)=true) (hi:(P.info? z).map (·.size)=some cs.size):
  (results A tmps).run P w=.ok (.tuple #[.agg cs,tmps.getD u undef]) w:=by
 rw[results_cell_tmp h,F];simp[asAddr,jB,run_loadVar_row w g t z cs E d G H I hi]
theorem aK1:(Tryz.prog.info? 185).map (·.size)=some 2:=by kernel_rfl
theorem aK2 (a s:ByteArray) (w:World) (ha:a.size<=1000) (hs:s.size<=1000000) (T:a.data.toList.Nodup) (U:∀b∈s.data.toList,b∈a.data.toList):
  Calls Tryz.prog 134 #[.string a,.string s] w fun e w'=>∃ad n c v,e=.returned (.tuple #[.agg #[.slice ad n c,v],.int .i64 0])/\OwI w' w.heap.size v (cM a.data.toList s.data.toList)/\Below w.heap.size w w':=by
 have HN:=hid T;have a7:=hid U;have V:s.data.toList.length=s.size:=by simp
 have Y:a.data.toList.length=a.size:=by simp
 have Z:=hid V;have a0:=hid Y;clear T U V Y;go_enter Tryz.func134,Tryz.ntmps134;go_wp2_with fail;have a1:=Arr.new w 185 [.slice none 0 0,.slice none 0 0];have c5:=(aB (w.heap.size+1) (w.alloc (.cells #[.slice none 0 0,.slice none 0 0] 185)));have a8:=((aB w.heap.size w).alloc (aA _) (.cells #[.slice none 0 0,.slice none 0 0] 185));have a9:(w.alloc (.cells #[.slice none 0 0,.slice none 0 0] 185)).heap.size=w.heap.size+1:=by simp
 change Arr (w.alloc (.cells #[.slice none 0 0,.slice none 0 0] 185)) _ _ _ at a1;generalize w.alloc (.cells #[.slice none 0 0,.slice none 0 0] 185)=A at*
 obtain⟨cap,d,b0,c6,b1,a2,b2,H⟩:=DX A a (by omega);rw[b0];rw[a9] at H a2;have b3:=a2.kept (row:=none) (AV d (.cells #[.slice (some ⟨w.heap.size+1,0,none⟩) a.size cap,.slice none 0 0] 185) none) (by simp);have E:=Arr.new d 185 [.slice (some ⟨w.heap.size+1,0,none⟩) a.size cap,.slice none 0 0];have b4:Below (w.heap.size+1) A (d.alloc (.cells #[.slice (some ⟨w.heap.size+1,0,none⟩) a.size cap,.slice none 0 0] 185)):=(b2.mono (by omega)).alloc (by omega) _
 have c7:(d.alloc (.cells #[.slice (some ⟨w.heap.size+1,0,none⟩) a.size cap,.slice none 0 0] 185)).heap.size=w.heap.size+1+1+1:=by simp[H]
 rw[H] at E;go_wp2_with fail;change Arr (d.alloc (.cells #[.slice (some ⟨w.heap.size+1,0,none⟩) a.size cap,.slice none 0 0] 185)) _ _ _ at E;generalize d.alloc (.cells #[.slice (some ⟨w.heap.size+1,0,none⟩) a.size cap,.slice none 0 0] 185)=G at*
 refine(WN a G (by omega) HN.out).mono ?_;rintro e w4 ⟨rfl,z⟩;have c8:=z.size;have b5:Tel w4 (w.heap.size+1) (w.heap.size+1+1+1) (w.heap.size+1+1) (w.heap.size+1) cap a.data.toList (.slice none 0 0) []:=
  ⟨by rw[z.cell (p:=⟨w.heap.size+1+1,0,none⟩) (by show w.heap.size+1+1<G.heap.size;omega),E.cell (i:=0) rfl,a0.out],
   by rw[z.cell (p:=⟨w.heap.size+1+1,1,none⟩) (by show w.heap.size+1+1<G.heap.size;omega),E.cell (i:=1) rfl],
   by rw[z.frozen (p:=⟨w.heap.size+1+1,1,none⟩) (by show w.heap.size+1+1<G.heap.size;omega),E.free],
   b3.below z (by omega),OwI.nil _ _,by omega⟩
 have b6:Below (w.heap.size+1) A w4:=b4.trans (z.mono (by omega));go_wp2_with fail
 go_loopg [5,7,18] s.size (fun gh s5 _s7 b7 wr=>∃k:Nat,∃I:Value,k<=s.size/\gh=s.size-k/\b7=.int .i64 k/\s5=.int .i64 0/\Tel wr (w.heap.size+1) (w.heap.size+1+1+1) (w.heap.size+1+1) (w.heap.size+1) cap (eB a.data.toList (s.data.toList.take k)) I (cM a.data.toList (s.data.toList.take k))/\Below (w.heap.size+1) A wr)
 case atStart=>exact⟨0,_,aU _,rfl,rfl,rfl,by simpa [eB,cM] using b5,b6⟩
 case round=>
 obtain⟨k,I,hk,J,rfl,rfl,L,M⟩:=hrel;have HG:=hid J;clear J
 by_cases O:k<s.size
 ·have a4:=BV (s.data.toList.take k) a.data.toList;have c9:(eB a.data.toList (s.data.toList.take k)).length=a.size:=by rw[a4.length_eq];exact a0.out
  have b8:s[k]∈eB a.data.toList (s.data.toList.take k):=a4.mem_iff.2 (a7.out _ (cH (eW s k O)));have e1:=hid (show cM a.data.toList (s.data.toList.take (k+1))=cM a.data.toList (s.data.toList.take k)++[((plc (eB a.data.toList (s.data.toList.take k)) s[k]:Nat):Int)] by
   rw[cQ,eW s k O,mX,BW])
  have e2:=hid (show eB a.data.toList (s.data.toList.take (k+1))=eF (eB a.data.toList (s.data.toList.take k)) (plc (eB a.data.toList (s.data.toList.take k)) s[k]) by
   rw[cQ,eW s k O,mX,IM])
  have b9:=hid (show(cM a.data.toList (s.data.toList.take k)).length=k by rw[rH,aX,Z.out];omega);have hb:=s[k].toNat_lt;go_wp2_with fail;refine(aKz _ _ _ _ cap _ _ _ s[k] _ A L M b8 (by omega) (by omega) b1 (by rw[b9.out];omega)).mono ?_;rintro e w6 ⟨rfl,c2,c4,a5⟩;rw[<-e1.out,<-e2.out] at a5;go_wp2_with fail;have J:=HG.out
  go_roundg (s.size-(k+1))
  case measure=>omega
  case rel=>exact⟨k+1,c4,by omega,rfl,by go_num,rfl,a5,c2⟩
 ·have d0:k=s.size:=by omega
  rw[cS (by rw[Z.out];omega)] at L;have F:Arr wr w.heap.size 185 [.slice none 0 0,.slice none 0 0]:=a1.below M (by omega);obtain⟨c0,c1,_,_,a6,d1⟩:=L;obtain⟨a3,c3,e3,_,_,_⟩:=a6.rd.open;have f0:=F.cell (i:=0) rfl;have f1:=F.cell (i:=1) rfl;have f2:=F.free 0;have f3:=F.free 1;have hS:∀(v:Value),v=I->OwI ((wr.setCell ⟨w.heap.size,0,none⟩ (.slice (some ⟨w.heap.size+1,0,none⟩) (eB a.data.toList s.data.toList).length cap)).setCell ⟨w.heap.size,1,none⟩ v) w.heap.size v (cM a.data.toList s.data.toList):=fun v hv=>by
   subst hv;exact(a6.kept (nK (nK (zH wr (some w.heap.size)) 0 _) 1 v) (fun b e=>by simp at e;omega)).base (by omega)
  have hB:∀(v:Value),Below w.heap.size w ((wr.setCell ⟨w.heap.size,0,none⟩ (.slice (some ⟨w.heap.size+1,0,none⟩) (eB a.data.toList s.data.toList).length cap)).setCell ⟨w.heap.size,1,none⟩ v):=fun v=>((a8.trans (M.mono (by omega))).setCell (aA _) _).setCell (aA _) _
  subst e3;go_wp2_with fail;have hF:Arr ((wr.setCell ⟨w.heap.size,0,none⟩ (.slice (some ⟨w.heap.size+1,0,none⟩) (eB a.data.toList s.data.toList).length cap)).setCell ⟨w.heap.size,1,none⟩ (.slice a3 (cM a.data.toList s.data.toList).length c3)) w.heap.size 185 [.slice (some ⟨w.heap.size+1,0,none⟩) (eB a.data.toList s.data.toList).length cap,.slice a3 (cM a.data.toList s.data.toList).length c3]:=(F.set 0 _).set 1 _;exact gJ (zI rfl _ _ w.heap.size _ _ (0,0) _ rfl hF Tryz.underlying185 rfl aK1) rfl ⟨_,_,_,_,rfl,hS _ rfl,hB _⟩
theorem aK3 (a s:ByteArray) (w:World) (G:a.size<=1000) (H:s.size<=1000000) (d:a.data.toList.Nodup) (z:∀b∈s.data.toList,b∈a.data.toList):
  Calls Tryz.prog 67 #[.string a,.string s] w fun e w'=>∃v,e=.returned (.tuple #[v,.int .i64 0])/\OwI w' w.heap.size v (cM a.data.toList s.data.toList)/\Below w.heap.size w w':=by
 have HT:=hid (aK2 a s w G H d z);clear d z;go_enter Tryz.func67,Tryz.ntmps67;go_wp2_with fail;refine HT.out.mono ?_;rintro e O ⟨A,n,c,v,rfl,E,F⟩;obtain⟨T,U,I,_,_,_⟩:=E.rd.open;have J:=F.size;have L:=E.alloc (.cells #[.slice A n c,v] 185);have M:=F.alloc J (.cells #[.slice A n c,v] 185);subst I;go_wp2_with fail
 go_ret2
 exact⟨_,rfl,L,M⟩
theorem aK4 {P:Program} {d:Array Oper} {rest:List Oper} {o:Oper} {a:Act} {Q:Exit->Act->World->Prop} {w:World} {t e A:Nat} {z:Value} (E:ElT P t e A z) (G:o.guard=none) (l c:Operand)
  (H:o.op=.makeSlice t l c) (n:Nat) (I:a.eval l=.int .i64 0) (J:a.eval c=.int .i64 (n:Int)) (L:n*A<=140737488355328)
  (h:∀w',Ow w' w.heap.size e (.slice (some ⟨w.heap.size,0,none⟩) 0 n) []->Below w.heap.size w w'->w'.heap.size=w.heap.size+1->wpList P d Q rest (a.put o.dst (.slice (some ⟨w.heap.size,0,none⟩) 0 n)) w'):wpList P d Q (o::rest) a w:=by
 refine AD G fun K M=>?_
 obtain⟨i,hi,O,T,U⟩:=E.info;have V:=E.pos;have Z:n<=140737488355328:=aW (Nat.le_mul_of_pos_right _ V) L;have Y:(i.bytes:Int)*(n:Int)<=281474976710656:=by
  rw[U,<-Int.natCast_mul,Nat.mul_comm];omega
 have F:=run_make (P:=P) w t e i z E.under hi O .i64 .i64 0 (n:Int) (by omega) (by omega) Y (by omega);rw[T,sE,eG,E.cells,show madeCells #[z] n=fB z n from by rw[fB,<-toList_madeCells_one]] at F;unfold lX;simp[execOp,H,I,J,F,jB];exact M _ _ (h _ (World.ownsRow_made w _ n (aA _) (by unfold maxLen;omega) (by simp[fB])) ((aB _ _).alloc (aA _) _) (by simp))
theorem OwB.kept {w w':World} {B:Nat} {v:Value} {l:List UInt8} {row:Option Nat} (h:OwB w B v l) (d:w.grownBy w' row) (z:∀b,row=some b->b<B):OwB w' B v l:=by
 refine Ow.kept h d ?_
 cases e:v.ownBlock with
 |none=>exact .inl rfl
 |some k=>
  right
  intro A;have:=z k A.symm;have:=(Ow.lt h k e).1;omega
theorem aK5 (a:ByteArray) (v:Value) (l:List Int) (w:World) (ha:a.size<=1000) (hl:l.length<=1000000) (V:a.data.toList.Nodup) (Y:RdI w v l) (z:∀x∈l,0<=x/\x<(a.size:Int)):
  Calls Tryz.prog 208 #[.string a,v] w fun e w'=>e=.returned (.tuple #[.string (mkS (unL a.data.toList l)),.int .i64 0])/\Below w.heap.size w w':=by
 obtain⟨ad,ca,rfl,d8,b4,Z⟩:=Y.open;unfold maxLen at b4;have HN:=hid V;have HX:=hid z;have a0:a.data.toList.length=a.size:=by simp
 have b5:=hid a0;clear V z Y a0;go_enter Tryz.func208,Tryz.ntmps208;go_wp2_with fail;refine(WN a _ (by omega) HN.out).mono ?_;rintro e d ⟨rfl,a1⟩;have b6:=a1.size;go_wp2_with fail;obtain⟨cap,E,b7,b8,b9,c0,c2,a2⟩:=DX d a (by omega);rw[b7];have c3:=c0.kept (row:=none) (AV E (.cells #[.slice (some ⟨d.heap.size,0,none⟩) a.size cap] 183) none) (by simp);have a3:=bS E (.slice (some ⟨d.heap.size,0,none⟩) a.size cap) 183;have c4:Below w.heap.size w (E.alloc (.cells #[.slice (some ⟨d.heap.size,0,none⟩) a.size cap] 183)):=(a1.trans (c2.mono b6)).alloc (by omega) _
 have c5:(E.alloc (.cells #[.slice (some ⟨d.heap.size,0,none⟩) a.size cap] 183)).heap.size=d.heap.size+1+1:=by simp[a2]
 rw[a2] at a3;go_wp2_with (at_make;generalize E.alloc (.cells #[.slice (some ⟨d.heap.size,0,none⟩) a.size cap] 183)=w3 at*;refine aK4 vQ rfl _ _ rfl l.length rfl rfl (by omega) ?_;intro L a4 M d9);have c6:OwB L (d.heap.size+1+1) (.slice (some ⟨d.heap.size+1+1,0,none⟩) 0 l.length) []:=by rw[c5] at a4;exact a4
 have c7:=c3.below M (by omega);have c8:L.cell? ⟨d.heap.size+1,0,none⟩=some (.slice (some ⟨d.heap.size,0,none⟩) a.size cap):=by
  rw[M.cell (p:=⟨d.heap.size+1,0,none⟩) (by show d.heap.size+1<w3.heap.size;omega)];exact a3
 have c9:Below w.heap.size w L:=c4.trans (M.mono (by omega))
 go_loopg [7,9,21] l.length (fun gh s7 _s9 d0 wr=>∃k:Nat,k<=l.length/\gh=l.length-k/\d0=.int .i64 k/\OwB wr (d.heap.size+1+1) s7 (unL a.data.toList (l.take k))/\ByA wr d.heap.size (unA a.data.toList (l.take k))/\wr.cell? ⟨d.heap.size+1,0,none⟩=some (.slice (some ⟨d.heap.size,0,none⟩) a.size cap)/\Below w.heap.size w wr/\d.heap.size+1+1<=wr.heap.size)
 case atStart=>exact⟨0,aU _,rfl,rfl,by simpa [unL] using c6,by simpa [unA] using c7,c8,c9,by omega⟩
 case round=>
 obtain⟨k,hk,O,rfl,T,a5,d1,G,e0⟩:=hrel;have HG:=hid O;clear O
 by_cases d2:k<l.length
 ·obtain⟨b0,o0,rfl,a6,a7⟩:=Z (by omega);obtain⟨x,z⟩:=dH d2;have c1:=(G.cell (p:=⟨b0,o0+k,none⟩) a6).trans (a7 k x z);have d3:=HX.out x (cH z);obtain⟨i,rfl⟩:∃i:Nat,x=(i:Int):=⟨x.toNat,by omega⟩;obtain⟨A,F⟩:∃A,A=unA a.data.toList (l.take k):=⟨_,rfl⟩;have a8:A.length=a.size:=by rw[F,(PM _ _).length_eq];exact b5.out
  have d4:=hid (show(unL a.data.toList (l.take k)).length=k by rw[oO,aX];omega);have hi:i<A.length:=by omega
  have e1:=hid (show unL a.data.toList (l.take (k+1))=unL a.data.toList (l.take k)++[A[i]] by
   rw[cQ,z,mX,IN,<-F];simp[fF,aN hi])
  have e2:=hid (show unA a.data.toList (l.take (k+1))=eF A i by
   rw[cQ,z,mX,IP,<-F];rfl)
  rw[<-F] at a5;have t1:decide ((i:Int)<0)=false:=decide_eq_false (by omega);have t2:decide (a.size<=i)=false:=decide_eq_false (by omega);have t3:decide ((a.size:Int)<=(i:Int))=false:=decide_eq_false (by omega);have e3:=dR a6 G.size;have U:=hid a8;clear a7 Z z d3 F a8;go_wp2_with fail;have a9:=WM d.heap.size cap i A wr a5 hi (by rw[U.out];exact ha) (by rw[U.out];exact b8) b9;rw[U.out] at a9;refine a9.mono ?_;rintro e H ⟨rfl,b1,I⟩;rw[<-e2.out] at b1;have e4:=(A[i]).toNat_lt;have d5:=T.kept I (fun b e=>by simp at e;omega);have b2:=d1
  rw[<-oK (I.block (d.heap.size+1) (by omega) (by simp))] at b2;have d6:Below w.heap.size w H:=G.grown I (by omega) (fun k e=>by simp at e;omega);have e5:=I.size;go_wp2_with (at_builtin;refine yZ rfl _ _ rfl (d.heap.size+1+1) _ _ rfl (d5.alloc _) H.heap.size A[i] rfl ?_ ?_ ?_ ?_;(exact bS _ _ _);(rw[d4.out];omega);(simp;omega);intro v' w7 b3 J _);rw[<-e1.out] at b3;have O:=HG.out;have d7:=J.size;simp only[fV] at d7
  go_roundg (l.length-(k+1))
  case measure=>omega
  case rel=>
   refine⟨k+1,by omega,rfl,by go_num,b3,?_,?_,(d6.alloc (by omega) _).trans (J.mono (by omega)),by omega⟩
   ·exact(b1.kept (row:=none) (AV H _ none) (by simp)).below J (by omega)
   ·rw[J.cell (p:=⟨d.heap.size+1,0,none⟩) (by show d.heap.size+1<d.heap.size+1+1;omega),oK (oF H _ (d.heap.size+1) (by omega))];exact b2
 ·have e6:k=l.length:=by omega
  rw[cS (by omega)] at T;have e7:=lQ T.rd;go_wp2_with fail
  go_ret2
  exact⟨rfl,G⟩
theorem aK6:∀(r:List Int) (k:Nat) (l:List Int),(∀x∈r,x=0)->cZ k (r++l)=cZ (k+r.length) l:=by
 intro r
 induction r with
 |nil=>intro k l _;rfl
 |cons x r d=>
  intro k l h;rw[List.cons_append,cZ,if_pos (h x (by simp)),d (k+1) l (fun y z=>h y (by simp[z])),cR]
  congr 1;omega
theorem WO {l:List Int} (A:∀x∈l,0<=x):(eY 0 l=l.length->cZ 0 l=dig (eY 0 l))/\(∀x,l[eY 0 l]? =some x->cZ 0 l=dig (eY 0 l)++[x+1]++cZ 0 (l.drop (eY 0 l+1))):=by
 have E:∀x∈l.take (eY 0 l),x=0:=fun x d=>by
  have:=yM 0 l x d;have:=A x (nO d);omega
 have e:=aK6 (l.take (eY 0 l)) 0 (l.drop (eY 0 l)) E;rw[jE,aX,gU (vX 0 l),iZ] at e;refine⟨fun z=>?_,fun x d=>?_⟩
 ·rw[e,qY (by omega)];rfl
 ·obtain⟨z,F⟩:=eU.1 d;have:=vY 0 l d;rw[e,oH z,F,cZ,if_neg (by omega)];simp
def aK7 (l:List Int) (z:Nat) (w:World) (g:Nat) (a:Act) (wr:World):Prop:=
 ∃(rest d:List Int) (off cap lb:Nat) (n:Int) (A E F G H I J L M O T U V Y Z a0 a1 a2 a3 a4 a5 a6 a7 a8 a9 b1 b2 b3 b4 b5 b6 b7 b8:Value),
  a={tmps:=#[.slice (some ⟨z,off,none⟩) rest.length cap,A,E,F,.pointer (some ⟨lb,0,none⟩),.func (.func 137) #[.pointer (some ⟨lb,0,none⟩)] #[],.int .i64 n,G,H,I,J,L,M,O,T,U,V,Y,Z,a0,a1,a2,a3,a4,a5,a6,a7,a8,a9,b1,b2,b3,b4,b5,b6,b7,b8],defers:=[]}/\
  rest.length<=cap/\cap<=maxLen/\g=rest.length/\qK wr lb d/\Hid (d++cZ 0 rest=cZ 0 l)/\d.length+rest.length<=l.length/\
  w.heap.size<=lb/\Below w.heap.size w wr/\Hid (∀j x,rest[j]? =some x->w.cell? ⟨z,off+j,none⟩=some (.int .i64 x))/\Hid (∀x∈rest,0<=x/\x<=1000000)
theorem aK8 (v:Value) (l:List Int) (w:World) (H:RdI w v l) (c2:0<l.length) (d3:l.length<=100000) (I:∀x∈l,0<=x/\x<=1000000):
  Calls Tryz.prog 68 #[v] w fun e w'=>∃v',e=.returned (.tuple #[v',.int .i64 0])/\OwI w' w.heap.size v' (cZ 0 l)/\Below w.heap.size w w':=by
 have hb:∀W,Below w.heap.size w W->Calls Tryz.prog 135 #[v] W fun e w'=>e=.returned (.bool false)/\w'=W:=fun W O=>(JI v l W (H.below O)).mono fun e w' ⟨z,A⟩=>by
  rw[oN (fun x d=>decide_eq_false (by have:=I x d;omega))] at z;exact⟨z,A⟩
 have hc:∀W,Below w.heap.size w W->Calls Tryz.prog 85 #[v,.func (.func 136) #[] #[]] W fun e w'=>e=.returned (.bool false)/\w'=W:=fun W O=>
  (uN 136 #[] (fun x=>decide (1099511627776<x)) v l W (H.below O) (enters_of Tryz.func136 (by kernel_rfl) rfl) (fun W _ x _=>aF7 x W)).mono fun e w' ⟨z,A⟩=>by
  rw[oN (fun x d=>decide_eq_false (by have:=I x d;omega))] at z;exact⟨z,A⟩
 have HB:=hid hb;have HC:=hid hc;clear hb hc;obtain⟨a,ca,rfl,c3,c4,hA⟩:=H.open;obtain⟨E,o0,rfl,T,a2⟩:=hA c2;have HV:=hid I;have HA:=hid a2;clear H hA I a2;go_enter Tryz.func68,Tryz.ntmps68;go_wp2;refine aDb 0 (aK7 l E w) rfl ?_ ?_
 ·rintro g a wr ⟨rest,G,off,cap,lb,n,u1,u2,u3,u7,u8,u9,d4,d5,d6,d7,d8,d9,e2,e3,e4,e5,e6,e7,e8,e9,f0,f1,f2,f3,f4,f5,f6,f7,f8,f9,g0,g1,g2,rfl,c5,a3,hg,a4,HP,g3,J,L,U,V⟩;have HG:=hid hg;have a5:RdI wr (.slice (some ⟨E,off,none⟩) rest.length cap) rest:=
   ⟨_,_,rfl,c5,a3,.inr ⟨E,off,rfl,dR T L.size,fun j Y=>by
    rw[bJ] at Y;rw[L.cell (p:=⟨E,off+j,none⟩) T,U.out j _ (aN Y)];simp[fF,Y]⟩⟩
  have a6:=hid a5;have c6:=vX 0 rest;obtain⟨m,Z⟩:∃m,m=eY 0 rest:=⟨_,rfl⟩;obtain⟨z1,z2⟩:=WO (l:=rest) (fun x d=>(V.out x d).1);rw[<-Z] at c6 z1 z2;have HM:=hid Z;have Z1:=hid z1;have Z2:=hid z2;have g4:=(CA m).1;unfold maxLen at a3;clear hg a5 Z z1 z2;go_wp2_with fail;refine(RF _ rest 0 _ a6.out).mono ?_;rintro e M ⟨rfl,z⟩;rw[<-HM.out];have a7:=a4.below z;have a8:=bV L z;clear a4 L a6 z;go_wp2_with fail;refine(aGb m _ (by omega)).mono ?_;rintro e w2 ⟨dv,rfl,a9,A⟩;have b1:=a7.below A;have b2:=bV a8 A;have b3:=a9.src;clear a7 a8 a9 A;go_wp2_with fail
  refine(CP lb dv G (dig m) _ b1 b3 (by omega)).mono ?_;rintro e w3 ⟨rfl,b4,h3⟩;have a0:=b2.trans (h3.mono J);clear b1 b2 b3 h3
  by_cases a1:m=rest.length
  ·have e1:=hid (show G++dig m=cZ 0 l by rw[<-HP.out,Z1.out a1]);obtain⟨fv,c7,b5⟩:=b4;rw[e1.out] at b5;have c1:=c7.cell (i:=0) rfl;have d1:decide (0<rest.length-m)=false:=decide_eq_false (by omega);have e0:rest.length-m=0:=by omega
   by_cases c8:cap=m
   all_goals
    go_wp2_with fail;simp only[Exit.jump]
    go_ret2
    exact⟨_,rfl,Ow.base b5 (by omega),a0⟩
  ·have c9:m<rest.length:=by omega
   obtain⟨x,d⟩:=dH c9;have e1:=hid (Z2.out x d);have g5:=V.out x (cH d);have c1:w3.cell? ⟨E,off+m,none⟩=some (.int .i64 x):=by
    rw[a0.cell (p:=⟨E,off+m,none⟩) T];exact U.out m x d
   have d1:decide (0<rest.length-m)=true:=decide_eq_true (by omega);have d2:0<rest.length-m:=by omega
   have c8:¬cap=m:=by omega
   have HE:=hid a1;clear d a1;have hl:=hid (show rest.length-m-1=(rest.drop (m+1)).length by rw[cI];omega);have b6:=hid (show(G++dig m++[x+1])++cZ 0 (rest.drop (m+1))=cZ 0 l by rw[<-HP.out,e1.out];simp only[cF]);have b7:=hid (show(G++dig m++[x+1]).length+(rest.drop (m+1)).length<=l.length by simp only[aL,cI,fK];omega);have b8:Hid (∀x∈rest.drop (m+1),0<=x/\x<=1000000):=hid (fun y F=>V.out y (xU F))
   by_cases g6:cap-m=1
   all_goals
    go_wp2_with fail;refine(CP lb _ (G++dig m) [x+1] _ (b4.below ((aB _ _).alloc (aA _) _)) (RG _ _ _) (by simp only[aL,fK];omega)).mono ?_;rintro e w4 ⟨rfl,b9,h4⟩;have c0:=(bD a0 _).trans (h4.mono J);go_wp2_with fail
    go_step3
    rw[hl.out]
   ·refine⟨rfl,(rest.drop (m+1)).length,by rw[HG.out,cI];omega,rest.drop (m+1),_,off+m,0,lb,_,_,_,_,_,_,_,_,_,_,_,_,_,_,_,_,_,_,_,_,_,_,_,_,_,_,_,_,_,_,_,_,_,_,rfl,by rw[cI];omega,by simp[maxLen],rfl,b9,b6,b7.out,J,c0,hid (fun j y F=>?_),b8⟩;rw[qY (by omega)] at F;simp at F
   ·refine⟨rfl,(rest.drop (m+1)).length,by rw[HG.out,cI];omega,rest.drop (m+1),_,off+m+1,cap-m-1,lb,_,_,_,_,_,_,_,_,_,_,_,_,_,_,_,_,_,_,_,_,_,_,_,_,_,_,_,_,_,_,_,_,_,_,rfl,by rw[cI];omega,by unfold maxLen;omega,rfl,b9,b6,b7.out,J,c0,hid (fun j y F=>?_),b8⟩;have:=RdI.dropS U.out (m+1) j y F;rw[Nat.add_assoc off m 1];exact this
 ·intro d0;go_wp2_with fail;refine(HB.out _ (aB _ _)).mono ?_;rintro e M ⟨rfl,rfl⟩;go_wp2_with fail;refine(HC.out _ (aB _ _)).mono ?_;rintro e M ⟨rfl,rfl⟩;go_wp2_with fail
  go_step3
  go_step
  go_step
  exact d0.out l.length _ _ ⟨l,[],o0,ca,M.heap.size,0,_,_,_,_,_,_,_,_,_,_,_,_,_,_,_,_,_,_,_,_,_,_,_,_,_,_,_,_,_,_,_,_,_,rfl,c3,c4,rfl,⟨.slice none 0 0,Arr.new M _ _,OwI.nil _ _⟩,hid rfl,by simp,aA _,(aB _ _).alloc (aA _) _,HA,HV⟩
theorem aL1 {l:List Int} (z:∀x∈l,0<=x):cZ 0 l=dig (eY 0 l)++cZ 0 (l.drop (eY 0 l)):=by
 obtain⟨A,E⟩:=WO z;rcases bT (eY 0 l) l.length with h|h
 ·have d:=aN h;rw[E _ d,oH h,cZ,if_neg (by have:=vY 0 l d;omega),qF];simp
 ·have:=vX 0 l;rw[A (by omega),qY h];simp[cZ,qF]
theorem aL2 (v:Value) (l:List Int) (w:World) (hr:RdI w v l) (b3:0<l.length) (c4:l.length<=100000) (hv:∀x∈l,0<=x/\x<=1000000):
  Calls Tryz.prog 100 #[v] w fun e w'=>∃M,e=.returned (.tuple #[M,.int .i64 0])/\OwI w' w.heap.size M (cZ 0 l)/\Below w.heap.size w w':=by
 have HB:=hid (RJ v l w hr (fun x d=>(hv x d).1));obtain⟨a,ca,rfl,c5,b4,hA⟩:=hr.open;obtain⟨O,T,rfl,a3,a5⟩:=hA b3;unfold maxLen at b4;have HV:=hid hv;have HA:=hid a5;clear hr hA hv a5;go_enter Tryz.func100,Tryz.ntmps100;go_wp2_with fail;refine HB.out.mono ?_;rintro e E ⟨rfl,rfl⟩;clear HB;go_wp2_with fail
 go_loopg [4] l.length (fun U s4 wr=>∃k:Nat,k<=l.length/\U=l.length-k/\s4=.int .i64 k/\E=wr)
 case atStart=>exact⟨0,aU _,rfl,rfl,rfl⟩
 case round=>
 obtain⟨k,hk,z,rfl,rfl⟩:=hrel;have I:=hid z;clear z
 by_cases b5:k<l.length
 ·obtain⟨x,d⟩:=dH b5;have c1:=HA.out k x d;have b6:=HV.out x (cH d);have t1:decide (1099511627776<x)=false:=decide_eq_false (by omega);clear d;go_wp2_with fail;have z:=I.out
  go_roundg (l.length-(k+1))
  case measure=>omega
  case rel=>exact⟨k+1,by omega,rfl,by go_num,rfl⟩
 ·clear I;go_wp2_with fail
  go_loopg [5,6,7] l.length (fun U s5 s6 _s7 wq=>∃(i:Nat) (F:List Int),i<=l.length/\U=l.length-i/\s6=.int .i64 i/\OwI wq E.heap.size s5 F/\Hid (F++cZ 0 (l.drop i)=cZ 0 l)/\F.length<=i/\Below E.heap.size E wq)
  case atStart=>exact⟨0,[],aU _,rfl,rfl,OwI.nil _ _,hid rfl,aU _,aB _ _⟩
  case round=>
  obtain⟨i,F,hi,z,rfl,a1,HP,c6,G⟩:=hrel;have I:=hid z;clear z
  by_cases c7:i<l.length
  ·obtain⟨m,V⟩:∃m,m=eY 0 (l.drop i):=⟨_,rfl⟩;have c8:m<=l.length-i:=by rw[V];have:=vX 0 (l.drop i);rwa[cI] at this
   have hz:=hid (show ∀j,j<m->∀x,l[i+j]? =some x->x=0 from fun j hj x d=>by
    have b7:(l.drop i)[j]? =some x:=by rw[gR];exact d
    have J:=yM 0 (l.drop i) x (by rw[<-V];exact cH (i:=j) (by rw[mB hj];exact b7));have h2:=(HV.out x (cH d)).1;omega)
   have a6:=hid (show ∀x,l[i+m]? =some x->0<x from fun x d=>vY 0 (l.drop i) (by rw[<-V,gR];exact d));have a7:=hid (show cZ 0 (l.drop i)=dig m++cZ 0 (l.drop (i+m)) by rw[aL1 (fun x d=>(HV.out x (xU d)).1),<-V,xM]);have c9:=(CA m).1;clear V;obtain⟨wo,rfl⟩:∃wo:World,wo=wr:=⟨_,rfl⟩;have a4:=hid (show ∀j x,l[j]? =some x->wo.cell? ⟨O,T+j,none⟩=some (.int .i64 x) from fun j x d=>by rw[G.cell (p:=⟨O,T+j,none⟩) a3];exact HA.out j x d);go_wp2_with fail
   go_loopg [7] m (fun U s7 wq=>∃n:Nat,n<=m/\U=m-n/\s7=.int .i64 n/\wo=wq)
   case atStart=>exact⟨0,aU _,rfl,rfl,rfl⟩
   case round=>
   obtain⟨n,hn,z,rfl,rfl⟩:=hrel;have a8:=hid z;clear z
   by_cases a9:n<m
   ·obtain⟨x,d⟩:=dH (l:=l) (k:=i+n) (by omega);have c1:=a4.out (i+n) x d;have a2:=hz.out n a9 x d;have t1:(x==0)=true:=by rw[beq_iff_eq];exact a2
    have t2:decide (i+n<l.length)=true:=decide_eq_true (by omega);clear d a2;go_wp2_with fail;have z:=a8.out
    go_roundg (m-(n+1))
    case measure=>omega
    case rel=>exact⟨n+1,by omega,rfl,by go_num,rfl⟩
   ·obtain rfl:m=n:=by omega
    clear hn a9 a8;have d0:=G.size;have b8:(i+m=l.length/\0<m)\/(i+m<l.length/\m=0)\/(i+m<l.length/\0<m):=by omega
    rcases b8 with⟨J,h2⟩|⟨J,h2⟩|⟨J,h2⟩
    ·have t2:decide (i+m<l.length)=false:=decide_eq_false (by omega);have t3:((m:Int)==0)=false:=by rw[beq_eq_false_iff_ne];omega
     have t4:l.length<=i+m:=by omega
     have H1:=hid J;clear J;go_wp2_with fail;refine(JJ m _ (by omega)).mono ?_;rintro e w2 ⟨dv,rfl,Y,A⟩;have Z:=Y.src;have b1:=A.size;have a0:=a1.below A (aA _);go_wp2_with (at_builtin;refine CO rfl _ _ rfl E.heap.size _ _ rfl a0 _ (dig m) rfl Z (by omega) (by omega) ?_;intro M w3 L H b2);have z:=I.out
     go_roundg (l.length-(i+m))
     case measure=>omega
     case rel=>
      refine⟨i+m,F++dig m,by omega,rfl,by go_num,L,hid ?_,by simp only[aL];omega,(bV G A).trans H⟩;rw[cF,<-a7.out];exact HP.out
    ·subst h2;obtain⟨x,d⟩:=dH (l:=l) (k:=i) (by omega);have c1:=a4.out i x d;have a2:=a6.out x d;have b6:=HV.out x (cH d);have t1:(x==0)=false:=by rw[beq_eq_false_iff_ne];omega
     have t2:decide (i<l.length)=true:=decide_eq_true (by omega);have HX:=hid d;have e2:=hid (show cZ 0 (l.drop i)=[x+1]++cZ 0 (l.drop (i+1)) by
      rw[oH (show i<l.length by omega),show l[i]=x from(eU.1 d).2,cZ,if_neg (by omega),qF];simp)
     clear d;go_wp2_with fail;refine(JJ 0 _ (by omega)).mono ?_;rintro e w2 ⟨dv,rfl,Y,A⟩;have Z:=Y.src;have b1:=A.size;have a0:=a1.below A (aA _);have c2:w2.cell? ⟨O,T+i,none⟩=some (.int .i64 x):=by
      rw[(bV G A).cell (p:=⟨O,T+i,none⟩) a3];exact HA.out i x HX.out
     go_wp2_with (first
      |(at_builtin;refine CO rfl _ _ rfl E.heap.size _ _ rfl a0 _ (dig 0) rfl Z (by simp only[qF,cX];omega) (by omega) ?_;intro M w3 L H b2;(rw[qF,eE] at L);(have c3:=(H.cell (p:=⟨O,T+i,none⟩) a3).trans c2);(have d1:=H.size))
      |(at_builtin;refine eN rfl _ _ rfl E.heap.size _ _ rfl (OwI.alloc L _) w3.heap.size (x+1) rfl ?_ ?_ ?_ ?_;(exact bS _ _ _);omega;(simp;omega);intro v4 w4 b9 c0 d2))
     have z:=I.out
     go_roundg (l.length-(i+1))
     case measure=>omega
     case rel=>
      refine⟨i+1,F++[x+1],by omega,rfl,by go_num,b9,hid ?_,by simp only[aL,fK];omega,(((bV G A).trans H).alloc (by omega) _).trans c0⟩;rw[cF,<-e2.out];exact HP.out
    ·have t2:decide (i+m<l.length)=true:=decide_eq_true (by omega);obtain⟨x,d⟩:=dH J;have c1:=a4.out (i+m) x d;have a2:=a6.out x d;have t1:(x==0)=false:=by rw[beq_eq_false_iff_ne];omega
     have t3:((m:Int)==0)=false:=by rw[beq_eq_false_iff_ne];omega
     clear d;go_wp2_with fail;refine(JJ m _ (by omega)).mono ?_;rintro e w2 ⟨dv,rfl,Y,A⟩;have Z:=Y.src;have b1:=A.size;have a0:=a1.below A (aA _);go_wp2_with (at_builtin;refine CO rfl _ _ rfl E.heap.size _ _ rfl a0 _ (dig m) rfl Z (by omega) (by omega) ?_;intro M w3 L H b2);have z:=I.out
     go_roundg (l.length-(i+m))
     case measure=>omega
     case rel=>
      refine⟨i+m,F++dig m,by omega,rfl,by go_num,L,hid ?_,by simp only[aL];omega,(bV G A).trans H⟩;rw[cF,<-a7.out];exact HP.out
  ·go_wp2_with fail
   go_ret2
   refine⟨_,rfl,?_,G⟩;have:=HP.out;rw[qY (by omega)] at this;simp only[cZ,qF,eE] at this;rw[<-this];exact a1
end
section
open Go.RowKit Go Go.Shelf
theorem Bld.drew {w:World} {B b:Nat} {l:List UInt8} (h:Bld w B b l):Bld w.drew B b l:=h
theorem Bld.drewN {w:World} {B b:Nat} {l:List UInt8} (h:Bld w B b l) (n:Nat):Bld (w.drewN n) B b l:=h
theorem aAo (b z:Nat) (c:UInt8) (n M:Nat) (X:List UInt8) (w:World) (h:Bld w b b X) (G:w.cell? ⟨z,0,none⟩=some (.int .i64 (M:Int))) (H:z<b) (a2:b<w.heap.size) (hM:M<=1000000) (I:X.length<=M+1) (hn:n<=255):
  Calls Tryz.prog 175 #[.int .u8 (c.toNat:Int),.int .i64 (n:Int),.pointer (some ⟨b,0,none⟩),.pointer (some ⟨z,0,none⟩)] w fun e w'=>e=.returned (.tuple #[])/\Bld w' b b ((X++bB n c).take (M+1))/\Below b w w':=by
 go_enter Tryz.func175,Tryz.ntmps175;go_wp2_with fail
 go_loopg [7] n (fun g J wr=>∃(k:Nat) (Y:List UInt8),k<=n/\g=n-k/\J=.int .i64 (k:Int)/\Hid (Y=(X++bB k c).take (M+1))/\Bld wr b b Y/\Below b w wr)
 case atStart=>exact⟨0,X,aU _,rfl,rfl,hid (by rw[List.replicate_zero,eE,cS I]),h,aB _ _⟩
 case round=>
  obtain⟨k,Y,L,A,rfl,E,F,d⟩:=hrel;have O:=hid A;clear A
  by_cases a3:k<n
  ·have t1:decide ((k:Int)<(n:Int))=true:=decide_eq_true (by omega);have c1:=(d.cell (p:=⟨z,0,none⟩) H).trans G;have a4:max (M:Int) 0=(M:Int):=by omega
   have T:=F.drew;have a5:=d.size;go_wp2_with fail
   by_cases U:M<Y.length
   ·have V:decide ((M:Int)<(Y.length:Int))=true:=decide_eq_true (by omega);have Z:decide ((Y.length:Int)>(M:Int))=true:=decide_eq_true (by omega)
    go_region_with (go_at_call 176;refine(EW b b Y _ (by assumption)).mono ?_;rintro e w1 ⟨rfl,rfl⟩)
    all_goals
     go_wp2_with fail
     first|go_end0|refine gJ (results_none rfl _ _ _) rfl ?_
     exact⟨rfl,by rw[aKd L E.out U];exact F,d.drew⟩
   ·have V:decide ((M:Int)<(Y.length:Int))=false:=decide_eq_false (by omega);have Z:decide ((Y.length:Int)>(M:Int))=false:=decide_eq_false (by omega);have a0:=aAm b b Y c wr.drew T (by omega) (by show b<=wr.heap.size;omega)
    go_region_with (go_at_call 176;refine(EW b b Y _ (by assumption)).mono ?_;rintro e w1 ⟨rfl,rfl⟩)
    all_goals
     go_wp2_with fail;refine a0.mono ?_;rintro e w2 ⟨rfl,h2,b2,_⟩;go_wp2_with fail;have A:=O.out
     go_roundg (n-(k+1))
     case measure=>omega
     case rel=>exact⟨k+1,Y++[c],by omega,rfl,by go_num,hid (aKe E.out (by omega)),h2,d.drew.trans b2⟩
  ·have t1:decide ((k:Int)<(n:Int))=false:=decide_eq_false (by omega);have a1:k=n:=by omega
   subst a1;go_wp2_with fail
   go_end0
   exact⟨rfl,by rw[<-E.out];exact F,d⟩
theorem aAp (w:World):Bld (w.alloc (.cells #[.pointer none,.slice none 0 0] 112)) w.heap.size w.heap.size []:=Lib.IsBuilderF.of (Lib.fresh_isBuilder 112 5 w)
theorem aQv (s:ByteArray) (M:Nat) (w:World) (hs:s.size<=1000000) (hM:M<=1000000):
  Calls Tryz.prog 117 #[.string s,.int .i64 (M:Int)] w fun e w'=>e=.returned (.tuple #[.string (mkS (fR s.data.toList M).1),.int .i64 (fR s.data.toList M).2])/\Below w.heap.size w w':=by
 have HL:=hid (show s.data.toList.length=s.size by simp);have b6:∀(fn:Fn) (first cap:Array Value) (w:World),(Instr.makeFunc fn first cap).run Tryz.prog w=.ok (.func fn first cap) w:=fun _ _ _ _=>rfl
 have hE:∀args W,(callFunc 175 args).run Tryz.prog W=.ok (.enter 175 args) W:=enters_of Tryz.func175 (by kernel_rfl) rfl;go_enter Tryz.func117,Tryz.ntmps117;go_wp2_with fail;have a2:=aAp (w.alloc (.cells #[.int .i64 (M:Int)] 3));rw[fV] at a2;have a7:((w.alloc (.cells #[.int .i64 (M:Int)] 3)).alloc (.cells #[.pointer none,.slice none 0 0] 112)).cell? ⟨w.heap.size,0,none⟩=some (.int .i64 (M:Int)):=((Arr.new w 3 [.int .i64 (M:Int)]).alloc _).cell (i:=0) rfl
 have b7:((w.alloc (.cells #[.int .i64 (M:Int)] 3)).alloc (.cells #[.pointer none,.slice none 0 0] 112)).heap.size=w.heap.size+1+1:=by simp
 have a0:Below w.heap.size w ((w.alloc (.cells #[.int .i64 (M:Int)] 3)).alloc (.cells #[.pointer none,.slice none 0 0] 112)):=((aB _ w).alloc (aA _) _).alloc (by simp) _;generalize (w.alloc (.cells #[.int .i64 (M:Int)] 3)).alloc (.cells #[.pointer none,.slice none 0 0] 112)=w0 at*
 go_loopg [8,9,10,14] s.size (fun g s8 s9 _s10 a8 wr=>∃(k r:Nat) (c:UInt8) (o:List UInt8),k<=s.size/\g=s.size-k/\a8=.int .i64 (k:Int)/\s8=.int .i64 (r:Int)/\s9=.int .u8 (c.toNat:Int)/\r<=4/\Hid (dT s.data.toList=(unS r c (s.data.toList.drop k)).map (o++·))/\Bld wr (w.heap.size+1) (w.heap.size+1) (o.take (M+1))/\Below (w.heap.size+1) w0 wr)
 case atStart=>exact⟨0,0,0,[],aU _,rfl,rfl,rfl,rfl,by omega,hid (aJ6 _),a2,aB _ _⟩
 case round=>
  obtain⟨k,r,c,o,hk,T,rfl,rfl,rfl,b8,HO,U,F⟩:=hrel;have HG:=hid T;clear T;have a3:=(F.cell (p:=⟨w.heap.size,0,none⟩) (by show w.heap.size<w.heap.size+1;omega)).trans a7;have b9:=F.size;have a4:(o.take (M+1)).length<=M+1:=by rw[aX];omega
  by_cases a9:k<s.size
  ·have t1:decide ((k:Int)<(s.size:Int))=true:=decide_eq_true (by omega);have hb:=s[k].toNat_lt;have Y:s.data.toList.drop k=s[k]::s.data.toList.drop (k+1):=by
    obtain⟨h1,G⟩:=eU.1 (eW s k a9);rw[oH h1,G]
   have E:=HO.out;rw[Y] at E
   by_cases J:r=4
   ·subst J;have t2:decide (((4:Nat):Int)=4)=true:=by decide
    have L:=hid (aJ7 E);have z:=fun(n:Nat) hn=>aAo (w.heap.size+1) w.heap.size c n M (o.take (M+1)) wr U a3 (by omega) (by omega) hM a4 hn
    have A:=z s[k].toNat (by omega);rw[DU] at A;clear z Y E;go_wp2_with fail;refine A.mono ?_;rintro e w2 ⟨rfl,G,H⟩;go_wp2_with fail;have T:=HG.out
    go_roundg (s.size-(k+1))
    case measure=>omega
    case rel=>exact⟨k+1,0,c,_,by omega,rfl,by go_num,rfl,rfl,by omega,L,G,F.trans H⟩
   ·have t2:decide ((r:Int)=4)=false:=decide_eq_false (by omega);have b0:((r:Int)==4)=false:=by rw[beq_eq_false_iff_ne];omega
    have z:=fun(d:UInt8)=>aAo (w.heap.size+1) w.heap.size d 1 M (o.take (M+1)) wr U a3 (by omega) (by omega) hM a4 (by omega)
    by_cases h0:0<r
    ·have t3:decide ((0:Int)<(r:Int))=true:=decide_eq_true (by omega);have b1:decide ((r:Int)>0)=true:=decide_eq_true (by omega)
     by_cases O:s[k]=c
     ·have t4:((s[k].toNat:Int)==(c.toNat:Int))=true:=by rw[O];simp
      have b3:decide ((s[k].toNat:Int)=(c.toNat:Int))=true:=decide_eq_true (by rw[O]);rw[O] at E;have L:=hid (aJ8 E h0 J);have A:=z c;rw[DU] at A;have m1:aI.wrap ((r:Int)+1)=((r+1:Nat):Int):=by rw[aM];omega
      clear z Y E O;go_wp2_with fail;refine A.mono ?_;rintro e w2 ⟨rfl,G,H⟩;go_wp2_with fail;have T:=HG.out
      go_roundg (s.size-(k+1))
      case measure=>omega
      case rel=>exact⟨k+1,r+1,c,_,by omega,rfl,by go_num,by go_num,rfl,by omega,L,G,F.trans H⟩
     ·have a1:(s[k].toNat:Int)≠(c.toNat:Int):=fun e=>O (qV.1 (by omega))
      have t4:((s[k].toNat:Int)==(c.toNat:Int))=false:=by rw[beq_eq_false_iff_ne];exact a1
      have b3:decide ((s[k].toNat:Int)=(c.toNat:Int))=false:=decide_eq_false a1;have L:=hid (VY E J (by rintro⟨_,h⟩;exact O h));have A:=z s[k];rw[DU] at A;clear z Y E O a1;go_wp2_with fail;refine A.mono ?_;rintro e w2 ⟨rfl,G,H⟩;go_wp2_with fail;have T:=HG.out
      go_roundg (s.size-(k+1))
      case measure=>omega
      case rel=>exact⟨k+1,1,s[k],_,by omega,rfl,by go_num,rfl,rfl,by omega,L,G,F.trans H⟩
    ·have t3:decide ((0:Int)<(r:Int))=false:=decide_eq_false (by omega);have b1:decide ((r:Int)>0)=false:=decide_eq_false (by omega);have L:=hid (VY E J (by rintro⟨h,_⟩;exact h0 h));have A:=z s[k];rw[DU] at A;clear z Y E;go_wp2_with fail;refine A.mono ?_;rintro e w2 ⟨rfl,G,H⟩;go_wp2_with fail;have T:=HG.out
     go_roundg (s.size-(k+1))
     case measure=>omega
     case rel=>exact⟨k+1,1,s[k],_,by omega,rfl,by go_num,rfl,rfl,by omega,L,G,F.trans H⟩
  ·have t1:decide ((k:Int)<(s.size:Int))=false:=decide_eq_false (by omega);have I:=HO.out;rw[AT (by rw[HL.out];omega)] at I;have I:=aJ9 I
   by_cases J:r=4
   ·subst J;have t2:decide (((4:Nat):Int)=4)=true:=by decide
    rw[if_pos rfl] at I;have Z:=hid (VZ (most:=(M:Int)) I);clear I;go_wp2_with fail
    go_ret2
    exact⟨by rw[Z.out];rfl,a0.trans (F.mono (by omega))⟩
   ·have t2:decide ((r:Int)=4)=false:=decide_eq_false (by omega);have b0:((r:Int)==4)=false:=by rw[beq_eq_false_iff_ne];omega
    rw[if_neg J] at I;have V:=LI (most:=(M:Int)) I;clear I;have b4:∀n,Bld (wr.drewN n) (w.heap.size+1) (w.heap.size+1) (o.take (M+1)):=fun n=>U.drewN n
    by_cases c0:M<o.length
    ·rw[if_pos (by omega)] at V;have Z:=hid V;clear V;have a5:(o.take (M+1)).length=M+1:=by rw[aX];omega
     have t5:decide ((M:Int)<((M+1:Nat):Int))=true:=decide_eq_true (by omega);have t6:decide (((M+1:Nat):Int)>(M:Int))=true:=decide_eq_true (by omega);have a6:=U.drew;have b5:=hid a5;clear a5;go_wp2_with fail
     go_region_with (go_at_call 176;refine(EW (w.heap.size+1) (w.heap.size+1) (o.take (M+1)) _ (by assumption)).mono ?_;rintro e w1 ⟨rfl,rfl⟩;rw[b5.out])
     all_goals
      go_wp2_with fail
      go_ret2
      exact⟨by rw[Z.out];rfl,a0.trans ((F.mono (by omega)).drew)⟩
    ·rw[if_neg (by omega)] at V;have Z:=hid V;clear V;rw[cS (by omega)] at U b4;have t5:decide ((M:Int)<(o.length:Int))=false:=decide_eq_false (by omega);have t6:decide ((o.length:Int)>(M:Int))=false:=decide_eq_false (by omega);have a6:=U.drew;have z:=aAn (w.heap.size+1) (w.heap.size+1) o wr.drew a6 (by show w.heap.size+1<=wr.heap.size;omega);go_wp2_with fail
     go_region_with (go_at_call 176;refine(EW (w.heap.size+1) (w.heap.size+1) o _ (by assumption)).mono ?_;rintro e w1 ⟨rfl,rfl⟩)
     all_goals
      go_wp2_with fail;refine z.mono ?_;rintro e w2 ⟨rfl,_,H,_⟩;go_wp2_with fail
      go_ret2
      exact⟨by rw[Z.out];rfl,a0.trans (((F.drew).trans H).mono (by omega))⟩
end
end Go.Proofs.YtiifmcicleljjaaGreatDoor
