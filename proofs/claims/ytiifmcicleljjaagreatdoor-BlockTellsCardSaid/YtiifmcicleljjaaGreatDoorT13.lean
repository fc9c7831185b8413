/- The walks and the plain laws, part 13. -/
import Derived.BigRegion
import Derived.Deep.RegionLawGrows
import Derived.Lib.SliceRun
import Derived.Test.YtiifmcicleljjaaGreatDoorT10
import Derived.Test.YtiifmcicleljjaaGreatDoorT12
set_option maxRecDepth 100000
set_option maxHeartbeats 12800000
set_option linter.unusedVariables false
open Array renaming getElem?_eq_some_iff->gQ
open Go renaming bodyPost_ret->gJ,heap_setCell_other->kT,results_none->qX
open Go.Act renaming eval->qC
open Go.Addr renaming add->iN
open Go.Builtin renaming append_->tT
open Go.IntKind renaming i64->aI,wrap_i64->aM
open Go.Oper renaming wp->lX
open Go.Proofs renaming enters_of->fN
open Go.Region renaming wanted->nR
open Go.RowKit renaming ownsRow_setCell_below->aCj
open Go.RowKit.Below renaming refl->aB
open Go.Value renaming int->bO
open Go.World renaming size_alloc->fV
open Go.World.ownsRow renaming kept->NH
open Int renaming toNat_natCast->eG
open List renaming getD_eq_getElem?_getD->aV,getElem?_append_left->gS,getElem?_eq_getElem->aN,getElem?_eq_some_iff->eU,getElem?_map->dY,getElem?_take_of_lt->mB,length_append->aL,length_map->bJ,length_set->mW,length_take->aX,map_append->fI,map_take->FV,mem_map->dU,mem_of_getElem?->cH,mem_of_mem_take->nO,mem_singleton->dC,set_append_left->aC4,set_cons_succ->aG,take_add_one->cQ,take_append_drop->jE,take_of_length_le->cS
open List.Perm renaming cons->GK,refl->xP
open Nat renaming le_of_lt->sK,le_refl->aA,le_succ->pI,le_trans->aW,lt_succ_self->sG,min_eq_left->gU,zero_add->iZ,zero_le->aU
open Option.some renaming inj->bW
namespace Go.Proofs.YtiifmcicleljjaaGreatDoor
open Go.RowKit Go Go.Shelf
theorem aI4 (b:UInt8):wrap64 (b.toNat:Int)=(b.toNat:Int):=by
 have:=b.toNat_lt;exact IZ (by omega) (by omega)
theorem aI5 (b:UInt8):aI.wrap (b.toNat:Int)=(b.toNat:Int):=by
 have:=b.toNat_lt;exact JA (by omega) (by omega)
theorem UB {s:List UInt8} {t a:Int} {k:Nat} (h:(cO s t a k).2.2=0):cO s t a (k+1)=
  if(gV s t (cO s t a k).2.1 0).2.2≠0 then((cO s t a k).1,(cO s t a k).2.1,(gV s t (cO s t a k).2.1 0).2.2)
  else((cO s t a k).1++[(gV s t (cO s t a k).2.1 0).1],(gV s t (cO s t a k).2.1 0).2.1,0):=by
 show(if(cO s t a k).2.2≠0 then cO s t a k else _)=_;rw[if_neg (fun q=>q h)]
theorem UC {s:List UInt8} {t a:Int} {k:Nat} (h:(cO s t a k).2.2≠0):∀j,(cO s t a (k+j)).2.2=(cO s t a k).2.2
 |0=>rfl
 |j+1=>by
  have d:=UC h j;show(if(cO s t a (k+j)).2.2≠0 then cO s t a (k+j) else _).2.2=_;rw[if_pos (by rw[d];exact h),d]
theorem DO (s:List UInt8) (a n t:Nat) (d:2<=t) (z:t<=6) (A:n<=1048576):dD s (a:Int) (n:Int) (t:Int)=
  if(cO s (t:Int) (a:Int) n).2.2≠0 then([],0,(cO s (t:Int) (a:Int) n).2.2) else((unL (cC t) (cO s (t:Int) (a:Int) n).1).map (fun b=>(b.toNat:Int)),(cO s (t:Int) (a:Int) n).2.1,0):=by
 unfold dD;rw[if_neg (by omega)];simp only[eG]
theorem UD {s:List UInt8} {a n t k:Nat} (d:2<=t) (z:t<=6) (A:n<=1048576) (E:k<=n) (h:(cO s (t:Int) (a:Int) k).2.2≠0):dD s (a:Int) (n:Int) (t:Int)=([],0,(cO s (t:Int) (a:Int) k).2.2):=by
 have:=UC h (n-k);rw[show k+(n-k)=n by omega] at this;rw[DO s a n t d z A,this,if_pos h]
def yX (w w':World) (s:List UInt8) (a n t:Nat) (e:Ending):Prop:=
 ∃v,e=.returned (.tuple #[v,.int .i64 (dD s (a:Int) (n:Int) (t:Int)).2.1,.int .i64 (dD s (a:Int) (n:Int) (t:Int)).2.2])/\OwI w' w.heap.size v (dD s (a:Int) (n:Int) (t:Int)).1/\Below w.heap.size w w'
theorem KN {w w':World} {s:List UInt8} {a n t:Nat} {E:Int} (h:dD s (a:Int) (n:Int) (t:Int)=([],0,E)) (d:Below w.heap.size w w'):yX w w' s a n t (.returned (.tuple #[.slice none 0 0,.int .i64 0,.int .i64 E])):=by
 refine⟨.slice none 0 0,?_,?_,d⟩
 ·rw[h]
 ·rw[h];exact OwI.nil _ _
theorem aI6 (s:ByteArray) (a n t:Nat) (w:World) (hs:s.size<=1000000) (ha:a<=80000000) (hn:n<=40000) (M:2<=t) (O:t<=6):
  Calls Tryz.prog 119 #[.string s,.int .i64 (a:Int),.int .i64 (n:Int),.int .i64 (t:Int)] w fun e w'=>yX w w' s.data.toList a n t e:=by
 have HL:=hid (show s.data.toList.length=s.size by simp);have t1:decide ((t:Int)<2)=false:=decide_eq_false (by omega);have t2:decide ((t:Int)>6)=false:=decide_eq_false (by omega);have t3:decide (6<(t:Int))=false:=decide_eq_false (by omega);have t4:decide ((a:Int)<0)=false:=decide_eq_false (by omega);have t5:decide ((n:Int)<0)=false:=decide_eq_false (by omega);have t6:decide ((n:Int)>1048576)=false:=decide_eq_false (by omega);have t7:decide (1048576<(n:Int))=false:=decide_eq_false (by omega);have b0:=hid (fun k hk=>UD (s:=s.data.toList) (a:=a) (n:=n) (k:=k) M O (by omega) hk)
 have b1:=hid (DO s.data.toList a n t M O (by omega));have b2:=hid (fun k=>wG s.data.toList (t:Int) (a:Int) (by omega) (by omega) k);go_enter Tryz.func119,Tryz.ntmps119;go_wp2_with fail
 go_loopg [11,12,13,14,15,16] n (fun g b3 b4 b5 _s14 _s15 _s16 wr=>∃(k p:Nat) (v:Value),k<=n/\g=n-k/\v=b3/\b5=.int .i64 (k:Int)/\b4=.int .i64 (p:Int)/\Hid ((cO s.data.toList (t:Int) (a:Int) k).2.2=0/\(cO s.data.toList (t:Int) (a:Int) k).2.1=(p:Int))/\OwI wr w.heap.size v (cO s.data.toList (t:Int) (a:Int) k).1/\Below w.heap.size w wr)
 case atStart=>exact⟨0,a,_,aU _,rfl,rfl,rfl,rfl,hid ⟨rfl,rfl⟩,OwI.nil _ _,aB _ _⟩
 case round=>
  obtain⟨k,p,v,hk,H,rfl,rfl,rfl,E,A,I⟩:=hrel;have HG:=hid H;clear H;have b6:=I.size;obtain⟨o1,o2,o3,o4⟩:=b2.out k E.out.1;rw[E.out.2] at o3;rw[E.out.2,HL.out] at o4;have c4:p<=80000000:=by omega
  have O2:=hid o2;clear o2
  by_cases c5:k<n
  ·have v1:decide ((k:Int)<(n:Int))=true:=decide_eq_true (by omega);have d:=UB E.out.1;rw[E.out.2] at d;have z:=fun W=>aIj s p t W hs (by omega) M O
   have F:=DC s.data.toList (t:Int) (8*s.data.toList.length+2) (p:Int) 0 (by omega) (by omega) (by omega);rw[HL.out] at F;rw[show jK s.data.toList (t:Int) (8*s.size+2) (p:Int) 0=gV s.data.toList (t:Int) (p:Int) 0 by unfold gV;rw[HL.out]] at F;obtain⟨q1,V,Y,hq⟩:∃q1 V Y,gV s.data.toList (t:Int) (p:Int) 0=(q1,V,Y):=⟨_,_,_,rfl⟩;rw[hq] at d z F;simp only at d z F;clear hq
   by_cases hq3:Y=0
   ·subst hq3;rw[if_neg (fun k=>k rfl)] at d;obtain⟨a1,a2,a3,a4⟩:=F rfl;obtain⟨pp,rfl⟩:∃pp:Nat,V=(pp:Int):=⟨V.toNat,by omega⟩;have HS:=hid d;clear d F;go_wp2_with fail;refine(z _).mono ?_;rintro e w3 ⟨rfl,rfl⟩;go_wp2_with (at_builtin;refine eN rfl _ _ rfl w.heap.size _ _ rfl (OwI.alloc A _) _ q1 rfl (bS _ _ _) ?_ ?_ ?_;(omega);(simp;omega);intro v4 J r1 r2 r3);have H:=HG.out
    go_roundg (n-(k+1))
    case measure=>omega
    case rel=>exact⟨k+1,pp,_,by omega,rfl,rfl,by go_num,rfl,hid ⟨by rw[HS.out],by rw[HS.out]⟩,by rw[HS.out];exact r1,(I.alloc b6 _).trans r2⟩
   ·rw[if_pos hq3] at d;have v2:(Y != 0)=true:=by simpa using hq3
    have G:=hid (b0.out (k+1) (by omega) (by rw[d];exact hq3));rw[d] at G;clear d F;go_wp2_with fail;refine(z _).mono ?_;rintro e w3 ⟨rfl,rfl⟩;go_wp2_with fail
    go_ret3
    exact KN G.out I
  ·have v1:decide ((k:Int)<(n:Int))=false:=decide_eq_false (by omega);have b7:k=n:=by omega
   subst b7;have a0:=b1.out;rw[if_neg (fun q=>q E.out.1),E.out.2] at a0;have G:=hid a0;obtain⟨L,hL⟩:∃L,L=(cO s.data.toList (t:Int) (a:Int) k).1:=⟨_,rfl⟩;rw[<-hL] at G O2 o1 A;have hU:=oO L (cC t);obtain⟨U,a5⟩:∃U,U=unL (cC t) L:=⟨_,rfl⟩;rw[<-a5] at G hU;have z:=fun W (h:RdI W v L)=>TM (mkS (cC t)) v L W (by rw[cP,oR];omega) (by omega) (by
    rw[fW];obtain rfl|rfl|rfl|rfl|rfl:t=2\/t=3\/t=4\/t=5\/t=6:=by omega
    all_goals decide) h (by rw[cP,oR];exact O2.out)
   rw[fW,<-a5] at z;obtain⟨T,Z⟩:∃T,T=mkS U:=⟨_,rfl⟩;have c6:T.size=k:=by rw[Z,cP,hU,o1]
   have a7:T.data.toList=U:=by rw[Z];rfl
   rw[<-Z] at z;have b8:=hid a7;clear hL a5 a0 Z a7;go_wp2_with fail;refine(TN t _ M O).mono ?_;rintro e w3 ⟨rfl,rfl⟩;go_wp2_with fail;refine(z _ (OwI.rd A)).mono ?_;rintro e J ⟨rfl,a8⟩;have c7:=a8.size;have a9:=bV I a8;clear A z I;go_wp2_with fail
   go_loopg [19,20] k (fun g b9 c0 wx=>∃(i:Nat) (v:Value),i<=k/\g=k-i/\v=b9/\c0=.int .i64 (i:Int)/\OwI wx J.heap.size v ((U.take i).map (fun b=>(b.toNat:Int)))/\Below J.heap.size J wx)
   case atStart=>exact⟨0,_,aU _,rfl,rfl,rfl,OwI.nil _ _,aB _ _⟩
   case round=>
    obtain⟨i,v9,hi,H,rfl,rfl,A,a6⟩:=hrel;have c1:=hid H;clear H HG;have c2:=a6.size;have c8:((U.take i).map (fun b=>(b.toNat:Int))).length=i:=by rw[bJ,aX];omega
    by_cases c9:i<k
    ·have u2:decide ((i:Int)<(T.size:Int))=true:=decide_eq_true (by omega);have u3:i<T.size:=by omega
     have e1:=eW T i u3;have HT:=hid (show(U.take (i+1)).map (fun b=>(b.toNat:Int))=(U.take i).map (fun b=>(b.toNat:Int))++[(T[i].toNat:Int)] by
      rw[cQ,<-b8.out,e1,fI];rfl)
     have m1:=aI4 T[i];have m2:=aI5 T[i];go_wp2_with (at_builtin;refine eN rfl _ _ rfl J.heap.size _ _ rfl (OwI.alloc A _) _ (T[i].toNat:Int) rfl (bS _ _ _) ?_ ?_ ?_;(omega);(simp;omega);intro v5 w5 r1 r2 r3);have d0:=c1.out
     go_roundg (k-(i+1))
     case measure=>omega
     case rel=>exact⟨i+1,_,by omega,rfl,rfl,by go_num,by rw[HT.out];exact r1,(a6.alloc c2 _).trans r2⟩
    ·have u2:decide ((i:Int)<(T.size:Int))=false:=decide_eq_false (by omega);have c3:i=k:=by omega
     subst c3;rw[cS (by omega)] at A;go_wp2_with fail
     go_ret3
     exact⟨_,by rw[G.out];rfl,by rw[G.out];exact Ow.base A (by have:=a9.size;omega),bV a9 a6⟩
def iX (X:List Int) (n:Int):List Value:=X.map (bO .i64)++[.int .i64 n]
def EN (X:List Int) (i:Nat):List Int:=(X.drop i).take 1++X.take i++X.drop (i+1)
def wZ:List Value->Nat->List Value->List Value
 |l,_,[]=>l
 |l,o,v::r=>wZ (l.set o v) (o+1) r
theorem Arr.setCells {b:Nat} {e:TypeId}:∀(cs:List Value) (o:Nat) (w:World) (l:List Value),Arr w b e l->Arr (w.setCells b o cs) b e (wZ l o cs)
 |[],_,_,_,h=>h
 |v::cs,o,w,l,h=>Arr.setCells cs (o+1) (w.setCell ⟨b,o,none⟩ v) (l.set o v) (h.set o v)
theorem YZ:∀(cs:List Value) (o:Nat) (l:List Value),(wZ l o cs).length=l.length
 |[],_,_=>rfl
 |v::cs,o,l=>by
  show(wZ (l.set o v) (o+1) cs).length=_;rw[YZ cs,mW]
theorem ZA (b:Nat):∀(cs:List Value) (o:Nat) (w:World),w.grownBy (w.setCells b o cs) (some b)
 |[],_,_=>⟨rfl,rfl,rfl,aA _,fun _ _ _=>rfl⟩
 |v::cs,o,w=>dS (eM w b o v) (ZA b cs (o+1) (w.setCell ⟨b,o,none⟩ v))
theorem aOw (X:List Int) (d:X.length=6) (n:Int) (i:Nat) (hi:i<6):(wZ (iX X n) 1 ((X.take i).map (bO .i64))).set 0 (.int .i64 (X.getD i 0))=iX (EN X i) n:=by
 match X,d with
 |[z,A,E,F,G,H],_=>
  obtain rfl|rfl|rfl|rfl|rfl|rfl:i=0\/i=1\/i=2\/i=3\/i=4\/i=5:=by omega
  all_goals rfl
theorem EO {X:List Int} {n:Int} {j:Nat} (h:j<X.length):(iX X n)[j]? =some (.int .i64 (X.getD j 0)):=by
 unfold iX;rw[gS (by rw[bJ];exact h),dY,aV,aN h];rfl
theorem aOx:(Tryz.prog.info? 3).map (·.size)=some 1:=by kernel_rfl
theorem aOy (b o j:Nat):(⟨b,o,none⟩:Addr).add j=⟨b,o+j,none⟩:=by unfold iN;split<;>simp_all
theorem ZB (b:Nat) (X:List Int) (n:Int) (i:Nat) (G:X.length=6) (hi:i<6) (W:World) (H:Arr W b 144 (iX X n)):
  Calls Tryz.prog 89 #[.pointer (some ⟨b,0,none⟩),.int .i64 (i:Int)] W fun e w'=>
   e=.returned (.int .i64 (X.getD i 0))/\Arr w' b 144 (iX (EN X i) n)/\W.grownBy w' (some b):=by
 have L:=H.cell (EO (n:=n) (show i<X.length by omega));have I:=hid (aOw X G n i hi);have d:Arr W.drew b 144 (iX X n):=H;have z:((X.take i).map (bO .i64)).length=i:=by rw[bJ,aX];omega
 have J:=run_copy_cells (P:=Tryz.prog) W.drew 27 27 3 3 b 1 5 5 ⟨b,0,none⟩ i 6 ((X.take i).map (bO .i64)) Tryz.underlying27 aOx (by rw[z];exact(gU (by omega)).symm)
  (fun j v A=>by
   rw[aOy,iZ];have E:=(eU.1 A).1;rw[z] at E;rw[dY,mB E,aN (show j<X.length by omega)] at A;rw[d.cell (EO (n:=n) (show j<X.length by omega)),aV,aN (show j<X.length by omega)];exact A)
  (fun j E=>by
   rw[z] at E;have V:(iX X n).length=7:=by unfold iX;rw[aL,bJ,G];rfl
   rw[d.cell (aN (show 1+j<(iX X n).length by omega))];rfl)
  (fun j _=>d.free (1+j)) (fun v A=>by obtain⟨y,_,rfl⟩:=dU.1 A;rfl)
 rw[z] at J;have t1:(0:Int)<=(i:Int):=by omega
 have Y:(i:Int)<=6:=by omega
 have Z:(i:Int)<6:=by omega
 have F:=d.setCells ((X.take i).map (bO .i64)) 1;have M:W.grownBy (W.drew.setCells b 1 ((X.take i).map (bO .i64))) (some b):=dS (show W.grownBy W.drew (some b) from⟨rfl,rfl,rfl,aA _,fun _ _ _=>rfl⟩) (ZA b _ 1 W.drew);obtain⟨cs,O⟩:∃cs,cs=(X.take i).map (bO .i64):=⟨_,rfl⟩;rw[<-O] at J F M I;obtain⟨x,T⟩:∃x,x=X.getD i 0:=⟨_,rfl⟩;rw[<-T] at L I ⊢;clear z O T d H;go_enter Tryz.func89,Tryz.ntmps89;go_wp2_with fail
 go_region
 generalize W.drew.setCells b 1 cs=W2 at*
 obtain⟨v0,U⟩:∃v0,(wZ (iX X n) 1 cs)[0]? =some v0:=⟨_,aN (by rw[YZ];unfold iX;rw[aL,bJ,G];simp)⟩;have d0:=F.cell U;have f0:=F.free 0;clear U J L;go_wp2_with fail;go_ret;refine⟨rfl,?_,dS M (eM _ _ _ _)⟩;have:=F.set 0 (.int .i64 x);rw[I.out] at this;exact this
theorem ZC (t:Nat) (w:World) (d:2<=t) (z:t<=6):Calls Tryz.prog 84 #[.int .i64 (t:Int)] w fun e w'=>e=.returned (.bool true)/\w'=w:=by
 have A:decide ((t:Int)>=2)=true:=decide_eq_true (by omega);have E:decide (2<=(t:Int))=true:=decide_eq_true (by omega);have F:decide ((t:Int)<=6)=true:=decide_eq_true (by omega);go_enter Tryz.func84,Tryz.ntmps84;go_wp2_with fail;go_ret;exact⟨rfl,rfl⟩
def ZD:List Int:=[0,1,2,3,4,5]
def ofI (k:Nat):List Int:=(List.range 6).map (fun j=>if j<k then(j:Int) else 0)
theorem aOz (k:Nat) (n:Int) (h:k<6):(iX (ofI k) n).set k (.int .i64 (k:Int))=iX (ofI (k+1)) n:=by
 obtain rfl|rfl|rfl|rfl|rfl|rfl:k=0\/k=1\/k=2\/k=3\/k=4\/k=5:=by omega
 all_goals rfl
theorem aO0 (k:Nat):(ofI k).length=6:=by simp[ofI]
theorem ZE (n:Int) (w:World):Calls Tryz.prog 87 #[.int .i64 n] w fun e w'=>e=.returned (.pointer (some ⟨w.heap.size,0,none⟩))/\Arr w' w.heap.size 144 (iX ZD n)/\Below w.heap.size w w'/\w.heap.size<w'.heap.size:=by
 go_enter Tryz.func87,Tryz.ntmps87;go_wp2_with fail;have z:=Arr.new w 144 (iX (ofI 0) n);have A:=bD (aB w.heap.size w) (.cells (iX (ofI 0) n).toArray 144);have E:w.heap.size<(w.alloc (.cells (iX (ofI 0) n).toArray 144)).heap.size:=by simp
 change Arr (w.alloc (.cells #[.int .i64 0,.int .i64 0,.int .i64 0,.int .i64 0,.int .i64 0,.int .i64 0,.int .i64 n] 144)) _ _ _ at z;change Below w.heap.size w (w.alloc (.cells #[.int .i64 0,.int .i64 0,.int .i64 0,.int .i64 0,.int .i64 0,.int .i64 0,.int .i64 n] 144)) at A;change w.heap.size<(w.alloc (.cells #[.int .i64 0,.int .i64 0,.int .i64 0,.int .i64 0,.int .i64 0,.int .i64 0,.int .i64 n] 144)).heap.size at E;generalize w.alloc (.cells #[.int .i64 0,.int .i64 0,.int .i64 0,.int .i64 0,.int .i64 0,.int .i64 0,.int .i64 n] 144)=M at*
 go_loopg [4,8] 6 (fun g _s4 I wr=>∃k:Nat,k<=6/\g=6-k/\I=.int .i64 (k:Int)/\Arr wr w.heap.size 144 (iX (ofI k) n)/\Below w.heap.size w wr/\w.heap.size<wr.heap.size)
 case atStart=>exact⟨0,aU _,rfl,rfl,z,A,E⟩
 case round=>
  clear z A E;obtain⟨k,O,F,rfl,z,A,E⟩:=hrel;have J:=hid F;clear F
  by_cases G:k<6
  ·have L:decide ((k:Int)<6)=true:=decide_eq_true (by omega);have T:(k:Int)<6:=by omega
   have d:=z.cell (EO (n:=n) (show k<(ofI k).length by rw[aO0];exact G));have f:=z.free k;have H:=z.set k (.int .i64 (k:Int));rw[aOz k n G] at H;go_wp2_with fail;have F:=J.out
   go_roundg (6-(k+1))
   case measure=>omega
   case rel=>exact⟨k+1,by omega,rfl,by go_num,H,A.setCell (p:=⟨w.heap.size,k,none⟩) (aA _) _,by rw[World.size_setCell];exact E⟩
  ·have L:decide ((k:Int)<6)=false:=decide_eq_false (by omega);obtain rfl:k=6:=by omega
   go_wp2_with fail;go_ret;exact⟨rfl,z,A,E⟩
def BX (A:List UInt8):List Int:=A.map (fun b=>(b.toNat:Int))
theorem ZF (A:List UInt8) (i:Nat):EN (BX A) i=BX (eF A i):=by unfold EN eF BX;simp[FV,List.map_drop]
theorem aO1 (A:List UInt8) (i:Nat):(BX A).getD i 0=((A.getD i 0).toNat:Int):=by
 unfold BX;rw[aV,dY,aV]
 cases A[i]? <;>rfl
theorem ZG:BX (cC 6)=ZD:=rfl
theorem tG (A:List UInt8):(BX A).length=A.length:=bJ ..
theorem EP:∀(l:List Int) (A:List UInt8),(∀x∈l,0<=x/\x<(A.length:Int))->(unA A l).length=A.length
 |[],_,_=>rfl
 |x::l,A,h=>by
  have z:=h x (List.mem_cons_self ..);show(unA (eF A x.toNat) l).length=_;rw[EP l _ (fun y d=>by rw[vS];exact h y (List.mem_cons_of_mem _ d)),vS]
theorem aO2 (s:ByteArray) (a n t:Nat) (w:World) (hs:s.size<=1000000) (ha:a<=80000000) (hn:n<=40000) (a3:2<=t) (U:t<=6):
  Calls Tryz.prog 163 #[.string s,.int .i64 (a:Int),.int .i64 (n:Int),.int .i64 (t:Int)] w fun e w'=>yX w w' s.data.toList a n t e:=by
 have HL:=hid (show s.data.toList.length=s.size by simp);have t4:decide ((a:Int)<0)=false:=decide_eq_false (by omega);have t5:decide ((n:Int)<0)=false:=decide_eq_false (by omega);have t6:decide ((n:Int)>1048576)=false:=decide_eq_false (by omega);have t7:decide (1048576<(n:Int))=false:=decide_eq_false (by omega);have b3:=hid (fun k V=>UD (s:=s.data.toList) (a:=a) (n:=n) (k:=k) a3 U (by omega) V);have b5:=hid (DO s.data.toList a n t a3 U (by omega));have a4:=hid (fun k=>wG s.data.toList (t:Int) (a:Int) (by omega) (by omega) k);go_enter Tryz.func163,Tryz.ntmps163;go_wp2_with fail
 refine(ZC t _ a3 U).mono ?_;rintro e w0 ⟨rfl,rfl⟩;go_wp2_with fail;refine(ZE (t:Int) _).mono ?_;rintro e w1 ⟨rfl,Y,a5,a6⟩;obtain⟨z,hz⟩:∃z,z=w0.heap.size:=⟨_,rfl⟩;rw[<-hz] at Y a5 a6 ⊢;have Z:=hid hz;clear hz;rw[<-ZG] at Y;go_wp2_with fail
 go_loopg [1,8,12,13,14,33] n (fun g s1 s8 _s12 _s13 _s14 b6 wr=>∃(k p:Nat) (v:Value) (L:List Int),k<=n/\g=n-k/\v=s8/\b6=.int .i64 (k:Int)/\s1=.int .i64 (p:Int)/\p<=80000000/\Hid (cO s.data.toList (t:Int) (a:Int) k=(L,(p:Int),0))/\OwI wr (z+1) v (BX (unL (cC 6) L))/\Arr wr z 144 (iX (BX (unA (cC 6) L)) (t:Int))/\Below z w0 wr/\z<wr.heap.size)
 case atStart=>exact⟨0,a,_,[],aU _,rfl,rfl,rfl,rfl,ha,hid rfl,OwI.nil _ _,Y,a5,a6⟩
 case round=>
  clear Y a5 a6;obtain⟨k,p,v,L,V,F,rfl,rfl,rfl,hp,A,ho,hA,a0,c4⟩:=hrel;have HG:=hid F;clear F
  by_cases c5:k<n
  ·have v1:decide ((k:Int)<(n:Int))=true:=decide_eq_true (by omega);have d:=UB (s:=s.data.toList) (t:=(t:Int)) (a:=(a:Int)) (k:=k) (by rw[A.out]);rw[A.out] at d;simp only at d;have G:=a4.out k (by rw[A.out]);rw[A.out] at G;obtain⟨o1,o2,o3,o4⟩:=G;simp only at o1 o2 o3 o4;have a7:=hid o2;obtain⟨R,hR⟩:∃R,R=gV s.data.toList (t:Int) (p:Int) 0:=⟨_,rfl⟩;have a8:=DC s.data.toList (t:Int) (8*s.data.toList.length+2) (p:Int) 0 (by omega) (by omega) (by omega);rw[show jK s.data.toList (t:Int) (8*s.data.toList.length+2) (p:Int) 0=R from hR.symm,HL.out] at a8;rw[<-hR] at d;have M:=hid d
   have c6:=hid a8;have HR:=hid hR.symm;clear d a8 hR o1 o2 o3 o4;go_wp2_with fail
   go_loopg [1,8,12,13,14] (8*s.size+2-p) (fun g s1 s8 b7 _s13 _s14 wx=>∃q m:Nat,q<=80000000+m/\m<t/\g=8*s.size+2-q/\v=s8/\s1=.int .i64 (q:Int)/\b7=.int .i64 (m:Int)/\Hid (gV s.data.toList (t:Int) (q:Int) (m:Int)=R)/\wx=wr)
   case atStart=>exact⟨p,0,by omega,by omega,rfl,rfl,rfl,rfl,HR,rfl⟩
   case round=>
    obtain⟨q,m,hq,hm,F,rfl,rfl,rfl,HP,rfl⟩:=hrel;have b8:=hid F;clear F;have d:=DB s.data.toList (t:Int) (q:Int) (m:Int) (by omega);rw[HP.out,HL.out] at d;have H:=fun W=>sT s (q:Int) 1 W hs (by omega) (by omega) (by omega)
    have a9:=fQ (n:=s.size) (at':=(q:Int)) (k:=1);have b9:=iA s.data.toList (q:Int) 1;obtain⟨E1,b0⟩:∃E1,E1=aO s.size (q:Int) 1:=⟨_,rfl⟩;obtain⟨O,b1⟩:∃O,O=aE s.data.toList (q:Int) 1:=⟨_,rfl⟩;rw[<-b0,<-b1] at d;rw[<-b0] at H a9;rw[<-b1] at H b9;clear b0 b1;have m1:aI.wrap ((q:Int)+1)=((q:Int)+1):=by rw[aM];omega
    have m2:aI.wrap ((m:Int)+1)=((m:Int)+1):=by rw[aM];omega
    have d6:wr.cell? ⟨z,6,none⟩=some (.int .i64 (t:Int)):=hA.cell (by
     unfold iX;rw[List.getElem?_append_right (by rw[bJ,tG,EP _ _ (fun x E=>by rw[oR];have:=a7.out x E;omega),oR];exact aA _),bJ,tG,EP _ _ (fun x E=>by rw[oR];have:=a7.out x E;omega),oR];rfl)
    by_cases I:E1=0
    rotate_left
    ·rw[if_pos I] at d;have u1:(E1 != 0)=true:=by simpa using I
     have hF:=b3.out (k+1) (by omega) (by rw[M.out,d];exact(by rw[if_pos I];exact I));rw[M.out,d,if_pos I] at hF;have J:=hid hF;clear d hF d6;go_wp2_with fail;refine(H _).mono ?_;rintro e w2 ⟨rfl,rfl⟩;go_wp2_with fail
     go_ret3
     exact KN J.out (Z.out▸a0)
    subst I;rw[if_neg (fun k=>k rfl)] at d;have a9:=a9 rfl
    by_cases h2:O=0
    ·subst h2;rw[if_pos rfl] at d;have hS:cO s.data.toList (t:Int) (a:Int) (k+1)=(L++[(m:Int)],(q:Int)+1,0):=by rw[M.out,d];rfl
     have HS:=hid hS;have b4:(unA (cC 6) L).length=6:=by
      rw[EP _ _ (fun x E=>by rw[oR];have:=a7.out x E;omega),oR]
     have a1:=ZB z (BX (unA (cC 6) L)) (t:Int) m (by rw[tG];exact b4) (by omega) wr hA;rw[ZF,aO1] at a1;have HU:=hid (show unL (cC 6) (L++[(m:Int)])=unL (cC 6) L++[(unA (cC 6) L).getD m 0] by rw[IN,eG]);have HV:=hid (show unA (cC 6) (L++[(m:Int)])=eF (unA (cC 6) L) m by rw[IP,eG]);obtain⟨C,hC⟩:∃C,C=(unA (cC 6) L).getD m 0:=⟨_,rfl⟩;rw[<-hC] at a1 HU;have c7:(BX (unL (cC 6) L)).length<=40000:=by
      rw[tG,oO];have:=(a4.out k (by rw[A.out])).1;rw[A.out] at this;have:L.length=k:=this;omega
     clear d d6 hS hC b4;go_wp2_with fail;refine(H _).mono ?_;rintro e w2 ⟨rfl,rfl⟩;go_wp2_with fail;refine a1.mono ?_;rintro e w3 ⟨rfl,c0,a2⟩;have c1:OwI w3 (z+1) v (BX (unL (cC 6) L)):=Ow.kept ho a2 (iL ho (sG z));have c2:=a0.grown a2 (by omega) (fun k V=>by obtain rfl:=bW V;exact aA _);have c8:=a2.size;clear a1 ho a2;go_wp2_with (at_builtin;refine eN rfl _ _ rfl (z+1) _ _ rfl (OwI.alloc c1 _) _ (C.toNat:Int) rfl (bS _ _ _) ?_ ?_ ?_;(omega);(simp;omega);intro v4 w4 r1 r2 r3);have F:=HG.out
     go_roundg (n-(k+1))
     case measure=>omega
     case rel=>
      refine⟨k+1,q+1,_,L++[(m:Int)],by omega,rfl,rfl,by go_num,by go_num,by omega,hid (by rw[HS.out];push_cast;rfl),?_,?_,(c2.alloc (by omega) _).trans (r2.mono (by omega)),?_⟩
      ·rw[HU.out];unfold BX at r1 ⊢;rw[fI];exact r1
      ·rw[HV.out];exact((Arr.alloc c0 _).below r2 (sG z))
      ·have:=r2.size;simp only[fV] at this;omega
    ·rw[if_neg h2] at d;have v2:((O:Int)==0)=false:=by rw[beq_eq_false_iff_ne];omega
     have v3:(O==0)=false:=by rw[beq_eq_false_iff_ne];omega
     by_cases T:(m:Int)+1=(t:Int)
     ·rw[if_pos T] at d;have v4:((m:Int)+1==(t:Int))=true:=by rw[beq_iff_eq];exact T
      have hF:=b3.out (k+1) (by omega) (by rw[M.out,d];exact(by decide:(3:Int)≠0));rw[M.out,d] at hF;have J:=hid hF;clear d hF T;go_wp2_with fail;refine(H _).mono ?_;rintro e w2 ⟨rfl,rfl⟩;go_wp2_with fail
      go_ret3
      exact KN J.out (Z.out▸a0)
     ·rw[if_neg T] at d;have v4:((m:Int)+1==(t:Int))=false:=by rw[beq_eq_false_iff_ne];exact T
      have HS:=hid d.symm;clear d;go_wp2_with fail;refine(H _).mono ?_;rintro e w2 ⟨rfl,rfl⟩;go_wp2_with fail;have c9:=b8.out
      go_roundg (8*s.size+2-(q+1))
      case measure=>omega
      case rel=>exact⟨q+1,m+1,by omega,by omega,rfl,rfl,by go_num,by go_num,by push_cast;exact HS,rfl⟩
  ·have v1:decide ((k:Int)<(n:Int))=false:=decide_eq_false (by omega);have c3:k=n:=by omega
   subst c3;have b2:=b5.out;rw[A.out] at b2;have G:=a4.out k (by rw[A.out]);rw[A.out] at G;have hU:unL (cC t) L=unL (cC 6) L:=by
    rw[JZ U,(SD L (cC t) _ (fun x E=>by rw[oR];exact G.2.1 x E)).1]
   have J:=hid (show dD s.data.toList (a:Int) (k:Int) (t:Int)=(BX (unL (cC 6) L),(p:Int),0) by
    rw[b2,if_neg (fun q=>q rfl),<-hU];rfl)
   clear b2 G hU;go_wp2_with fail
   go_ret3
   exact⟨_,by rw[J.out];rfl,by rw[J.out];exact Ow.base ho (by rw[<-Z.out];omega),Z.out▸a0⟩
theorem aO3 (v:Value) (l:List Int) (x:Int) (w:World) (G:RdI w v l):
  Calls Tryz.prog 88 #[v,.int .i64 x] w fun e w'=>e=.returned (.int .i64 (fP (fun y=>x==y) l))/\w'=w:=by
 obtain⟨a,ca,rfl,a0,O,H⟩:=G.open;unfold maxLen at O;clear G;go_enter Tryz.func88,Tryz.ntmps88;go_wp2_with fail
 go_loopg [5,8] l.length (fun g _s5 T wr=>∃k:Nat,k<=l.length/\g=l.length-k/\T=.int .i64 (k:Int)/\Hid (∀y∈l.take k,(x==y)=false)/\wr=w)
 case atStart=>exact⟨0,aU _,rfl,rfl,hid (fun y A=>by simp at A),rfl⟩
 case round=>
  obtain⟨k,hk,E,rfl,HT,rfl⟩:=hrel;have U:=hid E;clear E
  by_cases I:k<l.length
  ·have V:decide ((k:Int)<(l.length:Int))=true:=decide_eq_true (by omega);obtain⟨b,off,rfl,hb,J⟩:=H (by omega);have F:=aN I;have Y:=J k _ F;have Z:=hid F;obtain⟨y,A⟩:∃y,y=l[k]:=⟨_,rfl⟩;rw[<-A] at Y;have L:=hid A;clear A F J H
   cases M:(x==y) with
   |true=>
    go_wp2_with fail;go_ret;exact⟨fX (BR HT.out I (by rw[<-L.out];exact M)).symm,rfl⟩
   |false=>
    have HP:=hid M;go_wp2_with fail;have E:=U.out
    go_roundg (l.length-(k+1))
    case measure=>omega
    case rel=>
     refine⟨k+1,by omega,rfl,by go_num,hid (fun z d=>?_),rfl⟩;rw[cQ,Z.out] at d;rcases List.mem_append.1 d with d|d
     ·exact HT.out z d
     ·obtain rfl:=dC.1 d;rw[<-L.out];exact HP.out
  ·have V:decide ((k:Int)<(l.length:Int))=false:=decide_eq_false (by omega);go_wp2_with fail;go_ret;exact⟨fX (by rw[oN];have:=HT.out;rwa[cS (by omega)] at this),rfl⟩
theorem aO4 {A:List UInt8} {c:UInt8} (h:c∈A):fP (fun y=>(c.toNat:Int)==y) (BX A)=((plc A c:Nat):Int):=by
 have d:=rG h;have G:=BU h;refine BR (fun y z=>?_) (by rw[tG];exact d) ?_
 ·unfold BX at z;rw[<-FV] at z;obtain⟨b,H,rfl⟩:=dU.1 z;obtain⟨j,E⟩:=List.mem_iff_getElem?.1 H;have I:=(eU.1 E).1;rw[aX] at I;rw[mB (by omega),aN (by omega)] at E;have F:=List.not_of_lt_findIdx (p:=fun b=>b==c) (xs:=A) (i:=j) (show j<plc A c by omega);rw[bW E] at F;rw[beq_eq_false_iff_ne];intro e;have J:c=b:=UInt8.toNat_inj.1 (by omega);rw[J] at F;simp at F
 ·have e:(BX A)[plc A c]'(by rw[tG];exact d)=(c.toNat:Int):=by
   unfold BX;rw[List.getElem_map];rw[aN d] at G;rw[bW G]
  rw[e];simp
theorem aO5 (b:Nat) (x:Int) (W:World) (d:W.cell? ⟨b,0,none⟩=some (.int .i64 2)) (z:x=0\/x=1):
  Calls Tryz.prog 86 #[.int .i64 x,.pointer (some ⟨b,0,none⟩)] W fun e w'=>e=.returned (.bool false)/\w'=W:=by
 have v1:decide (x<0)=false:=decide_eq_false (by omega);have v2:decide (x>=2)=false:=decide_eq_false (by omega);have v3:decide (2<=x)=false:=decide_eq_false (by omega);go_enter Tryz.func86,Tryz.ntmps86;go_wp2_with fail;go_ret;exact⟨rfl,rfl⟩
theorem aO6 {l:List Int} (F:∀x∈l,x=0\/x=1) {k:Nat} {x:Int} (h:l[k]? =some x):
  cM (cC 6) ((l.map dV).take (k+1))=cM (cC 6) ((l.map dV).take k)++[((plc (eB (cC 6) ((l.map dV).take k)) (dV x):Nat):Int)]/\
  eB (cC 6) ((l.map dV).take (k+1))=eF (eB (cC 6) ((l.map dV).take k)) (plc (eB (cC 6) ((l.map dV).take k)) (dV x))/\
  dV x∈eB (cC 6) ((l.map dV).take k)/\plc (eB (cC 6) ((l.map dV).take k)) (dV x)<2:=by
 have d:(l.map dV)[k]? =some (dV x):=by rw[dY,h];rfl
 have e:(l.map dV).take (k+1)=(l.map dV).take k++[dV x]:=by rw[cQ,d];rfl
 have z:=DN F;have A:=JZ (show 2<=6 by decide);have G:dV x∈eB (cC 6) ((l.map dV).take k):=(BV _ _).mem_iff.2 (by rw[A];exact List.mem_append_left _ (z _ (cH d)));refine⟨by rw[e,BW],by rw[e,IM],G,?_⟩;have E:=(JY ((l.map dV).take (k+1)) (cC 2) ((cC 6).drop 2) (fun b d=>z b (nO d))).1;rw[<-A] at E
 have H:=vT ((l.map dV).take (k+1)) (cC 2) (fun b d=>z b (nO d)) ((plc (eB (cC 6) ((l.map dV).take k)) (dV x):Nat):Int) (by rw[<-E,e,BW];exact List.mem_append_right _ (dC.2 rfl));have I:(cC 2).length=2:=rfl;rw[I] at H;omega
theorem aO7 {l:List Int} (d:∀x∈l,x=0\/x=1):cM (cC 6) (l.map dV)=dO l:=by
 rw[KM,JZ (show 2<=6 by decide),(JY _ _ _ (DN d)).1]
theorem aO8 (l:List Int):(l.map lF).flatten=dE l:=by unfold dE;rw[List.flatMap_def]
theorem aO9 (v:Value) (l:List Int) (w:World) (hr:RdI w v l) (hl:l.length<=20000) (J:∀x∈l,x=0\/x=1):
  Calls Tryz.prog 33 #[v,.int .i64 2] w fun e w'=>e=.returned (.tuple #[eL (dE (dO l)),.int .i64 0])/\Below w.heap.size w w':=by
 have f6:∀(fn:Fn) (first cap:Array Value) (w:World),(Instr.makeFunc fn first cap).run Tryz.prog w=.ok (.func fn first cap) w:=fun _ _ _ _=>rfl
 have HX:=hid J;have HN:=hid (fun k x (h:l[k]? =some x)=>aO6 J h);have d7:=hid (aO7 J);have c6:=Arr.new w 3 [.int .i64 2];have a6:=Arr.new (w.alloc (.cells #[.int .i64 2] 3)) 29 [.string ⟨#[]⟩,.int .i64 0];have a7:=c6.alloc (.cells #[.string ⟨#[]⟩,.int .i64 0] 29);have d8:(w.alloc (.cells #[.int .i64 2] 3)).heap.size=w.heap.size+1:=by simp
 have a8:((w.alloc (.cells #[.int .i64 2] 3)).alloc (.cells #[.string ⟨#[]⟩,.int .i64 0] 29)).heap.size=w.heap.size+2:=by simp
 have b2:Below w.heap.size w ((w.alloc (.cells #[.int .i64 2] 3)).alloc (.cells #[.string ⟨#[]⟩,.int .i64 0] 29)):=bD (bD (aB _ _) _) _;rw[d8] at a6;change Arr ((w.alloc (.cells #[.int .i64 2] 3)).alloc (.cells #[.string ⟨#[]⟩,.int .i64 0] 29)) _ _ _ at a7;change Arr ((w.alloc (.cells #[.int .i64 2] 3)).alloc (.cells #[.string ⟨#[]⟩,.int .i64 0] 29)) _ _ _ at a6;have b3:=hr.below b2
 have c7:∀W,Below (w.heap.size+2) ((w.alloc (.cells #[.int .i64 2] 3)).alloc (.cells #[.string ⟨#[]⟩,.int .i64 0] 29)) W->Calls Tryz.prog 85 #[v,.func (.func 86) #[] #[.pointer (some ⟨w.heap.size,0,none⟩)]] W fun e w'=>e=.returned (.bool false)/\w'=W:=fun W hW=>
  (uN 86 #[.pointer (some ⟨w.heap.size,0,none⟩)] (fun _=>false) v l W (b3.below (a8▸hW)) (fN Tryz.func86 (by kernel_rfl) rfl)
   (fun W' d9 x e0=>aO5 w.heap.size x W' (((a7.below hW (by omega)).below d9 (by have:=hW.size;omega)).cell (i:=0) rfl) (J x e0))).mono fun e w' ⟨h1,h2⟩=>by
    rw[oN (fun x _=>rfl)] at h1;exact⟨h1,h2⟩
 obtain⟨a,ca,rfl,f7,e1,I⟩:=b3.open;unfold maxLen at e1;clear hr b3 c6 J;go_enter Tryz.func33,Tryz.ntmps33;go_wp2_with fail;generalize ((w.alloc (.cells #[.int .i64 2] 3)).alloc (.cells #[.string ⟨#[]⟩,.int .i64 0] 29))=w2 at*
 have c0:=a7.cell (i:=0) rfl;refine(ZC 2 _ (by decide) (by decide)).mono ?_;rintro e w3 ⟨rfl,rfl⟩;go_wp2_with fail;refine(c7 _ (aB _ _)).mono ?_;rintro e w4 ⟨rfl,rfl⟩;go_wp2_with fail;refine(ZE 2 _).mono ?_;rintro e w5 ⟨rfl,b4,a9,c8⟩;obtain⟨z,hz⟩:∃z,z=w4.heap.size:=⟨_,rfl⟩;rw[<-hz] at b4 a9 c8 a8 ⊢;rw[<-ZG] at b4;have e2:=a6.below a9 (by omega);have e3:=hid (b2.trans (a9.mono (by omega)));have HA:=hid (fun(h:0<l.length)=>I h);have f8:w.heap.size+2<=z:=by omega
 have f9:=hid a8;have HZ:=hid hz;clear c7 a7 a6 c0 I b2 a8 hz;go_wp2_with fail
 go_loopg [7,9,10,11,12,25] l.length (fun g s7 _s9 _s10 _s11 _s12 e4 wr=>∃(k:Nat) (u:Value),k<=l.length/\g=l.length-k/\u=s7/\e4=.int .i64 (k:Int)/\gG wr (z+1) u ((cM (cC 6) ((l.map dV).take k)).map lF)/\Arr wr z 144 (iX (BX (eB (cC 6) ((l.map dV).take k))) 2)/\Below z w5 wr/\z<wr.heap.size)
 case atStart=>exact⟨0,_,aU _,rfl,rfl,rfl,gG.nil _ _,b4,aB _ _,c8⟩
 case round=>
  obtain⟨k,u,hk,hg,rfl,rfl,E,I,G,e5⟩:=hrel;have HG:=hid hg;clear hg
  by_cases e6:k<l.length
  ·have u1:decide ((k:Int)<(l.length:Int))=true:=decide_eq_true (by omega);obtain⟨b,off,rfl,hb,hc⟩:=HA.out (by omega);obtain⟨x,b0⟩:=dH e6;have c1:=(G.cell (p:=⟨b,off+k,none⟩) (by show b<z;rw[HZ.out];exact hb)).trans ((a9.cell (p:=⟨b,off+k,none⟩) (by show b<z;rw[HZ.out];exact hb)).trans (hc k x b0));obtain⟨L,n2,n3,n4⟩:=HN.out k x b0;have e7:=HX.out x (cH b0);have c9:((dV x).toNat:Int)=x:=by rcases e7 with rfl|rfl<;>rfl
   have b5:(eB (cC 6) ((l.map dV).take k)).length=6:=(BV _ _).length_eq;obtain⟨Q,hQ⟩:∃Q,Q=eB (cC 6) ((l.map dV).take k):=⟨_,rfl⟩;obtain⟨M,hM⟩:∃M,M=cM (cC 6) ((l.map dV).take k):=⟨_,rfl⟩;have g0:M.length=k:=by rw[hM,rH,aX,bJ];omega
   rw[<-hQ] at L n2 n3 n4 b5 I;rw[<-hM] at L E;obtain⟨i,hi⟩:∃i,i=plc Q (dV x):=⟨_,rfl⟩;have b6:=aO4 n3;rw[c9,<-hi] at b6;rw[<-hi] at L n2 n4;have N1:=hid L;have N2:=hid n2;have d2:RdI wr (.slice (some ⟨z,0,none⟩) 6 6) (BX Q):=by
    have d3:(BX Q).length=6:=by rw[tG];exact b5
    refine⟨some ⟨z,0,none⟩,6,by rw[d3],by rw[d3];exact aA _,by simp[maxLen],.inr ⟨z,0,rfl,e5,fun j hj=>?_⟩⟩;rw[bJ] at hj;rw[iZ,I.cell (EO hj)];simp[aV,aN hj]
   have d4:=aO3 (.slice (some ⟨z,0,none⟩) 6 6) (BX Q) x wr d2;rw[b6] at d4;have O:=ZB z (BX Q) 2 i (by rw[tG];exact b5) (by omega) wr I;rw[ZF] at O;clear L n2 n3 b0 hc b6 c9 hi hQ hM d2;go_wp2_with fail;refine d4.mono ?_;rintro e w6 ⟨rfl,rfl⟩;obtain⟨X,hX⟩:∃X,X=lF ((i:Nat):Int):=⟨_,rfl⟩;have hi2:i=0\/i=1:=by omega
   have g1:X.length<=2:=by rcases hi2 with rfl|rfl<;>(rw[hX];decide)
   have b1:=hid hX;rcases hi2 with hi0|hi0
   ·skip
    subst hi0;have b7:∀W,Calls Tryz.prog 75 #[.agg #[.string ⟨#[]⟩,.int .i64 0],.int .u64 0,.int .i64 1] W fun e w'=>e=.returned (.tuple #[.agg #[.string (mkS (aD X)),.int .i64 (X.length:Int)],.int .i64 0])/\Below W.heap.size W w':=fun W=>by
     have:=uH [] 0 1 W (by decide) (by decide) (by decide);rw[show([]:List Bool)++aY 0 1=X by rw[b1.out];decide] at this;exact this
    clear hX;go_wp2_with fail;refine O.mono ?_;rintro e w7 ⟨rfl,T,F⟩;have U:gG w7 (z+1) u (M.map lF):=NH E F (iL E (sG z));have V:=G.grown F (by omega) (fun k hk=>by obtain rfl:=bW hk;exact aA _);have e8:=F.size;clear O E F G;go_wp2_with fail;refine(b7 _).mono ?_;rintro e d ⟨rfl,A⟩;have Y:=T.below A (by omega);have Z:=U.below A (aA _);have a0:=V.trans (A.mono (by omega));have e9:=A.size;have a1:=Y.alloc (.cells #[.string (mkS (aD X)),.int .i64 (X.length:Int)] 29)
    have a2:=Z.alloc (.cells #[.string (mkS (aD X)),.int .i64 (X.length:Int)] 29);have a3:=a0.alloc (o:=.cells #[.string (mkS (aD X)),.int .i64 (X.length:Int)] 29) (by omega);have b8:(d.alloc (.cells #[.string (mkS (aD X)),.int .i64 (X.length:Int)] 29)).heap.size=d.heap.size+1:=by simp
    have hN:=Arr.new (d.alloc (.cells #[.string (mkS (aD X)),.int .i64 (X.length:Int)] 29)) 29 [.string (mkS (aD X)),.int .i64 (X.length:Int)];rw[b8] at hN;have b9:=a1.alloc (.cells #[.string (mkS (aD X)),.int .i64 (X.length:Int)] 29);have c2:=a2.alloc (.cells #[.string (mkS (aD X)),.int .i64 (X.length:Int)] 29);have c3:=a3.alloc (o:=.cells #[.string (mkS (aD X)),.int .i64 (X.length:Int)] 29) (by omega)
    have f2:((d.alloc (.cells #[.string (mkS (aD X)),.int .i64 (X.length:Int)] 29)).alloc (.cells #[.string (mkS (aD X)),.int .i64 (X.length:Int)] 29)).heap.size=d.heap.size+2:=by simp
    clear Y Z A a0 T U V a1 a2 a3;go_wp2_with (at_builtin;refine PY rfl _ _ rfl (z+1) _ (M.map lF) X rfl c2 _ rfl hN ?_ ?_ ?_;(rw[bJ];omega);(omega);intro v11 f3 r1 H r3);have hg:=HG.out
    go_roundg (l.length-(k+1))
    case measure=>omega
    case rel=>
     refine⟨k+1,_,by omega,rfl,rfl,by go_num,?_,?_,c3.trans (H.mono (by omega)),?_⟩
     ·rw[N1.out,fI];have e:[((0:Nat):Int)].map lF=[X]:=by rw[b1.out];rfl
      rw[e];exact r1
     ·rw[N2.out];exact b9.below H (sG z)
     ·have:=H.size;omega
   ·skip
    subst hi0;have b7:∀W,Calls Tryz.prog 75 #[.agg #[.string ⟨#[]⟩,.int .i64 0],.int .u64 2,.int .i64 2] W fun e w'=>e=.returned (.tuple #[.agg #[.string (mkS (aD X)),.int .i64 (X.length:Int)],.int .i64 0])/\Below W.heap.size W w':=fun W=>by
     have:=uH [] 2 2 W (by decide) (by decide) (by decide);rw[show([]:List Bool)++aY 2 2=X by rw[b1.out];decide] at this;exact this
    clear hX;go_wp2_with fail;refine O.mono ?_;rintro e w7 ⟨rfl,T,F⟩;have U:gG w7 (z+1) u (M.map lF):=NH E F (iL E (sG z));have V:=G.grown F (by omega) (fun k hk=>by obtain rfl:=bW hk;exact aA _);have e8:=F.size;clear O E F G;go_wp2_with fail;refine(b7 _).mono ?_;rintro e d ⟨rfl,A⟩;have Y:=T.below A (by omega);have Z:=U.below A (aA _);have a0:=V.trans (A.mono (by omega));have e9:=A.size;have a1:=Y.alloc (.cells #[.string (mkS (aD X)),.int .i64 (X.length:Int)] 29)
    have a2:=Z.alloc (.cells #[.string (mkS (aD X)),.int .i64 (X.length:Int)] 29);have a3:=a0.alloc (o:=.cells #[.string (mkS (aD X)),.int .i64 (X.length:Int)] 29) (by omega);have b8:(d.alloc (.cells #[.string (mkS (aD X)),.int .i64 (X.length:Int)] 29)).heap.size=d.heap.size+1:=by simp
    have hN:=Arr.new (d.alloc (.cells #[.string (mkS (aD X)),.int .i64 (X.length:Int)] 29)) 29 [.string (mkS (aD X)),.int .i64 (X.length:Int)];rw[b8] at hN;have b9:=a1.alloc (.cells #[.string (mkS (aD X)),.int .i64 (X.length:Int)] 29);have c2:=a2.alloc (.cells #[.string (mkS (aD X)),.int .i64 (X.length:Int)] 29);have c3:=a3.alloc (o:=.cells #[.string (mkS (aD X)),.int .i64 (X.length:Int)] 29) (by omega)
    have f2:((d.alloc (.cells #[.string (mkS (aD X)),.int .i64 (X.length:Int)] 29)).alloc (.cells #[.string (mkS (aD X)),.int .i64 (X.length:Int)] 29)).heap.size=d.heap.size+2:=by simp
    clear Y Z A a0 T U V a1 a2 a3;go_wp2_with (at_builtin;refine PY rfl _ _ rfl (z+1) _ (M.map lF) X rfl c2 _ rfl hN ?_ ?_ ?_;(rw[bJ];omega);(omega);intro v11 f3 r1 H r3);have hg:=HG.out
    go_roundg (l.length-(k+1))
    case measure=>omega
    case rel=>
     refine⟨k+1,_,by omega,rfl,rfl,by go_num,?_,?_,c3.trans (H.mono (by omega)),?_⟩
     ·rw[N1.out,fI];have e:[((1:Nat):Int)].map lF=[X]:=by rw[b1.out];rfl
      rw[e];exact r1
     ·rw[N2.out];exact b9.below H (sG z)
     ·have:=H.size;omega
  ·have u1:decide ((k:Int)<(l.length:Int))=false:=decide_eq_false (by omega);rw[cS (by rw[bJ];omega),d7.out] at E;have c4:((dO l).map lF).flatten=dE (dO l):=aO8 _;have f4:=wL (dO l) 2 (yW HX.out);rw[uU] at f4;have a4:=CF u ((dO l).map lF) wr (gG.rd E) (by rw[c4];omega);rw[c4] at a4;obtain⟨D,hD⟩:∃D,D=dE (dO l):=⟨_,rfl⟩;rw[<-hD] at a4;have HD:=hid hD;unfold eL at a4;have d5:=e2.below G (by omega);have d6:=e3.out.trans (G.mono (by omega));clear E c4 hD;go_wp2_with fail;refine a4.mono ?_;rintro e w6 ⟨rfl,c5⟩
   have a5:=d5.below c5 (by omega);have f5:=d6.trans (c5.mono (by omega));have d0:=a5.cell (i:=0) rfl;have d1:=a5.cell (i:=1) rfl;have f0:=a5.free 0;have f1:=a5.free 1;clear a4 c5 d5 d6 G;go_wp2_with fail;have z0:Arr ((w6.setCell ⟨w.heap.size+1,0,none⟩ (.string (mkS (aD D)))).setCell ⟨w.heap.size+1,1,none⟩ (.int .i64 (D.length:Int))) (w.heap.size+1) 29 [.string (mkS (aD D)),.int .i64 (D.length:Int)]:=(a5.set 0 _).set 1 _
   refine gJ (qH rfl _ _ (w.heap.size+1) _ _ (0,0) _ rfl z0 Tryz.underlying29 rfl mF) rfl ⟨by rw[<-HD.out];rfl,(f5.setCell (p:=⟨w.heap.size+1,0,none⟩) (pI _) _).setCell (p:=⟨w.heap.size+1,1,none⟩) (pI _) _⟩
theorem aPg (b n:Nat) (x:Int) (W:World) (d:W.cell? ⟨b,0,none⟩=some (.int .i64 (n:Int))) (z:0<=x/\x<(n:Int)):
  Calls Tryz.prog 144 #[.int .i64 x,.pointer (some ⟨b,0,none⟩)] W fun e w'=>e=.returned (.bool false)/\w'=W:=by
 have v1:decide (x<0)=false:=decide_eq_false (by omega);have v2:decide (x>=(n:Int))=false:=decide_eq_false (by omega);have v3:decide ((n:Int)<=x)=false:=decide_eq_false (by omega);go_enter Tryz.func144,Tryz.ntmps144;go_wp2_with fail;go_ret;exact⟨rfl,rfl⟩
theorem ZJ (v:Value) (l:List Int) (n:Nat) (w:World) (z:RdI w v l) (A:∀x∈l,0<=x/\x<(n:Int)):
  Calls Tryz.prog 81 #[v,.int .i64 (n:Int)] w fun e w'=>e=.returned (.bool false)/\Below w.heap.size w w':=by
 have d:=Arr.new w 3 [.int .i64 (n:Int)];have E:Below w.heap.size w (w.alloc (.cells #[.int .i64 (n:Int)] 3)):=bD (aB _ _) _;have G:(w.alloc (.cells #[.int .i64 (n:Int)] 3)).heap.size=w.heap.size+1:=by simp
 change Arr (w.alloc (.cells #[.int .i64 (n:Int)] 3)) _ _ _ at d;have H:=(uN 144 #[.pointer (some ⟨w.heap.size,0,none⟩)] (fun _=>false) v l _ (z.below E) (fN Tryz.func144 (by kernel_rfl) rfl)
   (fun I J x L=>aPg w.heap.size n x I ((d.below J (by omega)).cell (i:=0) rfl) (A x L))).mono (fun e w' h=>show e=.returned (.bool false)/\w'=_ from by
    have F:=h.1;rw[oN (fun x _=>rfl)] at F;exact⟨F,h.2⟩)
 clear z d G A;go_enter Tryz.func81,Tryz.ntmps81;go_wp2_with fail;refine H.mono ?_;rintro e M ⟨rfl,rfl⟩;go_wp2_with fail;go_ret;exact⟨rfl,E⟩
theorem aPh (x:Int) (W:World) (d:0<=x/\x<=1048576):
  Calls Tryz.prog 192 #[.int .i64 x] W fun e w'=>e=.returned (.bool false)/\w'=W:=by
 have v1:decide (x<0)=false:=decide_eq_false (by omega);have v2:decide (x>1048576)=false:=decide_eq_false (by omega);have v3:decide (1048576<x)=false:=decide_eq_false (by omega);go_enter Tryz.func192,Tryz.ntmps192;go_wp2_with fail;go_ret;exact⟨rfl,rfl⟩
theorem aPi (v:Value) (l:List Int) (w:World) (d:RdI w v l) (z:∀x∈l,0<=x/\x<=1048576):
  Calls Tryz.prog 145 #[v] w fun e w'=>e=.returned (.bool true)/\w'=w:=by
 have E:=(uN 192 #[] (fun _=>false) v l w d (fN Tryz.func192 (by kernel_rfl) rfl)
   (fun F _ x G=>aPh x F (z x G))).mono (fun e w' h=>show e=.returned (.bool false)/\w'=_ from by
    have A:=h.1;rw[oN (fun x _=>rfl)] at A;exact⟨A,h.2⟩)
 clear d z;go_enter Tryz.func145,Tryz.ntmps145;go_wp2_with fail;refine E.mono ?_;rintro e H ⟨rfl,rfl⟩;go_wp2_with fail;go_ret;exact⟨rfl,rfl⟩
theorem ZK (v u:Value) (l g:List Int) (w:World) (I:RdI w v l) (J:RdI w u g) (E:bL l=0) (d:∀x∈g,0<=x/\x<(l.length:Int)) (b5:g.length<=1000):
  Calls Tryz.prog 83 #[v,u] w fun e w'=>e=.returned (.tuple #[.int .i64 (nI l g),.int .i64 0])/\Below w.heap.size w w':=by
 rw[TC E d];have F:=(eH E).1;have L:=zS v l w I;rw[E] at L;have a7:=hid (fun k=>SG F.2.2 (g.take k));have HX:=hid d;have Z:=hid (fun(x:Int) (h:0<=x/\x<(l.length:Int))=>show l[x.toNat]? =some (l.getD x.toNat 0) by
  rw[aV,aN (show x.toNat<l.length by omega)];rfl)
 have a0:=fun W (h:RdI W u g)=>ZJ u g l.length W h d
 have b6:=F.1;have a8:=hid (fun(x:Int) (h:0<=x/\x<(l.length:Int))=>F.2.2 (l.getD x.toNat 0) (cH (Z.out x h)));obtain⟨a,ca,rfl,b7,a9,hA⟩:=I.open;unfold maxLen at a9;obtain⟨b,off,rfl,hb,hc⟩:=hA (by omega);obtain⟨a2,c2,rfl,b8,b0,a1⟩:=J.open;unfold maxLen at b0;clear I hA F d E;go_enter Tryz.func83,Tryz.ntmps83;go_wp2_with fail;refine L.mono ?_;rintro e w1 ⟨rfl,M⟩;have a3:=J.below M;clear L;go_wp2_with fail;refine(a0 _ a3).mono ?_;rintro e w2 ⟨rfl,O⟩;have T:=M.trans (O.mono M.size);have HC:=hid (fun j x (z:l[j]? =some x)=>((lP T).1 b (off+j) hb).trans (hc j x z))
 have b1:=hid (fun A G (h:A<w.heap.size) (h2:∀j x,g[j]? =some x->w.cell? ⟨A,G+j,none⟩=some (.int .i64 x)) j x (z:g[j]? =some x)=>((lP T).1 A (G+j) h).trans (h2 j x z));clear a0 J a3 hc;go_wp2_with fail
 go_loopg [4,8,20] g.length (fun gg s4 _s8 b3 wr=>∃k:Nat,k<=g.length/\gg=g.length-k/\b3=.int .i64 (k:Int)/\s4=.int .i64 (lT l (g.take k))/\wr=w2)
 case atStart=>exact⟨0,aU _,rfl,rfl,rfl,rfl⟩
 case round=>
  obtain⟨k,hk,d,rfl,rfl,rfl⟩:=hrel;have HG:=hid d;clear d;have a4:=a7.out k;rw[aX,gU hk] at a4
  by_cases b4:k<g.length
  ·have u1:decide ((k:Int)<(g.length:Int))=true:=decide_eq_true (by omega);obtain⟨A,G,rfl,O,a5⟩:=a1 (by omega);obtain⟨x,z⟩:=dH b4;have c1:=b1.out A G O a5 k x z;have H:=HX.out x (cH z);have U:=Z.out x H;have a6:=a8.out x H;have HT:=hid (TD (l:=l) z);obtain⟨X,rfl⟩:∃X:Nat,x=(X:Int):=⟨x.toNat,by omega⟩;rw[eG] at U a6 HT;have c2:=HC.out X _ U;obtain⟨S,V⟩:∃S,S=lT l (g.take k):=⟨_,rfl⟩;obtain⟨D,Y⟩:∃D,D=l.getD X 0:=⟨_,rfl⟩;rw[<-V,<-Y] at HT;rw[<-V] at a4 ⊢;rw[<-Y] at a6 c2;have m1:aI.wrap (S+D)=S+D:=by rw[aM];omega
   have v1:(X:Int)<(l.length:Int):=H.2;have v2:X<l.length:=by omega
   clear z U a5 a1 V Y H;go_wp2_with fail;have d:=HG.out
   go_roundg (g.length-(k+1))
   case measure=>omega
   case rel=>exact⟨k+1,by omega,rfl,by go_num,by rw[HT.out],rfl⟩
  ·have u1:decide ((k:Int)<(g.length:Int))=false:=decide_eq_false (by omega);rw[cS (by omega)];go_wp2_with fail
   go_ret2
   exact⟨rfl,T⟩
theorem ZT (c n:Int) (w:World) (A: -9223372036854775808<=c) (E:c<=9223372036854775807) (F:1<=n) (G:n<=1000000000):
  Calls Tryz.prog 11 #[.int .i64 c,.int .i64 n] w fun e w'=>e=.returned (.int .i64 (gA c n))/\w=w':=by
 by_cases z:c<0
 ·have d:=hid (show gA c n=(-(c+1))%n from by simp[gA,z]);go_enter Tryz.func11,Tryz.ntmps11;go_wp2;go_ret;exact⟨fX (by rw[d.out];rw[<-Int.neg_tmod,Int.tmod_eq_emod_of_nonneg (by omega)]),rfl⟩
 ·have d:=hid (show gA c n=c%n from by simp[gA,z]);have H:0<=c:=by omega
  go_enter Tryz.func11,Tryz.ntmps11;go_wp2;go_ret;exact⟨fX (by rw[d.out]),rfl⟩
theorem ZU (n:Int) (W:World):Calls Tryz.prog 28 #[.int .i64 n] W fun e w'=>e=.returned (.bool (decide (1<=n)&&decide (n<=360)))/\w'=W:=by
 by_cases h:1<=n
 ·have d:decide (1<=n)=true:=decide_eq_true h;have z:decide (n>=1)=true:=decide_eq_true h;rw[d];go_enter Tryz.func28,Tryz.ntmps28;go_wp2_with fail;go_ret;exact⟨rfl,rfl⟩
 ·have d:decide (1<=n)=false:=decide_eq_false h;have z:decide (n>=1)=false:=decide_eq_false h;rw[d];go_enter Tryz.func28,Tryz.ntmps28;go_wp2_with fail;go_ret;exact⟨rfl,rfl⟩
def oC (E:Int):List PanicEntry:=[{v:=.iface 81 (.agg #[.int .i64 E]),recovered:=false}]
theorem vC (E:Int) (W:World):Calls Tryz.prog 116 #[.int .i64 E] W fun e w'=>
  (E=0/\e=.returned (.tuple #[])/\w'=W)\/(E≠0/\e=.panicked (oC E)/\w'=W):=by
 by_cases h:E=0
 ·subst h;go_enter Tryz.func116,Tryz.ntmps116;go_wp2_with fail
  go_end0
  exact .inl ⟨trivial,rfl,rfl⟩
 ·have d:(E != 0)=true:=by simpa using h
  go_enter Tryz.func116,Tryz.ntmps116;go_wp2_with fail;exact⟨rfl,.inr ⟨h,rfl,rfl⟩⟩
theorem pU (b:Bool) (E:Int) (W:World) (d:E≠0):Calls Tryz.prog 52 #[.bool b,.int .i64 E] W fun e w'=>
  (b=true/\e=.returned (.tuple #[])/\w'=W)\/(b=false/\e=.panicked (oC E)/\w'=W):=by
 have hor:=(vC E W).mono (fun e w' h=>show e=.panicked (oC E)/\w'=W from by
  rcases h with h|h
  ·exact absurd h.1 d
  ·exact h.2)
 cases b with
 |true=>
  go_enter Tryz.func52,Tryz.ntmps52;go_wp2_with fail
  go_end0
  exact .inl ⟨trivial,rfl,rfl⟩
 |false=>
  go_enter Tryz.func52,Tryz.ntmps52;go_wp2_with fail;refine hor.mono ?_;rintro e w' ⟨rfl,rfl⟩;go_wp2_with fail;exact⟨rfl,.inr ⟨trivial,rfl,rfl⟩⟩
def BRd (w:World) (b:Nat) (s:ByteArray) (a:Nat) (d ch z:Value):Prop:=Arr w b 85 [.string s,.int .i64 (a:Int),d,ch,z]
theorem zT (b:Nat) (s:ByteArray) (a k:Nat) (A ch F:Value) (W:World) (G:BRd W b s a A ch F) (T:s.size<=1000000) (U:k<=48) (ha:a<=100000000):
  Calls Tryz.prog 110 #[.pointer (some ⟨b,0,none⟩),.int .i64 (k:Int)] W fun e w'=>
   (aO s.size (a:Int) k=0/\e=.returned (.int .i64 (aE s.data.toList (a:Int) k:Int))/\BRd w' b s (a+k) A ch F/\W.grownBy w' (some b))\/(aO s.size (a:Int) k≠0/\e=.panicked (oC (aO s.size (a:Int) k))/\W.grownBy w' (some b)):=by
 have J:=fun W=>sT s (a:Int) k W T (by omega) (by omega) (by omega)
 have L:=iA s.data.toList (a:Int) k;have Y:aE s.data.toList (a:Int) k<281474976710656:=Nat.lt_of_lt_of_le L (aW (Nat.pow_le_pow_right (by decide) U) (by decide));obtain⟨E,d⟩:∃E,E=aO s.size (a:Int) k:=⟨_,rfl⟩;obtain⟨V,z⟩:∃V,V=aE s.data.toList (a:Int) k:=⟨_,rfl⟩;rw[<-d,<-z];rw[<-d,<-z] at J;rw[<-z] at Y;have HE:=hid d;clear d z L;have c0:=Arr.cell G (i:=0) rfl;have c1:=Arr.cell G (i:=1) rfl;have m1:aI.wrap (V:Int)=(V:Int):=by rw[aM];omega
 have m2:aI.wrap ((a:Int)+(k:Int))=(a:Int)+(k:Int):=by rw[aM];omega
 have hor:=fun W=>vC E W
 go_enter Tryz.func110,Tryz.ntmps110;go_wp2_with fail
 go_quiet (first|(go_at_call 23;exact Calls.quiet_of_same (J _)))
 generalize H:W.drewN nq=M at*
 have I:BRd M b s a A ch F:=by rw[<-H];exact G
 have O:W.grownBy M (some b):=by rw[<-H];exact⟨rfl,rfl,rfl,aA _,fun _ _ _=>rfl⟩
 have d1:=Arr.cell I (i:=1) rfl;have g1:=Arr.free I 1;clear H;go_wp2_with fail;refine(hor _).mono ?_;rintro e w2 (⟨rfl,rfl,rfl⟩|⟨Z,rfl,rfl⟩)
 ·go_wp2_with fail;go_ret;exact⟨rfl,by have:=Arr.set I 1 (.int .i64 ((a:Int)+(k:Int)));unfold BRd;push_cast;exact this,gbT O (gbS _ _ _ _)⟩
 ·go_wp2_with fail;exact⟨rfl,.inr ⟨Z,rfl,O⟩⟩
theorem ES (b:Nat) (s:ByteArray) (a:Nat) (q E:Int) (z ch A:Value) (W:World) (d:BRd W b s a z ch A):
  Calls Tryz.prog 112 #[.pointer (some ⟨b,0,none⟩),.int .i64 q,.int .i64 E] W fun e w'=>
   (E=0/\e=.returned (.tuple #[])/\Arr w' b 85 [.string s,.int .i64 q,z,ch,A]/\W.grownBy w' (some b))\/(E≠0/\e=.panicked (oC E)/\w'=W):=by
 have G:=Arr.cell d (i:=1) rfl;have H:=Arr.free d 1;have hor:=vC E W;go_enter Tryz.func112,Tryz.ntmps112;go_wp2_with fail;refine hor.mono ?_;rintro e I (⟨rfl,rfl,rfl⟩|⟨F,rfl,rfl⟩)
 ·go_wp2_with fail
  go_end0
  exact⟨rfl,Arr.set d 1 _,gbS _ _ _ _⟩
 ·go_wp2_with fail;exact⟨rfl,.inr ⟨F,rfl,rfl⟩⟩
theorem aAi {w:World} (F:TypeId) (d:Nat) (v:Value) (z:List (List Bool)) (l:List Bool) (G:gG w d v z) (g:Nat) (J:Arr w g 29 (kH l)) (L:(z.length+1)*24<=140737488355328) (H:d<=w.heap.size):
  ∃A w',(tT #[67,67] F #[v,.slice (some ⟨g,0,none⟩) 1 1]).run Tryz.prog w=.ok A w'/\gG w' d A (z++[l])/\Below d w w'/\w.grownBy w' v.ownBlock:=by
 obtain⟨i,hi,M,O,T⟩:=info_parts JB;obtain⟨A,w',U,V,I,_⟩:=run_append_own (P:=Tryz.prog) w d 67 F 29 i _ 2 24 Tryz.underlying67 hi M O T rfl (by decide) v z.length (z.flatMap kH) G ⟨g,0,none⟩ 1 1 (kH l) rfl (fun j Y Z=>by
  rw[show(⟨g,0,none⟩:Addr).add j=⟨g,j,none⟩ by unfold iN;split<;>simp_all];exact J.cell Z) (fun Y E=>by
  unfold kH at E;rcases List.mem_cons.1 E with rfl|E
  ·rfl
  ·obtain rfl:=dC.1 E;rfl) (by simp only[maxLen];omega) L H
 refine⟨A,w',U,?_,rC G I H,I⟩;unfold gG;rw[aL,List.flatMap_append,List.flatMap_singleton];exact V
theorem xC {P:Program} {d:Array Oper} {o:Oper} {a:Act} {w:World} {K:Act->World->Prop} {Q:Exit->Act->World->Prop} {E:Prop} (z:o.guard=none) (s x:Operand) (t:TypeId)
  (A:o.op=.call {callee:=.builtin .append,args:=#[s,x],argTypes:=#[t,t]}) (v u v':Value) (w':World) (hs:a.eval s=v) (hx:a.eval x=u)
  (hr:(tT #[t,t] o.type #[v,u]).run P w=.ok v' w') (h:K (a.put o.dst v') w'):if nR o (yielded d a.tmps)=true then lX P o a w K Q else E:=by
 have F:nR o (yielded d a.tmps)=true:=by simp[nR,z]
 rw[if_pos F];unfold lX execOp;simp only[A,resolve,invoke,builtin,Sem.run_bind,Sem.run_pure,Result.andThen_ok,List.map_toArray,List.map_cons,List.map_nil,hs,hx,hr];exact h
def WrL (w:World) (p B:Nat) (d:List (List Bool)):Prop:=∃v,Arr w p 69 [v]/\gG w B v d
def KT (e p:Nat) (w w':World):Prop:=w.heap.size<=w'.heap.size/\∀k o,w.heap[k]? =some o->k≠p->(∀c d,o≠.cells c e d)->w'.heap[k]? =some o
theorem KT.trans {e p:Nat} {a b c:World} (h:KT e p a b) (k:KT e p b c):KT e p a c:=⟨aW h.1 k.1,fun i o hi d z=>k.2 i o (h.2 i o hi d z) d z⟩
theorem KT.below {e p:Nat} {w w':World} (h:Below w.heap.size w w'):KT e p w w':=⟨h.size,fun k _ d _ _=>(h.block k (gQ.1 d).1).trans d⟩
theorem KT.app {e p B z n:Nat} {w w':World} {v:Value} {xs:List Value} (E:w.ownsRow B e z v n xs) (h:w.grownBy w' v.ownBlock):KT e p w w':=⟨h.size,fun k o d _ F=>by
 refine(h.block k (gQ.1 d).1 (fun e=>?_)).trans d;rcases E.2 with⟨rfl,_⟩|⟨g,cap,G,rfl,_,A,_⟩
 ·cases e
 ·obtain rfl:=bW e;rw[d] at A;exact F _ _ (bW A)⟩
theorem KT.box {e p i:Nat} {w:World} (v:Value):KT e p w (w.setCell ⟨p,i,none⟩ v):=⟨by simp,fun k o d z _=>by rw[kT w ⟨p,i,none⟩ k v z];exact d⟩
theorem KT.ow {e p B d:Nat} {w w':World} {v:Value} {xs:List Value} (h:KT e p w w') (z:Ow w B d v xs) (J:p<B) (A:d≠e):Ow w' B d v xs:=by
 refine⟨z.1,?_⟩;rcases z.2 with E|⟨g,cap,F,G,H,I,rest⟩
 ·exact .inl E
 ·exact .inr ⟨g,cap,F,G,H,h.2 g _ I (by omega) (fun c L q=>by injection q with _ q2;exact A q2),rest⟩
theorem xF (p B:Nat) (d:List (List Bool)) (l:List Bool) (E:Int) (w:World) (h:WrL w p B d) (hp:p<B) (hB:B<=w.heap.size) (hl:d.length<=1000000):
  Calls Tryz.prog 32 #[.pointer (some ⟨p,0,none⟩),.agg #[.string (mkS (aD l)),.int .i64 (l.length:Int)],.int .i64 E] w fun e w'=>e=.returned (.tuple #[])/\WrL w' p B (d++[l])/\Below p w w'/\KT 29 p w w':=by
 obtain⟨v,I,J⟩:=h;obtain⟨S,M⟩:∃S,S=mkS (aD l):=⟨_,rfl⟩;obtain⟨L,O⟩:∃L,L=(l.length:Int):=⟨_,rfl⟩;rw[<-M,<-O];have a2:kH l=[.string S,.int .i64 L]:=by rw[M,O];rfl
 have T:=Arr.new w 29 [.string S,.int .i64 L];have U:Arr (w.alloc (.cells #[.string S,.int .i64 L] 29)).drew p 69 [v]:=I.alloc _;have V:gG (w.alloc (.cells #[.string S,.int .i64 L] 29)).drew B v d:=J.alloc _;have Y:(w.alloc (.cells #[.string S,.int .i64 L] 29)).drew.heap.size=w.heap.size+1:=by simp
 have a4:Below p w (w.alloc (.cells #[.string S,.int .i64 L] 29)).drew:=((aB p w).alloc (by omega) _).drew;have a5:Arr ((w.alloc (.cells #[.string S,.int .i64 L] 29)).drew.alloc (.cells #[.string S,.int .i64 L] 29)) (w.heap.size+1) 29 (kH l):=by
  rw[a2,<-Y];exact Arr.new _ _ _
 have Z:=U.alloc (.cells #[.string S,.int .i64 L] 29);obtain⟨v3,G,hr,a0,a1,a6⟩:=aAi (w:=(w.alloc (.cells #[.string S,.int .i64 L] 29)).drew.alloc (.cells #[.string S,.int .i64 L] 29)) 67 B v d l (V.alloc _) (w.heap.size+1) a5 (by omega) (by rw[fV,Y];omega);have H:=Z.below a1 hp;have a7:KT 29 p w G:=(KT.below (((bD (aB _ w) (.cells #[.string S,.int .i64 L] 29)).drew.alloc (by rw[Y];omega) (.cells #[.string S,.int .i64 L] 29)))).trans (KT.app (V.alloc _) a6);have a8:Below p w G:=(a4.alloc (by omega) _).trans (a1.mono (by omega));obtain⟨z,A,e3,-⟩:=a0.rd
 obtain⟨F,a9⟩:∃n,n=(d++[l]).length:=⟨_,rfl⟩;rw[<-a9] at e3;subst e3;obtain⟨a,c,e1,-⟩:=J.rd;obtain⟨n,hn⟩:∃n,n=d.length:=⟨_,rfl⟩;rw[<-hn] at e1;subst e1;have b2:(tT #[67,67] 67 #[.slice a n c,.slice (some ⟨w.heap.size+1,0,none⟩) 1 1]).run Tryz.prog ((w.alloc (.cells #[.string S,.int .i64 L] 29)).alloc (.cells #[.string S,.int .i64 L] 29)).drew=.ok (.slice z F A) G:=hr;have c0:=I.cell (i:=0) rfl;have c1:=U.cell (i:=0) rfl;have c2:=Z.cell (i:=0) rfl;have ca:(w.alloc (.cells #[.string S,.int .i64 L] 29)).cell? ⟨p,0,none⟩=some (.slice a n c):=c1
 have cb:((w.alloc (.cells #[.string S,.int .i64 L] 29)).alloc (.cells #[.string S,.int .i64 L] 29)).cell? ⟨p,0,none⟩=some (.slice a n c):=c2;have b3:=H.cell (i:=0) rfl;have f3:=H.free 0;have b0:=T.cell (i:=0) rfl;have b1:=T.cell (i:=1) rfl;have HO:=hid (aCj a0 (a:=⟨p,0,none⟩) hp (.slice z F A));have HA:=hid (H.set 0 (.slice z F A));have HB:=hid (a8.setCell (p:=⟨p,0,none⟩) (aA _) (.slice z F A));have HK:=hid (a7.trans (KT.box (i:=0) (.slice z F A)));clear a9 hn a2 a7 a6 a0 V a1 a8 a4 a5 H Z U I J T hl M O;go_enter Tryz.func32,Tryz.ntmps32;go_wp2_with fail
 go_region_law (refine xC rfl (.tmp 10) (.tmp 12) 67 rfl (.slice a n c) (.slice (some ⟨w.heap.size+1,0,none⟩) 1 1) (.slice z F A) G (by simp[qC]) (by simp[qC]) b2 ?_)
 all_goals
  go_wp2_with fail
  go_end0
  exact⟨rfl,⟨_,HA.out,HO.out⟩,HB.out,HK.out⟩
theorem aQ9 (p B:Nat) (z:List (List Bool)) (l:List Bool) (w:World) (h:WrL w p B z) (H:p<B) (hB:B<=w.heap.size) (hl:z.length<=1000000) (S:ByteArray) (Y:S=mkS (aD l)) (L:Int) (Z:L=(l.length:Int)):
  ∃(a:Option Addr) (n c:Nat) (A:Option Addr) (F E:Nat) (d:World),
   (tT #[67,67] 67 #[.slice a n c,.slice (some ⟨w.heap.size+1,0,none⟩) 1 1]).run Tryz.prog ((w.alloc (.cells #[.string S,.int .i64 L] 29)).alloc (.cells #[.string S,.int .i64 L] 29)).drew=.ok (.slice A F E) d/\
   w.cell? ⟨p,0,none⟩=some (.slice a n c)/\(w.alloc (.cells #[.string S,.int .i64 L] 29)).cell? ⟨p,0,none⟩=some (.slice a n c)/\
   ((w.alloc (.cells #[.string S,.int .i64 L] 29)).alloc (.cells #[.string S,.int .i64 L] 29)).cell? ⟨p,0,none⟩=some (.slice a n c)/\
   d.cell? ⟨p,0,none⟩=some (.slice a n c)/\d.frozen? ⟨p,0,none⟩=false/\
   WrL (d.setCell ⟨p,0,none⟩ (.slice A F E)) p B (z++[l])/\Below p w (d.setCell ⟨p,0,none⟩ (.slice A F E)):=by
 obtain⟨v,I,J⟩:=h;have a0:kH l=[.string S,.int .i64 L]:=by rw[Y,Z];rfl
 have M:Arr (w.alloc (.cells #[.string S,.int .i64 L] 29)).drew p 69 [v]:=I.alloc _;have a1:gG (w.alloc (.cells #[.string S,.int .i64 L] 29)).drew B v z:=J.alloc _;have O:(w.alloc (.cells #[.string S,.int .i64 L] 29)).drew.heap.size=w.heap.size+1:=by simp
 have a2:Below p w (w.alloc (.cells #[.string S,.int .i64 L] 29)).drew:=((aB p w).alloc (by omega) _).drew;have a4:Arr ((w.alloc (.cells #[.string S,.int .i64 L] 29)).drew.alloc (.cells #[.string S,.int .i64 L] 29)) (w.heap.size+1) 29 (kH l):=by
  rw[a0,<-O];exact Arr.new _ _ _
 have T:=M.alloc (.cells #[.string S,.int .i64 L] 29);obtain⟨v3,d,hr,U,V,-⟩:=aAi (w:=(w.alloc (.cells #[.string S,.int .i64 L] 29)).drew.alloc (.cells #[.string S,.int .i64 L] 29)) 67 B v z l (a1.alloc _) (w.heap.size+1) a4 (by omega) (by rw[fV,O];omega);have G:=T.below V H;have a5:Below p w d:=(a2.alloc (by omega) _).trans (V.mono (by omega));obtain⟨A,E,rfl,-⟩:=U.rd;obtain⟨a,c,rfl,-⟩:=J.rd
 exact⟨a,_,c,A,_,E,d,hr,I.cell (i:=0) rfl,M.cell (i:=0) rfl,T.cell (i:=0) rfl,G.cell (i:=0) rfl,G.free 0,⟨_,G.set 0 _,aCj U (a:=⟨p,0,none⟩) H _⟩,a5.setCell (p:=⟨p,0,none⟩) (aA _) _⟩
theorem zW (p B:Nat) (z:List (List Bool)) (v n:Nat) (w:World) (h:WrL w p B z) (V:p<B) (Y:B<=w.heap.size) (I:z.length<=1000000) (Z:v<18446744073709551616) (hn:n<=64):
  Calls Tryz.prog 31 #[.pointer (some ⟨p,0,none⟩),.int .u64 (v:Int),.int .i64 (n:Int)] w fun e w'=>e=.returned (.tuple #[])/\WrL w' p B (z++[aY v n])/\Below p w w':=by
 obtain⟨l,E⟩:∃l,l=aY v n:=⟨_,rfl⟩;rw[<-E];obtain⟨S,F⟩:∃S,S=mkS (aD l):=⟨_,rfl⟩;obtain⟨L,G⟩:∃L,L=(l.length:Int):=⟨_,rfl⟩;have J:∀W,Calls Tryz.prog 75 #[.agg #[.string ⟨#[]⟩,.int .i64 0],.int .u64 (v:Int),.int .i64 (n:Int)] W fun e w'=>e=.returned (.tuple #[.agg #[.string S,.int .i64 L],.int .i64 0])/\Below W.heap.size W w':=fun W=>by
  have:=uH [] v n W Z hn (by simp);rw[List.nil_append,<-E] at this;rw[F,G];exact this
 have H:∀W,Below w.heap.size w W->WrL W p B z/\B<=W.heap.size:=fun W d=>by
  obtain⟨u,h1,h2⟩:=h;exact⟨⟨u,h1.below d (by omega),h2.below d (aA _)⟩,by have:=d.size;omega⟩
 have M:=fun W (d:Below w.heap.size w W)=>aQ9 p B z l W (H W d).1 V (H W d).2 I S F L G
 have a0:p<w.heap.size:=by omega
 clear H h F G E I Y;go_enter Tryz.func31,Tryz.ntmps31;go_wp2_with fail;refine(J _).mono ?_;rintro e A ⟨rfl,O⟩;obtain⟨a,n1,c,a3,n3,c3,w3,a1,c0,ca,cb,a5,f3,T,U⟩:=M A O;have a2:=hid ((O.mono (sK a0)).trans U);have a4:=hid T;have b0:=(Arr.new A 29 [.string S,.int .i64 L]).cell (i:=0) rfl;have b1:=(Arr.new A 29 [.string S,.int .i64 L]).cell (i:=1) rfl;clear M J U T;go_wp2_with fail
 go_region_law (refine xC rfl (.tmp 19) (.tmp 21) 67 rfl (.slice a n1 c) (.slice (some ⟨A.heap.size+1,0,none⟩) 1 1) (.slice a3 n3 c3) w3 (by simp[qC]) (by simp[qC]) a1 ?_)
 all_goals
  go_wp2_with fail
  go_end0
  exact⟨rfl,a4.out,a2.out⟩
theorem aA2 (d A z E:Int) (W:World):
  Calls Tryz.prog 193 #[.agg #[.int .i64 d,.int .i64 A],.agg #[.int .i64 z,.int .i64 E]] W fun e w'=>e=.returned (.bool (decide (ahd (d,A) (z,E))))/\Below W.heap.size W w':=by
 have F:=(Arr.new W 236 [.int .i64 d,.int .i64 A]).alloc (.cells #[.int .i64 z,.int .i64 E] 236);have I:Arr ((W.alloc (.cells #[.int .i64 d,.int .i64 A] 236)).alloc (.cells #[.int .i64 z,.int .i64 E] 236)) (W.heap.size+1) 236 [.int .i64 z,.int .i64 E]:=by
  rw[show W.heap.size+1=(W.alloc (.cells #[.int .i64 d,.int .i64 A] 236)).heap.size by simp];exact Arr.new _ _ _
 change Arr ((W.alloc (.cells #[.int .i64 d,.int .i64 A] 236)).alloc (.cells #[.int .i64 z,.int .i64 E] 236)) _ _ _ at F;have M:=F.cell (i:=0) rfl;have O:=F.cell (i:=1) rfl;have T:=I.cell (i:=0) rfl;have U:=I.cell (i:=1) rfl;have G:=hid (bD (bD (aB W.heap.size W) (.cells #[.int .i64 d,.int .i64 A] 236)) (.cells #[.int .i64 z,.int .i64 E] 236));clear F I;rcases Int.lt_trichotomy d z with h|h|h
 ·have J:decide (d<z)=true:=decide_eq_true h;rw[decide_eq_true (show ahd (d,A) (z,E) from .inl h)];go_enter Tryz.func193,Tryz.ntmps193;go_wp2_with fail;go_ret;exact⟨rfl,G.out⟩
 ·subst h;have J:decide (d<d)=false:=decide_eq_false (by omega)
  by_cases H:A<E
  ·have L:decide (A<E)=true:=decide_eq_true H;rw[decide_eq_true (show ahd (d,A) (d,E) from .inr ⟨rfl,H⟩)];go_enter Tryz.func193,Tryz.ntmps193;go_wp2_with fail;go_ret;exact⟨rfl,G.out⟩
  ·have L:decide (A<E)=false:=decide_eq_false H;rw[decide_eq_false (show ¬ahd (d,A) (d,E) from fun k=>k.elim (fun q=>absurd q (by simp)) (fun q=>H q.2))];go_enter Tryz.func193,Tryz.ntmps193;go_wp2_with fail;go_ret;exact⟨rfl,G.out⟩
 ·have J:decide (d<z)=false:=decide_eq_false (by omega);have L:(d==z)=false:=beq_false_of_ne (by omega);have V:decide (d=z)=false:=decide_eq_false (by omega);rw[decide_eq_false (show ¬ahd (d,A) (z,E) from fun k=>k.elim (fun q=>absurd q (show ¬d<z by omega)) (fun q=>absurd q.1 (show ¬d=z by omega)))];go_enter Tryz.func193,Tryz.ntmps193;go_wp2_with fail;go_ret;exact⟨rfl,G.out⟩
theorem OwI.zero (w:World) (B:Nat) (d:B<=w.heap.size):OwI (w.alloc (.cells #[] 3)) B (.slice (some ⟨w.heap.size,0,none⟩) 0 0) []:=
 ⟨rfl,.inr ⟨w.heap.size,0,#[],rfl,d,(by show(w.heap.push _)[w.heap.size]? =_;simp),aA _,by simp[maxLen],by simp,by simp⟩⟩
theorem aA3 (v:Value) (l:List Int) (w:World) (d:RdI w v l) (A:0<l.length) (M:l.length<=1000000):
  Calls Tryz.prog 94 #[v] w fun e w'=>∃z,e=.returned z/\OwI w' w.heap.size z l/\Below w.heap.size w w':=by
 have F:=d;obtain⟨a,G,rfl,O,H,E⟩:=d.open;unfold maxLen at H;obtain⟨b,off,rfl,T,I⟩:=E A;have U:(binOp .eql 27 (.slice (some ⟨b,off,none⟩) l.length G) (.slice none 0 0)).run Tryz.prog w=.ok (.bool false) w:=Go.Lib.run_eql_slice_nil w _ _ _ _ _ _ _ Tryz.underlying27;clear E I d;go_enter Tryz.func94,Tryz.ntmps94;go_wp2_with (at_builtin;refine kG rfl _ _ rfl w.heap.size _ [] l rfl (OwI.zero w _ (aA _)) _ rfl (F.below (bD (aB _ _) _)) A ?_ ?_ ?_;(simp;omega);(simp);intro z w' J L V Y);go_ret;exact⟨_,rfl,by simpa using J,(bD (aB _ _) _).trans L⟩
theorem aRb (M q:Nat):(M:Int)/2^q=((M/2^q:Nat):Int):=by
 rw[Int.natCast_ediv,Int.natCast_pow];rfl
theorem aRc (n:Nat) (w:World) (F:1<=n) (G:n<=64):
  Calls Tryz.prog 79 #[.int .i64 (n:Int)] w fun e w'=>e=.returned (.int .u64 ((2^n-1:Nat):Int))/\w'=w:=by
 obtain⟨q,d⟩:∃q:Nat,q=64-n:=⟨_,rfl⟩;have H:aI.wrap (64-(n:Int))=(q:Int):=by rw[aM];omega
 have I:(0:Int)<=(q:Int):=by omega
 have J:¬(q:Int)<0:=by omega
 have z:=hid (show 18446744073709551615/2^q=2^n-1 by
  have A:0<2^q:=Nat.two_pow_pos q;have e:2^n*2^q=18446744073709551616:=by rw[<-Nat.pow_add,show n+q=64 by omega]
  have E:0<2^n:=Nat.two_pow_pos n;rw[show 18446744073709551615=(2^q-1)+(2^n-1)*2^q by rw[Nat.sub_mul,e];have:=Nat.le_mul_of_pos_left (2^q) E;omega];rw[Nat.add_mul_div_right _ _ A,Nat.div_eq_of_lt (by omega),iZ])
 go_enter Tryz.func79,Tryz.ntmps79;go_wp2_with fail;go_ret;exact⟨fX (by rw[<-z.out,d];exact aRb 18446744073709551615 (64-n)),rfl⟩
theorem aRd (a:Option Addr) (n c:Nat) (w:World):
  Calls Tryz.prog 93 #[.slice a n c,.int .i64 10] w fun e w'=>
   e=.returned (.func (.func 150) #[] #[.pointer (some ⟨w.heap.size,0,none⟩),.pointer (some ⟨w.heap.size+1,0,none⟩)])/\w'=(w.alloc (.cells #[.slice a n c] 27)).alloc (.cells #[.int .i64 10] 3):=by
 have d:Arr ((w.alloc (.cells #[.slice a n c] 27)).alloc (.cells #[.int .i64 10] 3)) (w.heap.size+1) 3 [.int .i64 10]:=by
  rw[show w.heap.size+1=(w.alloc (.cells #[.slice a n c] 27)).heap.size by simp];exact Arr.new _ _ _
 have z:=d.cell (i:=0) rfl;clear d;go_enter Tryz.func93,Tryz.ntmps93;go_wp2_with fail;go_ret;exact⟨rfl,rfl⟩
theorem aRe (s:ByteArray) (a n:Int) (w:World):
  Calls Tryz.prog 78 #[.string s,.int .i64 a,.int .i64 n] w fun e w'=>
   e=.returned (.func (.func 143) #[] #[.pointer (some ⟨w.heap.size+1,0,none⟩),.pointer (some ⟨w.heap.size+1+1,0,none⟩),.pointer (some ⟨w.heap.size,0,none⟩)])/\
   w'=((w.alloc (.cells #[.string s] 9)).alloc (.cells #[.int .i64 a] 3)).alloc (.cells #[.int .i64 n] 3):=by
 go_enter Tryz.func78,Tryz.ntmps78;go_wp2_with fail;go_ret;exact⟨rfl,rfl⟩
abbrev pr (q:Int×Int):VV:=(.int .i64 q.1,.int .i64 q.2)
theorem aA4:∀(L:List VV) (i:Nat) (a b:Value),i<L.length->((prC L).set (i*2) a).set (i*2+1) b=prC (L.set i (a,b))
 |[],i,a,b,h=>by simp at h
 |x::L,0,a,b,_=>rfl
 |x::L,i+1,a,b,h=>by
  have d:=aA4 L i a b (by simpa using h);have e:prC (x::L)=x.1::x.2::prC L:=rfl;rw[e,show(i+1)*2=i*2+2 by omega,aG,aG,aG,aG,d];rfl
theorem aRj:El2 Tryz.prog 238 236 16 (.agg #[.int .i64 0,.int .i64 0]):=El2.mk' (by kernel_rfl) Tryz.underlying238 rfl (by decide)
def eT (w:World) (g:Nat) (l:List (Int×Int)) (R:List Value):Prop:=Arr w g 236 (prC (l.map pr)++R)
theorem tK (l:List (Int×Int)):(prC (l.map pr)).length=l.length*2:=by rw[JK,bJ]
theorem eT.cells {w:World} {g:Nat} {l:List (Int×Int)} {R:List Value} (h:eT w g l R) {i:Nat} (hi:i<l.length):
  w.cell? ⟨g,i*2,none⟩=some (.int .i64 (l.getD i (0,0)).1)/\w.cell? ⟨g,i*2+1,none⟩=some (.int .i64 (l.getD i (0,0)).2):=by
 have d:(l.map pr)[i]? =some (pr (l.getD i (0,0))):=by rw[dY,aN hi,aV,aN hi];rfl
 obtain⟨z,A⟩:=CQ _ _ _ d;have E:=tK l;exact⟨Arr.cell h (by rw[gS (by omega)];exact z),Arr.cell h (by rw[gS (by omega)];exact A)⟩
theorem eT.put {w:World} {g:Nat} {l:List (Int×Int)} {R:List Value} (h:eT w g l R) {i:Nat} (hi:i<l.length) (x:Int×Int):
  eT ((w.setCell ⟨g,i*2,none⟩ (.int .i64 x.1)).setCell ⟨g,i*2+1,none⟩ (.int .i64 x.2)) g (l.set i x) R:=by
 have:=(Arr.set h (i*2) (.int .i64 x.1)).set (i*2+1) (.int .i64 x.2);have d:=tK l;rw[aC4 _ _ (by omega),aC4 _ _ (by rw[mW];omega),aA4 _ _ _ _ (by rw[bJ];exact hi)] at this;unfold eT;rw[List.map_set];exact this
theorem eT.swap {w:World} {g:Nat} {l:List (Int×Int)} {R:List Value} (h:eT w g l R) {i j:Nat} (hi:i<l.length) (d:j<l.length):
  eT ((((w.setCell ⟨g,i*2,none⟩ (.int .i64 (l.getD j (0,0)).1)).setCell ⟨g,i*2+1,none⟩ (.int .i64 (l.getD j (0,0)).2)).setCell ⟨g,j*2,none⟩ (.int .i64 (l.getD i (0,0)).1)).setCell ⟨g,j*2+1,none⟩ (.int .i64 (l.getD i (0,0)).2)) g (mR l i j) R:=
 (h.put hi (l.getD j (0,0))).put (by rw[mW];exact d) (l.getD i (0,0))
abbrev oE:Value:=.func (.func 193) #[] #[]
def QU (w:World) (p B:Nat) (l:List (Int×Int)):Prop:=∃v,Arr w p 240 [v,oE]/\OwP w B 236 v (l.map pr)
theorem aA5 {w:World} {B:Nat} {v:Value} {l:List (Int×Int)} (h:OwP w B 236 v (l.map pr)) (I:0<l.length):∃g cap R,v=.slice (some ⟨g,0,none⟩) l.length cap/\B<=g/\eT w g l R/\l.length<=cap/\cap<=maxLen/\(prC (l.map pr)++R).length=cap*2:=by
 obtain⟨J,h⟩:=h;rw[bJ] at h;rcases h with⟨rfl,L⟩|⟨g,cap,z,rfl,A,E,F,G,H,d⟩
 ·omega
 ·refine⟨g,cap,z.toList.drop (l.length*2),rfl,A,?_,F,G,?_⟩
  ·unfold eT Arr;rw[<-d,jE,Array.toArray_toList];exact E
  ·rw[<-d,jE,Array.length_toList];exact H
theorem MX {w:World} {B g cap:Nat} {l:List (Int×Int)} {R:List Value} (d:eT w g l R) (z:B<=g) (A:l.length<=cap) (E:cap<=maxLen) (F:(prC (l.map pr)++R).length=cap*2):OwP w B 236 (.slice (some ⟨g,0,none⟩) l.length cap) (l.map pr):=by
 have e:=tK l;refine⟨by rw[e,bJ],.inr ⟨g,cap,(prC (l.map pr)++R).toArray,by rw[bJ],z,d,by rw[bJ];exact A,E,by simpa using F,?_⟩⟩;rw[bJ];show(prC (l.map pr)++R).take (l.length*2)=_;rw[<-e,List.take_left'];rfl
def KQ (p:Nat) (w w':World):Prop:=w.heap.size<=w'.heap.size/\∀k o,w.heap[k]? =some o->k≠p->(∀c d,o≠.cells c 236 d)->w'.heap[k]? =some o
theorem KQ.refl (p:Nat) (w:World):KQ p w w:=⟨aA _,fun _ _ h _ _=>h⟩
theorem KQ.trans {p:Nat} {a b c:World} (h:KQ p a b) (k:KQ p b c):KQ p a c:=⟨aW h.1 k.1,fun i o hi d z=>k.2 i o (h.2 i o hi d z) d z⟩
theorem KQ.below {p:Nat} {w w':World} (h:Below w.heap.size w w'):KQ p w w':=⟨h.size,fun k _ d _ _=>(h.block k (gQ.1 d).1).trans d⟩
theorem KQ.row {p g:Nat} {w w':World} {l:List (Int×Int)} {R:List Value} (d:eT w g l R) (h:w.grownBy w' (some g)):KQ p w w':=⟨h.size,fun k o z _ A=>by
 refine(h.block k (gQ.1 z).1 (fun e=>?_)).trans z;obtain rfl:=bW e;unfold eT Arr at d;rw[z] at d;exact A _ _ (bW d)⟩
theorem KQ.app {p B:Nat} {w w':World} {v:Value} {L:List VV} (A:OwP w B 236 v L) (h:w.grownBy w' v.ownBlock):KQ p w w':=⟨h.size,fun k o d _ E=>by
 refine(h.block k (gQ.1 d).1 (fun e=>?_)).trans d;rcases A.2 with⟨rfl,_⟩|⟨g,cap,F,rfl,_,z,_⟩
 ·cases e
 ·obtain rfl:=bW e;rw[d] at z;exact E _ _ (bW z)⟩
theorem KQ.box {p i:Nat} {w:World} (v:Value):KQ p w (w.setCell ⟨p,i,none⟩ v):=⟨by simp,fun k o d z _=>by rw[kT w ⟨p,i,none⟩ k v z];exact d⟩
theorem KQ.arr {p b e:Nat} {w w':World} {l:List Value} (h:KQ p w w') (d:Arr w b e l) (z:b≠p) (A:e≠236):Arr w' b e l:=h.2 b _ d z (fun c E q=>by injection q with _ q2;exact A q2)
theorem aRk (p B:Nat) (l:List (Int×Int)) (x:Int×Int) (w:World) (h:QU w p B l) (Y:p<B) (hB:B<=w.heap.size) (hl:l.length<=1000000):
  ∃(a:Option Addr) (n c g cap:Nat) (R:List Value) (d:World),
   (tT #[238,238] 238 #[.slice a n c,.slice (some ⟨w.heap.size+1,0,none⟩) 1 1]).run Tryz.prog ((w.alloc (.cells #[.int .i64 x.1,.int .i64 x.2] 236)).alloc (.cells #[.int .i64 x.1,.int .i64 x.2] 236)).drew=.ok (.slice (some ⟨g,0,none⟩) (l.length+1) cap) d/\
   w.cell? ⟨p,0,none⟩=some (.slice a n c)/\(w.alloc (.cells #[.int .i64 x.1,.int .i64 x.2] 236)).cell? ⟨p,0,none⟩=some (.slice a n c)/\
   ((w.alloc (.cells #[.int .i64 x.1,.int .i64 x.2] 236)).alloc (.cells #[.int .i64 x.1,.int .i64 x.2] 236)).cell? ⟨p,0,none⟩=some (.slice a n c)/\
   d.cell? ⟨p,0,none⟩=some (.slice a n c)/\d.frozen? ⟨p,0,none⟩=false/\
   Arr (d.setCell ⟨p,0,none⟩ (.slice (some ⟨g,0,none⟩) (l.length+1) cap)) p 240 [.slice (some ⟨g,0,none⟩) (l.length+1) cap,oE]/\
   eT (d.setCell ⟨p,0,none⟩ (.slice (some ⟨g,0,none⟩) (l.length+1) cap)) g (l++[x]) R/\B<=g/\l.length+1<=cap/\cap<=maxLen/\(prC ((l++[x]).map pr)++R).length=cap*2/\
   Below p w (d.setCell ⟨p,0,none⟩ (.slice (some ⟨g,0,none⟩) (l.length+1) cap))/\KQ p w (d.setCell ⟨p,0,none⟩ (.slice (some ⟨g,0,none⟩) (l.length+1) cap)):=by
 obtain⟨v,E,F⟩:=h;obtain⟨o,G⟩:∃o:Obj,o=.cells #[.int .i64 x.1,.int .i64 x.2] 236:=⟨_,rfl⟩;rw[<-G];have H:Arr (w.alloc o).drew p 240 [v,oE]:=E.alloc _;have I:OwP (w.alloc o).drew B 236 v (l.map pr):=F.alloc _;have J:(w.alloc o).drew.heap.size=w.heap.size+1:=by simp
 have Z:Below w.heap.size w (w.alloc o).drew:=((aB _ w).alloc (aA _) _).drew;have z:=kK.new (w.alloc o).drew 236 (pr x);rw[J] at z;have L:=H.alloc o;obtain⟨v3,d,M,O,T,a0⟩:=JL aRj (w:=(w.alloc o).drew.alloc o) 238 B v (l.map pr) (I.alloc o) _ [pr x] (by rw[G] at z ⊢;exact z) (fun q hq=>by obtain rfl:=dC.1 hq;exact⟨rfl,rfl⟩) (by simp;omega) (by rw[fV,J];omega);have A:=L.below T Y;have U:Below w.heap.size w ((w.alloc o).drew.alloc o):=Z.alloc (by omega) _;have a1:Below p w d:=(U.mono (by omega)).trans (T.mono (by omega))
 have a2:KQ p w d:=(KQ.below U).trans (KQ.app (I.alloc o) a0);rw[show l.map pr++[pr x]=(l++[x]).map pr by simp] at O;obtain⟨g,cap,R,rfl,a3,hR,V,hm,a4⟩:=aA5 O (by simp);have e1:(l++[x]).length=l.length+1:=by simp
 rw[e1] at M V;obtain⟨a,c,rfl,_⟩:=F.src.open;have a5:g≠p:=by omega
 exact⟨a,_,c,g,cap,R,d,M,E.cell (i:=0) rfl,H.cell (i:=0) rfl,L.cell (i:=0) rfl,A.cell (i:=0) rfl,A.free 0,A.set 0 _,Arr.other hR ⟨p,0,none⟩ (fun e=>a5 e.symm) _,a3,V,hm,a4,a1.setCell (p:=⟨p,0,none⟩) (aA _) _,a2.trans (KQ.box _)⟩
theorem aA6 {d z w0:World} {A E F G H I:Addr} {v1 v2 v3 v4 v5 v6:Value}
  (h:d.cell? A=some v1/\d.cell? E=some v2/\d.cell? F=some v3/\d.cell? G=some v4/\d.cell? H=some v5/\d.cell? I=some v6/\Below w0.heap.size w0 d) (J:Below d.heap.size d z):
  z.cell? A=some v1/\z.cell? E=some v2/\z.cell? F=some v3/\z.cell? G=some v4/\z.cell? H=some v5/\z.cell? I=some v6/\Below w0.heap.size w0 z:=by
 obtain⟨O,T,U,V,Y,Z,L⟩:=h;have k:∀{p:Addr} {v:Value},d.cell? p=some v->z.cell? p=some v:=fun{p} {v} M=>(J.cell (World.block_lt_of_cell? d p M)).trans M
 exact⟨k O,k T,k U,k V,k Y,k Z,L.trans (J.mono L.size)⟩
theorem aRl {l:List (Int×Int)} {i j:Nat} (d:j<i) (hi:i<l.length):(mR l i j).Perm l:=by
 have e:mR l i j=mR l j i:=by
  unfold mR;rw[List.set_comm _ _ (by omega)]
 rw[e];exact aA1 d hi
theorem aRm (p B:Nat) (l:List (Int×Int)) (x:Int×Int) (w:World) (h:QU w p B l) (hh:nN l) (hp:p<B) (hB:B<=w.heap.size) (hl:l.length<=1000000):
  Calls Tryz.prog 194 #[.pointer (some ⟨p,0,none⟩),.agg #[.int .i64 x.1,.int .i64 x.2]] w fun e w'=>e=.returned (.tuple #[])/\(∃l',QU w' p B l'/\nN l'/\l'.Perm (l++[x]))/\Below p w w'/\KQ p w w':=by
 obtain⟨a,n,c,g,cap,R,w3,a0,c0,ca,cb,c3,f3,z,d,b7,a1,b8,a7,F,H⟩:=aRk p B l x w h hp hB hl;have hU:=hid (pA.start hh x);have HP:=hid (xP (l++[x]));have a2:=hid (show(l++[x]).length=l.length+1 by simp);obtain⟨I,b9⟩:∃I,I=l++[x]:=⟨_,rfl⟩;rw[<-b9] at hU HP a2 d a7 ⊢;have c1:=hid (show ∀L:List (Int×Int),L.length=I.length->(prC (L.map pr)++R).length=cap*2 from fun L hL=>by
  rw[<-a7,aL,aL,tK,tK,hL])
 have c2:=hid b8;have x0:=(Arr.new w 236 [.int .i64 x.1,.int .i64 x.2]).cell (i:=0) rfl;have x1:=(Arr.new w 236 [.int .i64 x.1,.int .i64 x.2]).cell (i:=1) rfl;obtain⟨k,hk⟩:∃k,k=l.length:=⟨_,rfl⟩;rw[<-hk] at a0 z d a1 hl F H a2 hU;obtain⟨N,hN⟩:∃N,N=k+1:=⟨_,rfl⟩;rw[<-hN] at a0 z d a1 F H a2;have m0:aI.wrap ((N:Int)-1)=(k:Int):=by rw[aM];omega
 have d6:(N:Int)-1=(k:Int):=by omega
 have e5:N<=1000001:=by omega
 have HN:=hid hN;clear hh h b9 hk a7 b8 hN;go_enter Tryz.func194,Tryz.ntmps194;go_wp2_with fail
 go_region_law (refine xC rfl (.tmp 10) (.tmp 12) 238 rfl (.slice a n c) (.slice (some ⟨w.heap.size+1,0,none⟩) 1 1) (.slice (some ⟨g,0,none⟩) N cap) w3 (by simp[qC]) (by simp[qC]) a0 ?_)
 all_goals
  have d0:=z.cell (i:=0) rfl;have c4:=F.size;clear a0 c0 ca cb c3 f3 x0 x1;generalize w3.setCell ⟨p,0,none⟩ (.slice (some ⟨g,0,none⟩) N cap)=W at*
  go_wp2_with fail
  go_loopg [4,5] k (fun gm s4 _s5 wr=>∃(i:Nat) (L:List (Int×Int)),gm=i/\s4=.int .i64 (i:Int)/\i<N/\L.length=I.length/\Arr wr p 240 [.slice (some ⟨g,0,none⟩) N cap,oE]/\eT wr g L R/\pA L i/\L.Perm I/\Below p w wr/\KQ p w wr)
  case atStart=>exact⟨k,I,rfl,rfl,by have:=HN.out;omega,rfl,z,d,hU.out,HP.out,F,H⟩
  case round=>
   clear d0 z d F H c4 m0 d6;obtain⟨i,L,hg,rfl,d7,a8,z,d,c5,c6,F,H⟩:=hrel;have HG:=hid hg;have HL:=hid a8;have J:=hid (a8.trans a2.out);have HU:=hid c5;have a9:=hid c6;have c4:=F.size;have d8:g<wr.heap.size:=Arr.lt d;clear hg a8 c5 c6
   by_cases hi0:0<i
   ·obtain⟨u,hu⟩:∃u,u=(i-1)/2:=⟨_,rfl⟩;have b0:=hid hu;have d9:u<i:=by omega
    have u1:decide ((i:Int)>0)=true:=decide_eq_true (by omega);have u2:decide (0<(i:Int))=true:=decide_eq_true (by omega);have m1:aI.wrap ((i:Int)-1)=(i:Int)-1:=by rw[aM];omega
    have m2:((i:Int)-1).tdiv 2=(u:Int):=by rw[Int.tdiv_eq_ediv_of_nonneg (by omega)];omega
    have m3:aI.wrap (((i:Int)-1).tdiv 2)=(u:Int):=by rw[m2,aM];omega
    have m4:aI.wrap (u:Int)=(u:Int):=by rw[aM];omega
    have b1:i<L.length:=by rw[J.out];exact d7
    have b2:u<L.length:=by omega
    obtain⟨M,O⟩:=d.cells b1;obtain⟨U,V⟩:=d.cells b2;obtain⟨A,b3⟩:∃y,y=L.getD i (0,0):=⟨_,rfl⟩;obtain⟨E,b4⟩:∃y,y=L.getD u (0,0):=⟨_,rfl⟩;rw[<-b3] at M O;rw[<-b4] at U V;have a3:=hid b3;have a4:=hid b4;have a5:=hid b1;have c7:=hid b2;have d0:=z.cell (i:=0) rfl;have d1:=z.cell (i:=1) rfl;have q1:(i:Int)<(N:Int):=by omega
    have q2:(u:Int)<(N:Int):=by omega
    have q3:(0:Int)<=(i:Int):=by omega
    have q4:(0:Int)<=(u:Int):=by omega
    have e1:u<N:=by omega
    have e2:wr.drew.cell? ⟨p,0,none⟩=some (.slice (some ⟨g,0,none⟩) N cap)/\wr.drew.cell? ⟨p,1,none⟩=some oE/\wr.drew.cell? ⟨g,i*2,none⟩=some (.int .i64 A.1)/\wr.drew.cell? ⟨g,i*2+1,none⟩=some (.int .i64 A.2)/\wr.drew.cell? ⟨g,u*2,none⟩=some (.int .i64 E.1)/\wr.drew.cell? ⟨g,u*2+1,none⟩=some (.int .i64 E.2)/\Below wr.heap.size wr wr.drew:=⟨d0,d1,M,O,U,V,(aB _ _).drew⟩;obtain⟨T,hT⟩:∃T,T=decide (ahd A E):=⟨_,rfl⟩;have c8:∀W,Calls Tryz.prog 193 #[.agg #[.int .i64 A.1,.int .i64 A.2],.agg #[.int .i64 E.1,.int .i64 E.2]] W fun e w'=>e=.returned (.bool T)/\Below W.heap.size W w':=fun W=>by
     rw[hT];exact aA2 A.1 A.2 E.1 E.2 W
    have HT:=hid hT;clear hu b1 b2 b3 b4 hT d0 d1 M O U V;go_wp2_with fail
    go_region_held3 (fun w'=>w'.cell? ⟨p,0,none⟩=some (.slice (some ⟨g,0,none⟩) N cap)/\w'.cell? ⟨p,1,none⟩=some oE/\w'.cell? ⟨g,i*2,none⟩=some (.int .i64 A.1)/\w'.cell? ⟨g,i*2+1,none⟩=some (.int .i64 A.2)/\w'.cell? ⟨g,u*2,none⟩=some (.int .i64 E.1)/\w'.cell? ⟨g,u*2+1,none⟩=some (.int .i64 E.2)/\Below wr.heap.size wr w')
     (first
      |with_reducible assumption
      |with_reducible exact aA6 (by assumption) (by assumption))
     (first
      |(go_at_call 193;refine(c8 _).mono ?_;rintro e w6 ⟨rfl,c9⟩))
    all_goals
     have Y:Below wr.heap.size wr w6:=(aB _ wr).drew.trans c9;have a6:=z.below Y (by omega);have G:eT w6 g L R:=Arr.below d Y d8;have d2:=F.trans (Y.mono (by omega));have d3:=H.trans (KQ.below Y);clear e2 c9 Y z d F H c8
     cases T with
     |true=>
      have e0:=a6.cell (i:=0) rfl;obtain⟨M,O⟩:=G.cells a5.out;obtain⟨U,V⟩:=G.cells c7.out;rw[<-a3.out] at M O;rw[<-a4.out] at U V;have e6:=Arr.free G (i*2);have e7:=Arr.free G (i*2+1);have e8:=Arr.free G (u*2);have e9:=Arr.free G (u*2+1);have b5:=hid (of_decide_eq_true HT.out.symm);go_wp2_with fail
      go_region
      all_goals
       go_wp2_with fail;have hg:=HG.out
       go_roundg u
       case measure=>omega
       case rel=>
        have d4:=G.swap a5.out c7.out;rw[<-a3.out,<-a4.out] at d4;have d5:=HU.out.step hi0 a5.out (by rw[<-b0.out,<-a3.out,<-a4.out];exact b5.out);rw[<-b0.out] at d5;have e3:w6.grownBy w6.drew (some g):=nC ⟨rfl,rfl,rfl,aA _,fun _ _ _=>rfl⟩;have b6:=dS (dS (dS (dS e3 (eM _ g (i*2) (.int .i64 E.1))) (eM _ g (i*2+1) (.int .i64 E.2))) (eM _ g (u*2) (.int .i64 A.1))) (eM _ g (u*2+1) (.int .i64 A.2))
        exact⟨u,_,rfl,rfl,e1,(xG _ _ _).trans HL.out,a6.grown b6 (by simp;omega),d4,d5,(aRl d9 a5.out).trans a9.out,d2.grown b6 (sK a6.lt) (fun k hk=>by obtain rfl:=bW hk;omega),d3.trans (KQ.row G b6)⟩
     |false=>
      have b5:=hid (of_decide_eq_false HT.out.symm);go_wp2_with fail;refine⟨rfl,_,qX rfl _ _ _,?_⟩;have Z:=MX G b7 (by rw[J.out];exact a1) c2.out (c1.out L HL.out);rw[J.out] at Z;exact⟨rfl,⟨L,⟨_,a6,Z⟩,HU.out.stop (by rw[<-b0.out,<-a3.out,<-a4.out];exact b5.out),a9.out⟩,d2,d3⟩
   ·have u1:decide ((i:Int)>0)=false:=decide_eq_false (by omega);have u2:decide (0<(i:Int))=false:=decide_eq_false (by omega);have e4:=hid (show i=0 by omega);go_wp2_with fail;refine⟨rfl,_,qX rfl _ _ _,?_⟩;have Z:=MX d b7 (by rw[J.out];exact a1) c2.out (c1.out L HL.out);rw[J.out] at Z;exact⟨rfl,⟨L,⟨_,z,Z⟩,(e4.out▸HU.out:pA L 0).top,a9.out⟩,F,H⟩
theorem aRn:(Tryz.prog.info? 236).map (·.size)=some 2:=by kernel_rfl
theorem eT.take {w:World} {g:Nat} {l:List (Int×Int)} {R:List Value} (h:eT w g l R) (m:Nat):eT w g (l.take m) (prC ((l.drop m).map pr)++R):=by
 unfold eT at h ⊢;rw[<-List.append_assoc,<-RK,<-fI,jE];exact h
theorem KQ.tree {p b:Nat} {w w':World} {l:List Value} (d:Arr w b 236 l) (h:w.grownBy w' (some b)):KQ p w w':=⟨h.size,fun k o z _ A=>by
 refine(h.block k (gQ.1 z).1 (fun e=>?_)).trans z;obtain rfl:=bW e;unfold Arr at d;rw[z] at d;exact A _ _ (bW d)⟩
theorem eT.grown {w w':World} {g z:Nat} {l:List (Int×Int)} {R:List Value} (h:eT w g l R) (d:w.grownBy w' (some z)) (A:g≠z):eT w' g l R:=Arr.grown h d (fun e=>A (bW e))
def Fst (L:List (Int×Int)) (i m k f:Nat):Prop:=(f=i\/(0<f/\f<m/\(f-1)/2=i/\ahd (L.getD f (0,0)) (L.getD i (0,0))))/\(∀j,0<j->j<m->(j-1)/2=i->j<k->¬ahd (L.getD j (0,0)) (L.getD f (0,0)))
theorem Fst.start (L:List (Int×Int)) (i m:Nat):Fst L i m (2*i+1) i:=⟨.inl rfl,fun j d _ z A=>by omega⟩
theorem Fst.yes {L:List (Int×Int)} {i m k f:Nat} (h:Fst L i m k f) (z:k<m) (G:2*i+1<=k) (H:k<=2*i+2) (d:ahd (L.getD k (0,0)) (L.getD f (0,0))):Fst L i m (k+1) k:=by
 refine⟨.inr ⟨by omega,z,by omega,?_⟩,fun j A E F I=>?_⟩
 ·rcases h.1 with rfl|⟨_,_,_,J⟩
  ·exact d
  ·unfold ahd at*;omega
 ·by_cases e:j=k
  ·subst e;unfold ahd;omega
  ·exact FC (FD d) (h.2 j A E F (by omega))
theorem Fst.no {L:List (Int×Int)} {i m k f:Nat} (h:Fst L i m k f) (d:¬ahd (L.getD k (0,0)) (L.getD f (0,0))):Fst L i m (k+1) f:=
 ⟨h.1,fun j z A E F=>by
  by_cases e:j=k
  ·subst e;exact d
  ·exact h.2 j z A E (by omega)⟩
theorem Fst.all {L:List (Int×Int)} {i m k f:Nat} (h:Fst L i m k f) (E:¬(k<=2*i+2/\k<m)):∀j,0<j->j<m->(j-1)/2=i->¬ahd (L.getD j (0,0)) (L.getD f (0,0)):=
 fun j d z A=>h.2 j d z A (by omega)
structure qT (p g z2 z3 m cap:Nat) (y:Int×Int) (L:List (Int×Int)) (R:List Value) (w W:World):Prop where
 box:Arr W p 240 [.slice (some ⟨g,0,none⟩) m cap,oE]
 row:eT W g L R
 res:Arr W z2 236 [.int .i64 0,.int .i64 0]
 top:Arr W z3 236 [.int .i64 y.1,.int .i64 y.2]
 bel:Below p w W
 kq:KQ p w W
theorem qT.below {p g z A m cap:Nat} {y:Int×Int} {L:List (Int×Int)} {R:List Value} {w W E:World} (h:qT p g z A m cap y L R w W) (d:Below W.heap.size W E):qT p g z A m cap y L R w E:=
 ⟨h.box.below d h.box.lt,Arr.below h.row d (Arr.lt h.row),h.res.below d h.res.lt,h.top.below d h.top.lt,h.bel.trans (d.mono (sK h.box.lt)),h.kq.trans (KQ.below d)⟩
theorem qT.put {p g z A m cap:Nat} {y:Int×Int} {L:List (Int×Int)} {R:List Value} {w W E:World} (h:qT p g z A m cap y L R w W) (d:W.grownBy E (some g)) (I:g≠z) (J:g≠A) (M:p<g) {F:List (Int×Int)} (G:eT E g F R):qT p g z A m cap y F R w E:=
 ⟨h.box.grown d (by simp;omega),G,h.res.grown d (by simp;omega),h.top.grown d (by simp;omega),h.bel.grown d (sK h.box.lt) (fun k H=>by obtain rfl:=bW H;omega),h.kq.trans (KQ.row h.row d)⟩
theorem aRo (p B:Nat) (l:List (Int×Int)) (w:World) (h:QU w p B l) (hh:nN l) (hp:p<B) (F:0<l.length) (hl:l.length<=1000000):
  Calls Tryz.prog 195 #[.pointer (some ⟨p,0,none⟩)] w fun e w'=>e=.returned (.agg #[.int .i64 (l.getD 0 (0,0)).1,.int .i64 (l.getD 0 (0,0)).2])/\(∃l',QU w' p B l'/\nN l'/\(l.getD 0 (0,0)::l').Perm l)/\Below p w w'/\KQ p w w':=by
 obtain⟨v,hA,e6⟩:=h;obtain⟨g,cap,R,rfl,j0,hR,hc,hm,e7⟩:=aA5 e6 F;obtain⟨m,c5⟩:∃m,l.length=m+1:=⟨l.length-1,by omega⟩;have HD:=hid (sD.start hh F);have a4:=hid (aRa F);obtain⟨N,hN⟩:∃N,N=l.length:=⟨_,rfl⟩;have c6:=hid (hN.trans c5);have c7:=hid (show N<=1000000 by omega);have e8:N=m+1:=hN.trans c5;have e9:l.length-1=m:=by omega
 rw[e9] at HD a4;have c8:((l.set 0 (l.getD m (0,0))).take m).length=m:=by rw[aX,mW];omega
 have Z:=(eT.cells hR F);have b3:=(eT.cells hR (show m<l.length by omega));have c9:=fun(W:World) (hW:eT W g l R)=>(eT.put hW F (l.getD m (0,0)))
 rw[Nat.zero_mul,iZ] at Z;obtain⟨y,hy⟩:∃y,y=l.getD 0 (0,0):=⟨_,rfl⟩;obtain⟨O,f0⟩:∃y,y=l.getD m (0,0):=⟨_,rfl⟩;rw[<-hy] at Z a4 ⊢;rw[<-f0] at b3 HD c8 a4 c9;obtain⟨L3,d2⟩:∃L,L=(l.set 0 O).take m:=⟨_,rfl⟩;rw[<-d2] at HD c8 a4;obtain⟨R3,d3⟩:∃R3,R3=prC (((l.set 0 O).drop m).map pr)++R:=⟨_,rfl⟩;have j1:=hid (fun(W:World) (hW:eT W g (l.set 0 O) R)=>show eT W g L3 R3 by rw[d2,d3];exact hW.take m);have j2:=hid c9;have j3:=hid (show ∀L:List (Int×Int),L.length=m->(prC (L.map pr)++R3).length=cap*2 from fun L hL=>by
  rw[<-e7,d3,aL,aL,aL,tK,tK,tK,List.length_drop,mW];omega)
 have j4:=hid hm;have b4:p<w.heap.size:=hA.lt;have a0:g<w.heap.size:=Arr.lt hR;rw[<-hN] at hA hc;have j5:=hid c8
 --the world in which the result's box lies
 have b5:=Arr.new w 236 [.int .i64 0,.int .i64 0];have a5:=hA.alloc (.cells #[.int .i64 0,.int .i64 0] 236);have f1:=Arr.alloc hR (.cells #[.int .i64 0,.int .i64 0] 236);have a1:=bD (aB _ w) (.cells #[.int .i64 0,.int .i64 0] 236);have d4:(w.alloc (.cells #[.int .i64 0,.int .i64 0] 236)).heap.size=w.heap.size+1:=by simp
 change Arr (w.alloc (.cells #[.int .i64 0,.int .i64 0] 236)) _ _ _ at b5;clear hy f0 d2 d3 e7 hN c5 e9 c9 hm e6 hh F hA;go_enter Tryz.func195,Tryz.ntmps195;go_upto_region 1 with fail;obtain⟨A,b6⟩:∃z,z=w.heap.size:=⟨_,rfl⟩;generalize w.alloc (.cells #[.int .i64 0,.int .i64 0] 236)=W0 at*
 rw[<-b6] at b5 d4 b4 a0 a1 ⊢;have k4:=hid b6;have c0:=a5.cell (i:=0) rfl;have f2:=(a1.cell (p:=⟨g,0,none⟩) a0).trans Z.1;have f5:=(a1.cell (p:=⟨g,1,none⟩) a0).trans Z.2;have v1:(0:Int)<(N:Int):=by omega
 have v2:0<N:=by omega
 have m1:aI.wrap ((N:Int)-1)=(m:Int):=by have:=c7.out;rw[aM];omega
 have m2:(N:Int)-1=(m:Int):=by omega
 have m3:aI.wrap (m:Int)=(m:Int):=by have:=c7.out;rw[aM];omega
 have k5:=hid e8;have j6:g≠p:=by omega
 have f6:KQ p w W0:=KQ.below (b6▸a1);have f7:=a1.mono (sK b4);clear b6;have e0:=(a5.alloc (.cells #[.int .i64 0,.int .i64 0] 236)).cell (i:=0) rfl;have e1:=((bD (aB _ W0) (.cells #[.int .i64 0,.int .i64 0] 236)).cell (p:=⟨g,0,none⟩) (by show g<W0.heap.size;omega)).trans f2;have e2:=((bD (aB _ W0) (.cells #[.int .i64 0,.int .i64 0] 236)).cell (p:=⟨g,1,none⟩) (by show g<W0.heap.size;omega)).trans f5;have e3:=(a5.alloc (.cells #[.int .i64 y.1,.int .i64 y.2] 236)).cell (i:=0) rfl;clear e8 hR
 go_cut [3,4] (fun c3 c4 wx=>∃z3,c3=.pointer (some ⟨z3,0,none⟩)/\A<z3/\c4=.int .i64 (m:Int)/\qT p g A z3 N cap y l R w wx/\Below A w wx)
 case first=>
  go_region
  all_goals
   go_wp2_with fail;go_meet;rw[<-d4];refine⟨_,rfl,by omega,rfl,⟨a5.alloc _,Arr.alloc f1 _,b5.alloc _,Arr.new W0 _ _,?_,?_⟩,?_⟩
   ·exact(f7.alloc (by omega) _).drew
   ·exact f6.trans (KQ.below (bD (aB _ W0) _).drew)
   ·exact(a1.alloc (by omega) _).drew
 case rest=>
  obtain⟨z3,rfl,k6,rfl,a3,a6⟩:=hcut;clear e0 e1 e2 e3 f2 f5 a5 f1 a1 b5 f6 f7 c0 d4 m1 m2;have c0:=a3.box.cell (i:=0) rfl;have c1:=(a6.cell (p:=⟨g,m*2,none⟩) a0).trans b3.1;have c2:=(a6.cell (p:=⟨g,m*2+1,none⟩) a0).trans b3.2;have g0:=(a6.cell (p:=⟨g,0,none⟩) a0).trans Z.1;have g1:=(a6.cell (p:=⟨g,1,none⟩) a0).trans Z.2;have f3:=Arr.free a3.row 0;have f4:=Arr.free a3.row 1;clear Z b3;have v3:(m:Int)<(N:Int):=by have:=c6.out;omega
  have v4:(0:Int)<=(m:Int):=by omega
  go_wp2_with fail
  go_region
  have d5:=j2.out _ a3.row;rw[Nat.zero_mul,iZ] at d5;have I:qT p g A z3 N cap y (l.set 0 O) R w ((wc.setCell ⟨g,0,none⟩ (.int .i64 O.1)).setCell ⟨g,1,none⟩ (.int .i64 O.2)).drew:=
   a3.put (nC (dS (eM _ g 0 _) (eM _ g 1 _))) (by omega) (by omega) (by omega) d5
  generalize ((wc.setCell ⟨g,0,none⟩ (.int .i64 O.1)).setCell ⟨g,1,none⟩ (.int .i64 O.2)).drew=W2 at*
  have d0:=I.box.cell (i:=0) rfl;have fd:=I.box.free 0;have j7:m<=cap:=by have:=c6.out;omega
  have v5:(m:Int)<=(cap:Int):=by omega
  clear d5 a3 a6 c0 c1 c2 g0 g1 f3 f4 v3;go_wp2_with fail;have f8:qT p g A z3 m cap y L3 R3 w (W2.setCell ⟨p,0,none⟩ (.slice (some ⟨g,0,none⟩) m cap)):=
   ⟨I.box.set 0 _,Arr.other (j1.out _ I.row) ⟨p,0,none⟩ (fun e=>j6 e.symm) _,I.res.other ⟨p,0,none⟩ (by simp;omega) _,I.top.other ⟨p,0,none⟩ (by simp;omega) _,I.bel.setCell (p:=⟨p,0,none⟩) (aA _) _,I.kq.trans (KQ.box _)⟩
  generalize W2.setCell ⟨p,0,none⟩ (.slice (some ⟨g,0,none⟩) m cap)=W3 at*
  clear d0 fd I;have k7:m<=1000000:=by have:=c6.out;have:=c7.out;omega
  go_loopg [5,6,7] m (fun gm s5 _s6 _s7 wr=>∃(i:Nat) (L:List (Int×Int)),gm=m-i/\s5=.int .i64 (i:Int)/\(m=0\/i<m)/\i<=m/\L.length=m/\sD L i/\L.Perm L3/\qT p g A z3 m cap y L R3 w wr)
  case atStart=>exact⟨0,L3,by omega,rfl,by omega,by omega,j5.out,HD.out,xP _,f8⟩
  case round=>
   clear f8;obtain⟨i,L,U,rfl,f9,k8,hL,g3,g4,hW⟩:=hrel;have HG:=hid U;have j8:=hid f9;have G:=hid hL;have g5:=hid g3;have g6:=hid g4;obtain⟨wo,rfl⟩:∃wo,wo=wr:=⟨_,rfl⟩;obtain⟨J,hJ⟩:∃J,J=2*i:=⟨_,rfl⟩;obtain⟨J1,g7⟩:∃J1,J1=2*i+1:=⟨_,rfl⟩;obtain⟨E,g8⟩:∃E,E=2*i+2:=⟨_,rfl⟩;have m1:aI.wrap (2*(i:Int))=(J:Int):=by rw[aM];omega
   have m2:2*(i:Int)=(J:Int):=by omega
   have m3:aI.wrap ((J:Int)+1)=(J1:Int):=by rw[aM];omega
   have m4:(J:Int)+1=(J1:Int):=by omega
   have m5:aI.wrap ((J:Int)+2)=(E:Int):=by rw[aM];omega
   have m6:(J:Int)+2=(E:Int):=by omega
   have HJ:=hid hJ;have b7:=hid g7;have b8:=hid g8;clear U f9 hL g3 g4 hJ g7 g8;go_wp2_with fail
   go_loopg [6,7] 2 (fun gm s6 s7 wx=>∃f k:Nat,s6=.int .i64 (f:Int)/\s7=.int .i64 (k:Int)/\J1<=k/\k<=E+1/\gm=E+1-k/\Hid (Fst L i m k f)/\Below wo.heap.size wo wx)
   case atStart=>exact⟨i,J1,rfl,rfl,aA _,by have:=b7.out;have:=b8.out;omega,by have:=b7.out;have:=b8.out;omega,hid (by rw[b7.out];exact Fst.start _ _ _),aB _ _⟩
   case round=>
    obtain⟨f,k,rfl,rfl,k9,l1,U,HF,d6⟩:=hrel;have g9:=hid U;clear U;have d:=hW.below d6;obtain⟨T,hT⟩:∃T:Bool,T=(decide (k<=E)&&decide (k<m)):=⟨_,rfl⟩;have HT:=hid hT;clear hT;go_upto_region 7 with fail
    go_cut [54] (fun j9 wy=>j9=.bool T/\wy=wr)
    case first=>
     by_cases g1:k<=E
     ·have u1:decide ((k:Int)<=(E:Int))=true:=decide_eq_true (by omega)
      by_cases g2:k<m
      ·have u2:decide ((k:Int)<(m:Int))=true:=decide_eq_true (by omega);have V:=hid (show T=true by rw[HT.out,decide_eq_true g1,decide_eq_true g2];rfl);go_wp2_with fail;go_meet;exact⟨by rw[V.out],rfl⟩
      ·have u2:decide ((k:Int)<(m:Int))=false:=decide_eq_false (by omega);have V:=hid (show T=false by rw[HT.out,decide_eq_true g1,decide_eq_false g2];rfl);go_wp2_with fail;go_meet;exact⟨by rw[V.out],rfl⟩
     ·have u1:decide ((k:Int)<=(E:Int))=false:=decide_eq_false (by omega);have V:=hid (show T=false by rw[HT.out,decide_eq_false g1];rfl);go_wp2_with fail;go_meet;exact⟨by rw[V.out],rfl⟩
    case rest=>
     obtain⟨rfl,rfl⟩:=hcut
     cases T with
     |true=>
      have i0:=HT.out;rw[eq_comm,Bool.and_eq_true,decide_eq_true_eq,decide_eq_true_eq] at i0;obtain⟨l2,i1⟩:=i0;have a7:f<m:=by
       rcases HF.out.1 with h|h
       ·have:=j8.out;omega
       ·exact h.2.1
      have i2:k<L.length:=by rw[G.out];exact i1
      have Y:f<L.length:=by rw[G.out];exact a7
      obtain⟨a8,a9⟩:=d.row.cells i2;obtain⟨b0,b1⟩:=d.row.cells Y;obtain⟨H,a2⟩:∃y,y=L.getD k (0,0):=⟨_,rfl⟩;obtain⟨M,d7⟩:∃y,y=L.getD f (0,0):=⟨_,rfl⟩;rw[<-a2] at a8 a9;rw[<-d7] at b0 b1;have i3:=hid a2;have i4:=hid d7;have d0:=d.box.cell (i:=0) rfl;have d1:=d.box.cell (i:=1) rfl;have q1:(k:Int)<(m:Int):=by omega
      have q2:(f:Int)<(m:Int):=by omega
      have q3:(0:Int)<=(k:Int):=by omega
      have q4:(0:Int)<=(f:Int):=by omega
      have k0:wc.drew.cell? ⟨p,0,none⟩=some (.slice (some ⟨g,0,none⟩) m cap)/\wc.drew.cell? ⟨p,1,none⟩=some oE/\wc.drew.cell? ⟨g,k*2,none⟩=some (.int .i64 H.1)/\wc.drew.cell? ⟨g,k*2+1,none⟩=some (.int .i64 H.2)/\wc.drew.cell? ⟨g,f*2,none⟩=some (.int .i64 M.1)/\wc.drew.cell? ⟨g,f*2+1,none⟩=some (.int .i64 M.2)/\Below wc.heap.size wc wc.drew:=⟨d0,d1,a8,a9,b0,b1,(aB _ _).drew⟩;obtain⟨T2,d8⟩:∃T,T=decide (ahd H M):=⟨_,rfl⟩
      have i5:∀W,Calls Tryz.prog 193 #[.agg #[.int .i64 H.1,.int .i64 H.2],.agg #[.int .i64 M.1,.int .i64 M.2]] W fun e w'=>e=.returned (.bool T2)/\Below W.heap.size W w':=fun W=>by
       rw[d8];exact aA2 H.1 H.2 M.1 M.2 W
      have V:=hid d8;clear i2 Y a2 d7 d8 d0 d1 a8 a9 b0 b1;go_wp2_with fail
      go_region_held3 (fun w'=>w'.cell? ⟨p,0,none⟩=some (.slice (some ⟨g,0,none⟩) m cap)/\w'.cell? ⟨p,1,none⟩=some oE/\w'.cell? ⟨g,k*2,none⟩=some (.int .i64 H.1)/\w'.cell? ⟨g,k*2+1,none⟩=some (.int .i64 H.2)/\w'.cell? ⟨g,f*2,none⟩=some (.int .i64 M.1)/\w'.cell? ⟨g,f*2+1,none⟩=some (.int .i64 M.2)/\Below wc.heap.size wc w')
       (first
        |with_reducible assumption
        |with_reducible exact aA6 (by assumption) (by assumption))
       (first
        |(go_at_call 193;refine(i5 _).mono ?_;rintro e w6 ⟨rfl,i6⟩))
      all_goals
       have i7:Below wo.heap.size wo w6:=d6.trans (((aB _ wc).drew.trans i6).mono d6.size);clear k0 i6 d i5
       cases T2 with
       |true=>
        have d9:=hid (of_decide_eq_true V.out.symm);go_wp2_with fail;have U:=g9.out
        go_roundg (E+1-(k+1))
        case measure=>omega
        case rel=>exact⟨k,k+1,rfl,by go_num,by omega,by omega,rfl,hid (HF.out.yes i1 (by have:=b7.out;omega) (by have:=b8.out;omega) (by rw[<-i3.out,<-i4.out];exact d9.out)),i7⟩
       |false=>
        have d9:=hid (of_decide_eq_false V.out.symm);go_wp2_with fail;have U:=g9.out
        go_roundg (E+1-(k+1))
        case measure=>omega
        case rel=>exact⟨f,k+1,rfl,by go_num,by omega,by omega,rfl,hid (HF.out.no (by rw[<-i3.out,<-i4.out];exact d9.out)),i7⟩
     |false=>
      have i8:=hid (HF.out.all (fun⟨h1,h2⟩=>by
       have:=HT.out;rw[decide_eq_true (show k<=E by rw[b8.out];exact h1),decide_eq_true h2] at this;exact Bool.noConfusion this))
      by_cases e4:f=i
      ·subst e4;have x0:=d.top.cell (i:=0) rfl;have x1:=d.top.cell (i:=1) rfl;have r0:=d.res.cell (i:=0) rfl;have r1:=d.res.cell (i:=1) rfl;have r2:=d.res.free 0;have r3:=d.res.free 1;go_wp2_with fail;refine gJ (results_cell_row rfl _ _ A _ _ (0,0) _ rfl ((d.res.set 0 _).set 1 _) Tryz.underlying236 rfl aRn) rfl ?_;have ho:=MX (d.row.grown (dS (eM _ A 0 (.int .i64 y.1)) (eM _ A 1 (.int .i64 y.2))) (by omega)) j0 (by rw[G.out];exact j7) j4.out (j3.out L G.out);rw[G.out] at ho
       exact⟨rfl,⟨L,⟨_,d.box.grown (dS (eM _ A 0 _) (eM _ A 1 _)) (by simp;omega),ho⟩,g5.out.stop (fun j F h1 h2=>i8.out j F (by rw[<-G.out];exact h1) h2),(GK y g6.out).trans a4.out⟩,(d.bel.setCell (p:=⟨A,0,none⟩) (sK b4) _).setCell (p:=⟨A,1,none⟩) (sK b4) _,d.kq.trans (KQ.tree d.res (dS (eM _ A 0 _) (eM _ A 1 _)))⟩
      ·have u1:((f:Int)==(i:Int))=false:=by rw[beq_eq_false_iff_ne];omega
       have u2:decide ((f:Int)=(i:Int))=false:=decide_eq_false (by omega);have b2:0<f/\f<m/\(f-1)/2=i/\ahd (L.getD f (0,0)) (L.getD i (0,0)):=HF.out.1.resolve_left e4;have a7:=b2.2.1;have k1:i<f:=by omega
       have b9:i<L.length:=by rw[G.out];omega
       have Y:f<L.length:=by rw[G.out];exact a7
       obtain⟨a8,a9⟩:=d.row.cells b9;obtain⟨b0,b1⟩:=d.row.cells Y;have k2:=hid (g5.out.step b2.1 Y b2.2.2.1 b2.2.2.2 (fun j F h1 h2=>i8.out j F (by rw[<-G.out];exact h1) h2));have i9:=hid (fun(W:World) (hW:eT W g L R3)=>eT.swap hW b9 Y);have l3:=hid b9;have k3:=hid Y;obtain⟨H,a2⟩:∃y,y=L.getD i (0,0):=⟨_,rfl⟩;obtain⟨yf,e5⟩:∃y,y=L.getD f (0,0):=⟨_,rfl⟩;rw[<-a2,<-e5] at i9;rw[<-a2] at a8 a9;rw[<-e5] at b0 b1;have d0:=d.box.cell (i:=0) rfl;have q1:(i:Int)<(m:Int):=by omega
       have q2:(f:Int)<(m:Int):=by omega
       have q3:(0:Int)<=(i:Int):=by omega
       have q4:(0:Int)<=(f:Int):=by omega
       have q5:i<m:=by omega
       have l4:=Arr.free d.row (i*2);have l5:=Arr.free d.row (i*2+1);have l6:=Arr.free d.row (f*2);have l7:=Arr.free d.row (f*2+1);clear b2 b9 Y a2 e5 e4;go_wp2_with fail
       go_region
       all_goals
        go_wp2_with fail;have U:=HG.out
        go_roundg (m-f)
        case measure=>omega
        case rel=>
         refine⟨f,mR L i f,rfl,rfl,.inr a7,sK a7,(xG _ _ _).trans G.out,k2.out,(aA1 k1 k3.out).trans g6.out,?_⟩;exact d.put (nC (dS (dS (dS (eM _ g (i*2) _) (eM _ g (i*2+1) _)) (eM _ g (f*2) _)) (eM _ g (f*2+1) _))) (by omega) (by omega) (by omega) (i9.out _ d.row)
end Go.Proofs.YtiifmcicleljjaaGreatDoor
