/-
  Texts put together (part 11): the walks and the plain laws on which the statement stands.
-/
import Derived.BigRegion
import Derived.Test.YtjkjeamepgjicaaGreatDoorZ10
set_option maxRecDepth 100000
set_option maxHeartbeats 12800000
set_option linter.unusedVariables false
set_option linter.unusedSimpArgs false
open Decidable renaming not_not->dK
open Go.IntKind renaming i64->aI,wrap_i64->aM
open Go.Value renaming int->bO
open Int renaming toNat_natCast->eG
open List renaming getD_eq_getElem?_getD->aV,getElem?_append_left->gS,getElem?_concat_length->AQ,getElem?_eq_getElem->aN,getElem?_eq_some_iff->eU,getElem?_map->dY,length_append->aL,length_map->bJ,length_pos_iff->kV,mem_map->dU
open Nat renaming le_refl->aA,lt_succ_self->sG,zero_le->aU
open Option.some renaming inj->bW
namespace Go.Proofs.YtjkjeamepgjicaaGreatDoor
open Go.RowKit Go Go.Shelf
theorem UB {s:List UInt8} {t a:Int} {k:Nat} (h:(cO s t a k).2.2=0):cO s t a (k+1)=
  if(gV s t (cO s t a k).2.1 0).2.2≠0 then((cO s t a k).1,(cO s t a k).2.1,(gV s t (cO s t a k).2.1 0).2.2)
  else((cO s t a k).1++[(gV s t (cO s t a k).2.1 0).1],(gV s t (cO s t a k).2.1 0).2.1,0):=by
 show(if(cO s t a k).2.2≠0 then cO s t a k else _)=_;rw[if_neg (fun q=>q h)]
theorem UC {s:List UInt8} {t a:Int} {k:Nat} (h:(cO s t a k).2.2≠0):∀j,(cO s t a (k+j)).2.2=(cO s t a k).2.2
 |0=>rfl
 |j+1=>by
  have ih:=UC h j;show(if(cO s t a (k+j)).2.2≠0 then cO s t a (k+j) else _).2.2=_;rw[if_pos (by rw[ih];exact h),ih]
theorem DO (s:List UInt8) (a n t:Nat) (ht1:2<=t) (ht2:t<=6) (hn:n<=1048576):dD s (a:Int) (n:Int) (t:Int)=
  if(cO s (t:Int) (a:Int) n).2.2≠0 then([],0,(cO s (t:Int) (a:Int) n).2.2) else((unL (cC t) (cO s (t:Int) (a:Int) n).1).map (fun b=>(b.toNat:Int)),(cO s (t:Int) (a:Int) n).2.1,0):=by
 unfold dD;rw[if_neg (by omega)];simp only[eG]
theorem UD {s:List UInt8} {a n t k:Nat} (ht1:2<=t) (ht2:t<=6) (hn:n<=1048576) (hk:k<=n) (h:(cO s (t:Int) (a:Int) k).2.2≠0):dD s (a:Int) (n:Int) (t:Int)=([],0,(cO s (t:Int) (a:Int) k).2.2):=by
 have:=UC h (n-k);rw[show k+(n-k)=n by omega] at this;rw[DO s a n t ht1 ht2 hn,this,if_pos h]
def yX (w w':World) (s:List UInt8) (a n t:Nat) (e:Ending):Prop:=
 ∃v,e=.returned (.tuple #[v,.int .i64 (dD s (a:Int) (n:Int) (t:Int)).2.1,.int .i64 (dD s (a:Int) (n:Int) (t:Int)).2.2])/\OwI w' w.heap.size v (dD s (a:Int) (n:Int) (t:Int)).1/\Below w.heap.size w w'
theorem KN {w w':World} {s:List UInt8} {a n t:Nat} {E:Int} (h:dD s (a:Int) (n:Int) (t:Int)=([],0,E)) (hb:Below w.heap.size w w'):yX w w' s a n t (.returned (.tuple #[.slice none 0 0,.int .i64 0,.int .i64 E])):=by
 refine⟨.slice none 0 0,?_,?_,hb⟩
 ·rw[h]
 ·rw[h];exact OwI.nil _ _
def iX (X:List Int) (n:Int):List Value:=X.map (bO .i64)++[.int .i64 n]
def EN (X:List Int) (i:Nat):List Int:=(X.drop i).take 1++X.take i++X.drop (i+1)
def wZ:List Value->Nat->List Value->List Value
 |l,_,[]=>l
 |l,o,v::r=>wZ (l.set o v) (o+1) r
theorem Arr.setCells {b:Nat} {e:TypeId}:∀(cs:List Value) (o:Nat) (w:World) (l:List Value),Arr w b e l->Arr (w.setCells b o cs) b e (wZ l o cs)
 |[],_,_,_,h=>h
 |v::cs,o,w,l,h=>Arr.setCells cs (o+1) (w.setCell ⟨b,o,none⟩ v) (l.set o v) (h.set o v)
theorem YZ:∀(cs:List Value) (o:Nat) (l:List Value),(wZ l o cs).length=l.length
 |[],_,_=>rfl
 |v::cs,o,l=>by
  show(wZ (l.set o v) (o+1) cs).length=_;rw[YZ cs,List.length_set]
theorem ZA (b:Nat):∀(cs:List Value) (o:Nat) (w:World),w.grownBy (w.setCells b o cs) (some b)
 |[],_,_=>⟨rfl,rfl,rfl,aA _,fun _ _ _=>rfl⟩
 |v::cs,o,w=>dS (eM w b o v) (ZA b cs (o+1) (w.setCell ⟨b,o,none⟩ v))
theorem aOw (X:List Int) (hX:X.length=6) (n:Int) (i:Nat) (hi:i<6):(wZ (iX X n) 1 ((X.take i).map (bO .i64))).set 0 (.int .i64 (X.getD i 0))=iX (EN X i) n:=by
 match X,hX with
 |[x0,x1,x2,x3,x4,x5],_=>
  obtain rfl|rfl|rfl|rfl|rfl|rfl:i=0\/i=1\/i=2\/i=3\/i=4\/i=5:=by omega
  all_goals rfl
theorem EO {X:List Int} {n:Int} {j:Nat} (h:j<X.length):(iX X n)[j]? =some (.int .i64 (X.getD j 0)):=by
 unfold iX;rw[gS (by rw[bJ];exact h),dY,aV,aN h];rfl
theorem aOx:(Tryz.prog.info? 3).map (·.size)=some 1:=by kernel_rfl
theorem aOy (b o j:Nat):(⟨b,o,none⟩:Addr).add j=⟨b,o+j,none⟩:=by unfold Addr.add;split<;>simp_all
theorem ZB (b:Nat) (X:List Int) (n:Int) (i:Nat) (hX:X.length=6) (hi:i<6) (W:World) (hA:Arr W b 166 (iX X n)):
  Calls Tryz.prog 74 #[.pointer (some ⟨b,0,none⟩),.int .i64 (i:Int)] W fun e w'=>
   e=.returned (.int .i64 (X.getD i 0))/\Arr w' b 166 (iX (EN X i) n)/\W.grownBy w' (some b):=by
 have c1:=hA.cell (EO (n:=n) (show i<X.length by omega));have HP:=hid (aOw X hX n i hi);have hA':Arr W.drew b 166 (iX X n):=hA;have hcs:((X.take i).map (bO .i64)).length=i:=by rw[bJ,List.length_take];omega
 have hcp:=run_copy_cells (P:=Tryz.prog) W.drew 68 68 3 3 b 1 5 5 ⟨b,0,none⟩ i 6 ((X.take i).map (bO .i64)) Tryz.underlying68 aOx (by rw[hcs];exact(Nat.min_eq_left (by omega)).symm)
  (fun j v hv=>by
   rw[aOy,Nat.zero_add];have hj:=(eU.1 hv).1;rw[hcs] at hj;rw[dY,List.getElem?_take_of_lt hj,aN (show j<X.length by omega)] at hv;rw[hA'.cell (EO (n:=n) (show j<X.length by omega)),aV,aN (show j<X.length by omega)];exact hv)
  (fun j hj=>by
   rw[hcs] at hj;have hl:(iX X n).length=7:=by unfold iX;rw[aL,bJ,hX];rfl
   rw[hA'.cell (aN (show 1+j<(iX X n).length by omega))];rfl)
  (fun j _=>hA'.free (1+j)) (fun v hv=>by obtain⟨y,_,rfl⟩:=dU.1 hv;rfl)
 rw[hcs] at hcp;have t1:(0:Int)<=(i:Int):=by omega
 have t2:(i:Int)<=6:=by omega
 have t3:(i:Int)<6:=by omega
 have hA2:=hA'.setCells ((X.take i).map (bO .i64)) 1;have hg2:W.grownBy (W.drew.setCells b 1 ((X.take i).map (bO .i64))) (some b):=dS (show W.grownBy W.drew (some b) from⟨rfl,rfl,rfl,aA _,fun _ _ _=>rfl⟩) (ZA b _ 1 W.drew);obtain⟨cs,hcse⟩:∃cs,cs=(X.take i).map (bO .i64):=⟨_,rfl⟩;rw[<-hcse] at hcp hA2 hg2 HP;obtain⟨x,hx⟩:∃x,x=X.getD i 0:=⟨_,rfl⟩;rw[<-hx] at c1 HP ⊢;clear hcs hcse hx hA' hA;go_enter Tryz.func74,Tryz.ntmps74;go_wp2_with fail
 go_region
 generalize W.drew.setCells b 1 cs=W2 at*
 obtain⟨v0,hv0⟩:∃v0,(wZ (iX X n) 1 cs)[0]? =some v0:=⟨_,aN (by rw[YZ];unfold iX;rw[aL,bJ,hX];simp)⟩;have d0:=hA2.cell hv0;have f0:=hA2.free 0;clear hv0 hcp c1;go_wp2_with fail;go_ret;refine⟨rfl,?_,dS hg2 (eM _ _ _ _)⟩;have:=hA2.set 0 (.int .i64 x);rw[HP.out] at this;exact this
theorem ZC (t:Nat) (w:World) (h1:2<=t) (h2:t<=6):Calls Tryz.prog 72 #[.int .i64 (t:Int)] w fun e w'=>e=.returned (.bool true)/\w'=w:=by
 have u1:decide ((t:Int)>=2)=true:=decide_eq_true (by omega);have u2:decide (2<=(t:Int))=true:=decide_eq_true (by omega);have u3:decide ((t:Int)<=6)=true:=decide_eq_true (by omega);go_enter Tryz.func72,Tryz.ntmps72;go_wp2_with fail;go_ret;exact⟨rfl,rfl⟩
def ZD:List Int:=[0,1,2,3,4,5]
def ofI (k:Nat):List Int:=(List.range 6).map (fun j=>if j<k then(j:Int) else 0)
theorem aOz (k:Nat) (n:Int) (h:k<6):(iX (ofI k) n).set k (.int .i64 (k:Int))=iX (ofI (k+1)) n:=by
 obtain rfl|rfl|rfl|rfl|rfl|rfl:k=0\/k=1\/k=2\/k=3\/k=4\/k=5:=by omega
 all_goals rfl
theorem aO0 (k:Nat):(ofI k).length=6:=by simp[ofI]
theorem ZE (n:Int) (w:World):Calls Tryz.prog 73 #[.int .i64 n] w fun e w'=>e=.returned (.pointer (some ⟨w.heap.size,0,none⟩))/\Arr w' w.heap.size 166 (iX ZD n)/\Below w.heap.size w w'/\w.heap.size<w'.heap.size:=by
 go_enter Tryz.func73,Tryz.ntmps73;go_wp2_with fail;have hA:=Arr.new w 166 (iX (ofI 0) n);have hb:=bD (Below.refl w.heap.size w) (.cells (iX (ofI 0) n).toArray 166);have hz:w.heap.size<(w.alloc (.cells (iX (ofI 0) n).toArray 166)).heap.size:=by simp
 change Arr (w.alloc (.cells #[.int .i64 0,.int .i64 0,.int .i64 0,.int .i64 0,.int .i64 0,.int .i64 0,.int .i64 n] 166)) _ _ _ at hA;change Below w.heap.size w (w.alloc (.cells #[.int .i64 0,.int .i64 0,.int .i64 0,.int .i64 0,.int .i64 0,.int .i64 0,.int .i64 n] 166)) at hb;change w.heap.size<(w.alloc (.cells #[.int .i64 0,.int .i64 0,.int .i64 0,.int .i64 0,.int .i64 0,.int .i64 0,.int .i64 n] 166)).heap.size at hz;generalize w.alloc (.cells #[.int .i64 0,.int .i64 0,.int .i64 0,.int .i64 0,.int .i64 0,.int .i64 0,.int .i64 n] 166)=w1 at*
 go_loopg [4,8] 6 (fun g _s4 s8 wr=>∃k:Nat,k<=6/\g=6-k/\s8=.int .i64 (k:Int)/\Arr wr w.heap.size 166 (iX (ofI k) n)/\Below w.heap.size w wr/\w.heap.size<wr.heap.size)
 case atStart=>exact⟨0,aU _,rfl,rfl,hA,hb,hz⟩
 case round=>
  clear hA hb hz;obtain⟨k,hk,hg,rfl,hA,hb,hz⟩:=hrel;have HG:=hid hg;clear hg
  by_cases hlt:k<6
  ·have u1:decide ((k:Int)<6)=true:=decide_eq_true (by omega);have u2:(k:Int)<6:=by omega
   have d:=hA.cell (EO (n:=n) (show k<(ofI k).length by rw[aO0];exact hlt));have f:=hA.free k;have hs:=hA.set k (.int .i64 (k:Int));rw[aOz k n hlt] at hs;go_wp2_with fail;have hg:=HG.out
   go_roundg (6-(k+1))
   case measure=>omega
   case rel=>exact⟨k+1,by omega,rfl,by go_num,hs,hb.setCell (p:=⟨w.heap.size,k,none⟩) (aA _) _,by rw[World.size_setCell];exact hz⟩
  ·have u1:decide ((k:Int)<6)=false:=decide_eq_false (by omega);obtain rfl:k=6:=by omega
   go_wp2_with fail;go_ret;exact⟨rfl,hA,hb,hz⟩
def BX (A:List UInt8):List Int:=A.map (fun b=>(b.toNat:Int))
theorem ZF (A:List UInt8) (i:Nat):EN (BX A) i=BX (eF A i):=by unfold EN eF BX;simp[List.map_take,List.map_drop]
theorem aO1 (A:List UInt8) (i:Nat):(BX A).getD i 0=((A.getD i 0).toNat:Int):=by
 unfold BX;rw[aV,dY,aV]
 cases A[i]? <;>rfl
theorem ZG:BX (cC 6)=ZD:=rfl
theorem tG (A:List UInt8):(BX A).length=A.length:=bJ ..
theorem EP:∀(l:List Int) (A:List UInt8),(∀x∈l,0<=x/\x<(A.length:Int))->(unA A l).length=A.length
 |[],_,_=>rfl
 |x::l,A,h=>by
  have hx:=h x (List.mem_cons_self ..);show(unA (eF A x.toNat) l).length=_;rw[EP l _ (fun y hy=>by rw[vS];exact h y (List.mem_cons_of_mem _ hy)),vS]
theorem aO2 (s:ByteArray) (a n t:Nat) (w:World) (hs:s.size<=1000000) (ha:a<=80000000) (hn:n<=40000) (ht1:2<=t) (ht2:t<=6):
  Calls Tryz.prog 55 #[.string s,.int .i64 (a:Int),.int .i64 (n:Int),.int .i64 (t:Int)] w fun e w'=>yX w w' s.data.toList a n t e:=by
 have HL:=hid (show s.data.toList.length=s.size by simp);have t4:decide ((a:Int)<0)=false:=decide_eq_false (by omega);have t5:decide ((n:Int)<0)=false:=decide_eq_false (by omega);have t6:decide ((n:Int)>1048576)=false:=decide_eq_false (by omega);have t7:decide (1048576<(n:Int))=false:=decide_eq_false (by omega);have HERR:=hid (fun k hk=>UD (s:=s.data.toList) (a:=a) (n:=n) (k:=k) ht1 ht2 (by omega) hk);have HEQ:=hid (DO s.data.toList a n t ht1 ht2 (by omega));have HOK:=hid (fun k=>wG s.data.toList (t:Int) (a:Int) (by omega) (by omega) k);go_enter Tryz.func55,Tryz.ntmps55
 go_wp2_with fail;refine(ZC t _ ht1 ht2).mono ?_;rintro e w0 ⟨rfl,rfl⟩;go_wp2_with fail;refine(ZE (t:Int) _).mono ?_;rintro e w1 ⟨rfl,hA1,hb1,hz1⟩;obtain⟨z,hz⟩:∃z,z=w0.heap.size:=⟨_,rfl⟩;rw[<-hz] at hA1 hb1 hz1 ⊢;have HZ:=hid hz;clear hz;rw[<-ZG] at hA1;go_wp2_with fail
 go_loopg [1,8,12,13,14,33] n (fun g s1 s8 _s12 _s13 _s14 s33 wr=>∃(k p:Nat) (v:Value) (L:List Int),k<=n/\g=n-k/\v=s8/\s33=.int .i64 (k:Int)/\s1=.int .i64 (p:Int)/\p<=80000000/\Hid (cO s.data.toList (t:Int) (a:Int) k=(L,(p:Int),0))/\OwI wr (z+1) v (BX (unL (cC 6) L))/\Arr wr z 166 (iX (BX (unA (cC 6) L)) (t:Int))/\Below z w0 wr/\z<wr.heap.size)
 case atStart=>exact⟨0,a,_,[],aU _,rfl,rfl,rfl,rfl,ha,hid rfl,OwI.nil _ _,hA1,hb1,hz1⟩
 case round=>
  clear hA1 hb1 hz1;obtain⟨k,p,v,L,hk,hg,rfl,rfl,rfl,hp,HK,ho,hA,hbel,hzr⟩:=hrel;have HG:=hid hg;clear hg
  by_cases hlt:k<n
  ·have v1:decide ((k:Int)<(n:Int))=true:=decide_eq_true (by omega);have hst:=UB (s:=s.data.toList) (t:=(t:Int)) (a:=(a:Int)) (k:=k) (by rw[HK.out]);rw[HK.out] at hst;simp only at hst;have hok:=HOK.out k (by rw[HK.out]);rw[HK.out] at hok;obtain⟨o1,o2,o3,o4⟩:=hok;simp only at o1 o2 o3 o4;have HLb:=hid o2;obtain⟨R,hR⟩:∃R,R=gV s.data.toList (t:Int) (p:Int) 0:=⟨_,rfl⟩;have hAok:=DC s.data.toList (t:Int) (8*s.data.toList.length+2) (p:Int) 0 (by omega) (by omega) (by omega);rw[show jK s.data.toList (t:Int) (8*s.data.toList.length+2) (p:Int) 0=R from hR.symm,HL.out] at hAok
   rw[<-hR] at hst;have HST:=hid hst;have HAK:=hid hAok;have HR:=hid hR.symm;clear hst hAok hR o1 o2 o3 o4;go_wp2_with fail
   go_loopg [1,8,12,13,14] (8*s.size+2-p) (fun g s1 s8 s12 _s13 _s14 wx=>∃q m:Nat,q<=80000000+m/\m<t/\g=8*s.size+2-q/\v=s8/\s1=.int .i64 (q:Int)/\s12=.int .i64 (m:Int)/\Hid (gV s.data.toList (t:Int) (q:Int) (m:Int)=R)/\wx=wr)
   case atStart=>exact⟨p,0,by omega,by omega,rfl,rfl,rfl,rfl,HR,rfl⟩
   case round=>
    obtain⟨q,m,hq,hm,hg,rfl,rfl,rfl,HP,rfl⟩:=hrel;have HG2:=hid hg;clear hg;have hst:=DB s.data.toList (t:Int) (q:Int) (m:Int) (by omega);rw[HP.out,HL.out] at hst;have hg1:=fun W=>sT s (q:Int) 1 W hs (by omega) (by omega) (by omega)
    have hok1:=fQ (n:=s.size) (at':=(q:Int)) (k:=1);have hv1:=iA s.data.toList (q:Int) 1;obtain⟨E1,hE1⟩:∃E1,E1=aO s.size (q:Int) 1:=⟨_,rfl⟩;obtain⟨V1,hV1⟩:∃V1,V1=aE s.data.toList (q:Int) 1:=⟨_,rfl⟩;rw[<-hE1,<-hV1] at hst;rw[<-hE1] at hg1 hok1;rw[<-hV1] at hg1 hv1;clear hE1 hV1;have m1:aI.wrap ((q:Int)+1)=((q:Int)+1):=by rw[aM];omega
    have m2:aI.wrap ((m:Int)+1)=((m:Int)+1):=by rw[aM];omega
    have d6:wr.cell? ⟨z,6,none⟩=some (.int .i64 (t:Int)):=hA.cell (by
     unfold iX;rw[List.getElem?_append_right (by rw[bJ,tG,EP _ _ (fun x hx=>by rw[oR];have:=HLb.out x hx;omega),oR];exact aA _),bJ,tG,EP _ _ (fun x hx=>by rw[oR];have:=HLb.out x hx;omega),oR];rfl)
    by_cases h1:E1=0
    rotate_left
    ·rw[if_pos h1] at hst;have u1:(E1 != 0)=true:=by simpa using h1
     have hF:=HERR.out (k+1) (by omega) (by rw[HST.out,hst];exact(by rw[if_pos h1];exact h1));rw[HST.out,hst,if_pos h1] at hF;have HF:=hid hF;clear hst hF d6;go_wp2_with fail;refine(hg1 _).mono ?_;rintro e w2 ⟨rfl,rfl⟩;go_wp2_with fail
     go_ret3
     exact KN HF.out (HZ.out▸hbel)
    subst h1;rw[if_neg (fun k=>k rfl)] at hst;have hok1:=hok1 rfl
    by_cases h2:V1=0
    ·subst h2;rw[if_pos rfl] at hst;have hS:cO s.data.toList (t:Int) (a:Int) (k+1)=(L++[(m:Int)],(q:Int)+1,0):=by rw[HST.out,hst];rfl
     have HS:=hid hS;have hAl:(unA (cC 6) L).length=6:=by
      rw[EP _ _ (fun x hx=>by rw[oR];have:=HLb.out x hx;omega),oR]
     have hfr:=ZB z (BX (unA (cC 6) L)) (t:Int) m (by rw[tG];exact hAl) (by omega) wr hA;rw[ZF,aO1] at hfr;have HU:=hid (show unL (cC 6) (L++[(m:Int)])=unL (cC 6) L++[(unA (cC 6) L).getD m 0] by rw[IN,eG]);have HV:=hid (show unA (cC 6) (L++[(m:Int)])=eF (unA (cC 6) L) m by rw[IP,eG]);obtain⟨C,hC⟩:∃C,C=(unA (cC 6) L).getD m 0:=⟨_,rfl⟩;rw[<-hC] at hfr HU;have hLl:(BX (unL (cC 6) L)).length<=40000:=by
      rw[tG,oO];have:=(HOK.out k (by rw[HK.out])).1;rw[HK.out] at this;have:L.length=k:=this;omega
     clear hst d6 hS hC hAl;go_wp2_with fail;refine(hg1 _).mono ?_;rintro e w2 ⟨rfl,rfl⟩;go_wp2_with fail;refine hfr.mono ?_;rintro e w3 ⟨rfl,hA3,hg3⟩;have ho3:OwI w3 (z+1) v (BX (unL (cC 6) L)):=Ow.kept ho hg3 (iL ho (sG z));have hb3:=hbel.grown hg3 (by omega) (fun k hk=>by obtain rfl:=bW hk;exact aA _);have hs3:=hg3.size;clear hfr ho hg3;go_wp2_with (at_builtin;refine eN rfl _ _ rfl (z+1) _ _ rfl (OwI.alloc ho3 _) _ (C.toNat:Int) rfl (bS _ _ _) ?_ ?_ ?_;(omega);(simp;omega);intro v4 w4 r1 r2 r3);have hg:=HG.out
     go_roundg (n-(k+1))
     case measure=>omega
     case rel=>
      refine⟨k+1,q+1,_,L++[(m:Int)],by omega,rfl,rfl,by go_num,by go_num,by omega,hid (by rw[HS.out];push_cast;rfl),?_,?_,(hb3.alloc (by omega) _).trans (r2.mono (by omega)),?_⟩
      ·rw[HU.out];unfold BX at r1 ⊢;rw[List.map_append];exact r1
      ·rw[HV.out];exact((Arr.alloc hA3 _).below r2 (sG z))
      ·have:=r2.size;simp only[World.size_alloc] at this;omega
    ·rw[if_neg h2] at hst;have v2:((V1:Int)==0)=false:=by rw[beq_eq_false_iff_ne];omega
     have v3:(V1==0)=false:=by rw[beq_eq_false_iff_ne];omega
     by_cases h3:(m:Int)+1=(t:Int)
     ·rw[if_pos h3] at hst;have v4:((m:Int)+1==(t:Int))=true:=by rw[beq_iff_eq];exact h3
      have hF:=HERR.out (k+1) (by omega) (by rw[HST.out,hst];exact(by decide:(3:Int)≠0));rw[HST.out,hst] at hF;have HF:=hid hF;clear hst hF h3;go_wp2_with fail;refine(hg1 _).mono ?_;rintro e w2 ⟨rfl,rfl⟩;go_wp2_with fail
      go_ret3
      exact KN HF.out (HZ.out▸hbel)
     ·rw[if_neg h3] at hst;have v4:((m:Int)+1==(t:Int))=false:=by rw[beq_eq_false_iff_ne];exact h3
      have HS:=hid hst.symm;clear hst;go_wp2_with fail;refine(hg1 _).mono ?_;rintro e w2 ⟨rfl,rfl⟩;go_wp2_with fail;have hg2:=HG2.out
      go_roundg (8*s.size+2-(q+1))
      case measure=>omega
      case rel=>exact⟨q+1,m+1,by omega,by omega,rfl,rfl,by go_num,by go_num,by push_cast;exact HS,rfl⟩
  ·have v1:decide ((k:Int)<(n:Int))=false:=decide_eq_false (by omega);have hke:k=n:=by omega
   subst hke;have hEQ:=HEQ.out;rw[HK.out] at hEQ;have hok:=HOK.out k (by rw[HK.out]);rw[HK.out] at hok;have hU:unL (cC t) L=unL (cC 6) L:=by
    rw[JZ ht2,(SD L (cC t) _ (fun x hx=>by rw[oR];exact hok.2.1 x hx)).1]
   have HF:=hid (show dD s.data.toList (a:Int) (k:Int) (t:Int)=(BX (unL (cC 6) L),(p:Int),0) by
    rw[hEQ,if_neg (fun q=>q rfl),<-hU];rfl)
   clear hEQ hok hU;go_wp2_with fail
   go_ret3
   exact⟨_,by rw[HF.out];rfl,by rw[HF.out];exact Ow.base ho (by rw[<-HZ.out];omega),HZ.out▸hbel⟩
theorem KR {s:List UInt8} {a c:Int} {k:Nat} (h:(bF s a c k).2.2=0):bF s a c (k+1)=
  if(eJ s (bF s a c k).2.1 c).2.2≠0 then((bF s a c k).1,(bF s a c k).2.1,(eJ s (bF s a c k).2.1 c).2.2)
  else if bL (eJ s (bF s a c k).2.1 c).1≠0 then((bF s a c k).1,(bF s a c k).2.1,bL (eJ s (bF s a c k).2.1 c).1)
  else((bF s a c k).1++[(eJ s (bF s a c k).2.1 c).1],(eJ s (bF s a c k).2.1 c).2.1,0):=by
 show(if(bF s a c k).2.2≠0 then bF s a c k else _)=_;rw[if_neg (fun q=>q h)]
theorem DP {s:List UInt8} {a c:Int} {k:Nat} (h:(bF s a c k).2.2≠0):∀j,(bF s a c (k+j)).2.2=(bF s a c k).2.2
 |0=>rfl
 |j+1=>by
  have ih:=DP h j;show(if(bF s a c (k+j)).2.2≠0 then bF s a c (k+j) else _).2.2=_;rw[if_pos (by rw[ih];exact h),ih]
theorem DQ {s:List UInt8} {a c:Int} (h0:0<=a):∀k,(bF s a c k).2.2=0->a<=(bF s a c k).2.1/\((bF s a c k).2.1=a\/(bF s a c k).2.1<=8*(s.length:Int))
 |0,_=>⟨Int.le_refl _,.inl rfl⟩
 |k+1,h=>by
  have hk:(bF s a c k).2.2=0:=by
   rcases Decidable.em ((bF s a c k).2.2=0) with q|q
   ·exact q
   ·have:=DP q 1;rw[h] at this;exact this.symm
  obtain⟨h1,h2⟩:=DQ (s:=s) (c:=c) h0 k hk;rw[KR hk] at h ⊢;split at h
  ·next q=>exact absurd h q
  ·next q=>
   rw[if_neg q];split at h
   ·next q2=>exact absurd h q2
   ·next q2=>
    rw[if_neg q2];have q:=dK.1 q;unfold eJ at q ⊢;split at q
    ·simp at q
    ·next k1=>
     rw[if_neg k1];simp only at q ⊢;split at q
     ·next k2=>exact absurd q k2
     ·next k2=>
      rw[if_neg k2];have:=yR s (bF s a c k).2.1 (by omega) c.toNat (dK.1 k2);show a<=(aZ s (bF s a c k).2.1 c.toNat).2.2.1/\((aZ s (bF s a c k).2.1 c.toNat).2.2.1=a\/(aZ s (bF s a c k).2.1 c.toNat).2.2.1<=_);omega
def fE (w:World) (B:Nat) (xs:List Value) (gs:List (List Int)):Prop:=xs.length=gs.length/\∀(j:Nat) (x:Value) (g:List Int),xs[j]? =some x->gs[j]? =some g->OwI w B x g
theorem fE.nil (w:World) (B:Nat):fE w B [] []:=⟨rfl,fun j x g h=>by simp at h⟩
theorem fE.map {w w':World} {B B':Nat} {xs:List Value} {gs:List (List Int)} (h:fE w B xs gs) (k:∀(x:Value) (g:List Int),OwI w B x g->OwI w' B' x g):fE w' B' xs gs:=⟨h.1,fun j x g hx hg=>k x g (h.2 j x g hx hg)⟩
theorem fE.below {w w':World} {B:Nat} {xs:List Value} {gs:List (List Int)} (h:fE w B xs gs) (hb:Below w.heap.size w w'):fE w' B xs gs:=h.map (fun _ _ k=>OwI.below k hb (aA _))
theorem fE.alloc {w:World} {B:Nat} {xs:List Value} {gs:List (List Int)} (h:fE w B xs gs) (o:Obj):fE (w.alloc o) B xs gs:=h.map (fun _ _ k=>OwI.alloc k o)
theorem fE.ok {w:World} {B:Nat} {xs:List Value} {gs:List (List Int)} (h:fE w B xs gs):LOK w xs gs:=⟨h.1,fun j x g hx hg=>OwI.rd (h.2 j x g hx hg)⟩
theorem fE.app {w w':World} {B B':Nat} {xs ys:List Value} {gs:List (List Int)} {v:Value} (h:fE w B xs gs) (ho:Ow w B' 68 v ys) (hg:w.grownBy w' v.ownBlock):fE w' B xs gs:=h.map (fun _ _ k=>Ow.kept k hg (qO k ho (by decide)))
theorem fE.snoc {w:World} {B:Nat} {xs:List Value} {gs:List (List Int)} (h:fE w B xs gs) {x:Value} {g:List Int} (hx:OwI w B x g):fE w B (xs++[x]) (gs++[g]):=by
 refine⟨by rw[aL,aL,h.1];rfl,fun j x' g' h1 h2=>?_⟩
 by_cases hj:j<xs.length
 ·rw[gS hj] at h1;rw[gS (by rw[<-h.1];exact hj)] at h2;exact h.2 j x' g' h1 h2
 ·have hjl:=(eU.1 h1).1;rw[aL,List.length_singleton] at hjl;obtain rfl:j=xs.length:=by omega
  rw[AQ] at h1;rw[h.1,AQ] at h2;obtain rfl:=bW h1;obtain rfl:=bW h2;exact hx
theorem UJ {s:List UInt8} {a:Int} {t:List (List Int)} {ch:List Int} {fin:Int} {k:Nat} (h:(bH s a t ch fin k).2.2.1=0) (h2:(bH s a t ch fin k).2.2.2=false):bH s a t ch fin (k+1)=
  if(bZ (t.getD (ch.getD (k/10) 0).toNat []) s (bH s a t ch fin k).2.1).2.2≠0 then((bH s a t ch fin k).1,(bH s a t ch fin k).2.1,(bZ (t.getD (ch.getD (k/10) 0).toNat []) s (bH s a t ch fin k).2.1).2.2,false)
  else if(bZ (t.getD (ch.getD (k/10) 0).toNat []) s (bH s a t ch fin k).2.1).1=fin then
   if k/10+1<ch.length then((bH s a t ch fin k).1++[(bZ (t.getD (ch.getD (k/10) 0).toNat []) s (bH s a t ch fin k).2.1).1],(bZ (t.getD (ch.getD (k/10) 0).toNat []) s (bH s a t ch fin k).2.1).2.1,3,false)
   else((bH s a t ch fin k).1++[(bZ (t.getD (ch.getD (k/10) 0).toNat []) s (bH s a t ch fin k).2.1).1],(bZ (t.getD (ch.getD (k/10) 0).toNat []) s (bH s a t ch fin k).2.1).2.1,0,true)
  else((bH s a t ch fin k).1++[(bZ (t.getD (ch.getD (k/10) 0).toNat []) s (bH s a t ch fin k).2.1).1],(bZ (t.getD (ch.getD (k/10) 0).toNat []) s (bH s a t ch fin k).2.1).2.1,0,false):=by
 show(if(bH s a t ch fin k).2.2.1≠0\/(bH s a t ch fin k).2.2.2=true then bH s a t ch fin k else _)=_;rw[if_neg (by rw[h,h2];simp)]
theorem UK {s:List UInt8} {a:Int} {t:List (List Int)} {ch:List Int} {fin:Int} {k:Nat} (h:(bH s a t ch fin k).2.2.1≠0\/(bH s a t ch fin k).2.2.2=true):∀j,bH s a t ch fin (k+j)=bH s a t ch fin k
 |0=>rfl
 |j+1=>by
  have ih:=UK h j;show(if(bH s a t ch fin (k+j)).2.2.1≠0\/(bH s a t ch fin (k+j)).2.2.2=true then bH s a t ch fin (k+j) else _)=_;rw[ih,if_pos h]
theorem KS (s:List UInt8) (a:Int) (t:List (List Int)) (ch:List Int) (fin:Int):∀k,(bH s a t ch fin k).1.length<=k
 |0=>aA _
 |k+1=>by
  have ih:=KS s a t ch fin k;unfold bH;simp only
  split
  ·omega
  ·split
   ·show(bH s a t ch fin k).1.length<=_;omega
   ·split
    ·split
     ·rw[aL];simp;omega
     ·rw[aL];simp;omega
    ·rw[aL];simp;omega
theorem UL {s:List UInt8} {a:Int} {t:List (List Int)} {ch:List Int} {fin:Int} {k:Nat} {r:List Int} {p E:Int} {b:Bool} (hk:k<=10*ch.length) (h:bH s a t ch fin k=(r,p,E,b)) (hE:E≠0\/b=true):
  gX s a t ch fin=if E≠0 then([],0,E) else(r,p,0):=by
 have:=UK (s:=s) (a:=a) (t:=t) (ch:=ch) (fin:=fin) (k:=k) (by rw[h];exact hE) (10*ch.length-k);rw[show k+(10*ch.length-k)=10*ch.length by omega] at this;unfold gX;simp only[this,h];rcases hE with q|q
 ·rw[if_pos q,if_pos q]
 ·subst q;simp
theorem UM {l:List Int} {s:List UInt8} {a:Nat} (h:(bZ l s (a:Int)).2.2=0):(a:Int)<=(bZ l s (a:Int)).2.1/\(bZ l s (a:Int)).2.1<=8*(s.length:Int)/\0<=(bZ l s (a:Int)).1/\(bZ l s (a:Int)).1<(l.length:Int):=by
 have hc:bL l=0:=by
  unfold bZ at h;split at h
  ·next q=>exact absurd h q
  ·next q=>exact dK.1 q
 by_cases hex:∃i,i<l.length/\gZ l s a i
 ·obtain⟨i,hi,hf⟩:=hex;rw[uB hc hi hf];have:=hf.1;simp only
  omega
 ·exfalso;rw[uD hc (fun i hi hf=>hex ⟨i,hi,hf⟩)] at h;split at h<;>simp at h
theorem UN (s:List UInt8) (a c:Int):cV s a c=
  if aO s.length a 3≠0 then([],0,aO s.length a 3)
  else if aE s a 3<2\/6<aE s a 3 then([],0,3)
  else if aO s.length (a+3) 15≠0 then([],0,aO s.length (a+3) 15)
  else if aE s (a+3) 15=0 then([],0,3)
  else if(dD s (a+18) (aE s (a+3) 15) (aE s a 3)).2.2≠0 then([],0,(dD s (a+18) (aE s (a+3) 15) (aE s a 3)).2.2)
  else if(bF s (dD s (a+18) (aE s (a+3) 15) (aE s a 3)).2.1 c (aE s a 3)).2.2≠0 then([],0,(bF s (dD s (a+18) (aE s (a+3) 15) (aE s a 3)).2.1 c (aE s a 3)).2.2)
  else gX s (bF s (dD s (a+18) (aE s (a+3) 15) (aE s a 3)).2.1 c (aE s a 3)).2.1 (bF s (dD s (a+18) (aE s (a+3) 15) (aE s a 3)).2.1 c (aE s a 3)).1 (dD s (a+18) (aE s (a+3) 15) (aE s a 3)).1 (c-1):=rfl
theorem UO {s:List UInt8} {a n t:Nat} (ht1:2<=t) (ht2:t<=6) (hn:n<=1048576) (h:(dD s (a:Int) (n:Int) (t:Int)).2.2=0):
  (dD s (a:Int) (n:Int) (t:Int)).1.length=n/\(∀x∈(dD s (a:Int) (n:Int) (t:Int)).1,0<=x/\x<(t:Int))/\(a:Int)<=(dD s (a:Int) (n:Int) (t:Int)).2.1/\((dD s (a:Int) (n:Int) (t:Int)).2.1=(a:Int)\/(dD s (a:Int) (n:Int) (t:Int)).2.1<=8*(s.length:Int)):=by
 rw[DO s a n t ht1 ht2 hn] at h ⊢;split at h
 ·next q=>exact absurd h q
 ·next q=>
  rw[if_neg q];obtain⟨h1,h2,h3,h4⟩:=wG s (t:Int) (a:Int) (by omega) (by omega) n (dK.1 q);refine⟨by rw[bJ,oO];exact h1,fun x hx=>?_,h3,h4⟩;obtain⟨b,hb,rfl⟩:=dU.1 hx;have:=(KA ht2 b).1 (IQ _ _ (fun y hy=>by rw[oR];exact h2 y hy) b hb);omega
def wT (a:Int) (D:ByteArray×Int×Int×Int):Value:=.agg #[.string D.1,.int .u32 D.2.1,.int .i64 (if D.2.2.2=0 then a else 0),.int .i64 D.2.2.1]
theorem YM (a:Int) (x:ByteArray) (y z E:Int) (h:E≠0):wT a (x,y,z,E)=.agg #[.string x,.int .u32 y,.int .i64 0,.int .i64 z]:=by unfold wT;rw[if_neg h]
theorem MG (a:Int) (x:ByteArray) (y z:Int):wT a (x,y,z,0)=.agg #[.string x,.int .u32 y,.int .i64 a,.int .i64 z]:=by unfold wT;rw[if_pos rfl]
theorem YN:(Tryz.prog.info? 72).map (·.size)=some 4:=by kernel_rfl
theorem oZ {w W:World} {z:Nat} {x0 x1 x2 x3:Value} (hA:Arr W z 72 [x0,x1,x2,x3]) (hb:Below z w W) (y0 y1 y2 y3:Value):
  Arr ((((W.setCell ⟨z,0,none⟩ y0).setCell ⟨z,1,none⟩ y1).setCell ⟨z,2,none⟩ y2).setCell ⟨z,3,none⟩ y3) z 72 [y0,y1,y2,y3]/\
  Below z w ((((W.setCell ⟨z,0,none⟩ y0).setCell ⟨z,1,none⟩ y1).setCell ⟨z,2,none⟩ y2).setCell ⟨z,3,none⟩ y3):=
 ⟨(((hA.set 0 _).set 1 _).set 2 _).set 3 _,(((hb.setCell (p:=⟨z,0,none⟩) (aA _) _).setCell (p:=⟨z,1,none⟩) (aA _) _).setCell (p:=⟨z,2,none⟩) (aA _) _).setCell (p:=⟨z,3,none⟩) (aA _) _⟩
theorem wU (s:List UInt8) (a room:Int):cL s a room=
  if a<0\/room<1\/360<room then(cW,0,0,1)
  else if aO s.length a 48≠0 then(cW,0,0,aO s.length a 48)
  else if aE s a 48≠0x314159265359 then(cW,0,0,3)
  else if aO s.length (a+48) 32≠0 then(cW,0,0,aO s.length (a+48) 32)
  else if aO s.length (a+80) 16≠0 then(cW,0,0,aO s.length (a+80) 16)
  else if(cG s (a+96)).2.2≠0 then(cW,0,0,(cG s (a+96)).2.2)
  else if(cV s (cG s (a+96)).2.1 (((cG s (a+96)).1.length:Int)+2)).2.2≠0 then(cW,0,0,(cV s (cG s (a+96)).2.1 (((cG s (a+96)).1.length:Int)+2)).2.2)
  else if(rest (mkS (cG s (a+96)).1) (aE s (a+80) 16) (cV s (cG s (a+96)).2.1 (((cG s (a+96)).1.length:Int)+2)).1 room).2≠0 then(cW,0,0,(rest (mkS (cG s (a+96)).1) (aE s (a+80) 16) (cV s (cG s (a+96)).2.1 (((cG s (a+96)).1.length:Int)+2)).1 room).2)
  else if(fR (rest (mkS (cG s (a+96)).1) (aE s (a+80) 16) (cV s (cG s (a+96)).2.1 (((cG s (a+96)).1.length:Int)+2)).1 room).1.data.toList (52*room)).2≠0 then(cW,0,0,(fR (rest (mkS (cG s (a+96)).1) (aE s (a+80) 16) (cV s (cG s (a+96)).2.1 (((cG s (a+96)).1.length:Int)+2)).1 room).1.data.toList (52*room)).2)
  else if(fG (fR (rest (mkS (cG s (a+96)).1) (aE s (a+80) 16) (cV s (cG s (a+96)).2.1 (((cG s (a+96)).1.length:Int)+2)).1 room).1.data.toList (52*room)).1).toNat≠aE s (a+48) 32 then(cW,0,0,7)
  else(mkS (fR (rest (mkS (cG s (a+96)).1) (aE s (a+80) 16) (cV s (cG s (a+96)).2.1 (((cG s (a+96)).1.length:Int)+2)).1 room).1.data.toList (52*room)).1,(aE s (a+48) 32:Int),(cV s (cG s (a+96)).2.1 (((cG s (a+96)).1.length:Int)+2)).2.1,0):=rfl
theorem YO (a:ByteArray) (o:Int) (l:List Int) (most:Int) (h:(rest a o l most).2=0):((rest a o l most).1.size:Int)<=most:=by
 unfold rest at h ⊢;split at h
 ·simp at h
 ·next q1=>
  rw[if_neg q1];split at h
  ·simp at h
  ·next q2=>
   rw[if_neg q2];split at h
   ·simp at h
   ·next q3=>
    rw[if_neg q3];split at h
    ·simp at h
    ·next q4=>
     rw[if_neg q4];simp only
     rw[cP,CN,oO];omega
theorem YP {s:List UInt8} {a:Int} (h:(cG s a).2.2=0):(cG s a).1.length<=256/\a+16<=(cG s a).2.1/\(cG s a).2.1<=a+272:=by
 have hb:=yE s a 16;unfold cG at h ⊢;simp only at h ⊢
 by_cases k1:(cJ s a 16).2.2.2≠0
 ·rw[if_pos k1] at h;exact absurd h k1
 ·rw[if_neg k1] at h ⊢
  by_cases k2:(cJ s a 16).2.2.1=true
  ·rw[if_pos k2] at h;simp at h
  ·rw[if_neg k2];have:=hb.2 (dK.1 k1);exact⟨by have:=hb.1;omega,this.1,by have:=this.2;show(cJ s a 16).2.1<=_;omega⟩
def EV (w w':World) (s:List UInt8) (a room:Int) (e:Ending):Prop:=
 e=.returned (.tuple #[wT a (cL s a room),.int .i64 (cL s a room).2.2.2])/\Below w.heap.size w w'
theorem mQ {w w':World} {s:List UInt8} {a room E:Int} (h:cL s a room=(cW,0,0,E)) (hE:E≠0) (hb:Below w.heap.size w w'):EV w w' s a room (.returned (.tuple #[.agg #[.string cW,.int .u32 0,.int .i64 0,.int .i64 0],.int .i64 E])):=
 ⟨by rw[h,YM a _ _ _ _ hE],hb⟩
theorem aAl {p:List UInt8} {most:Int} (h:(fR p most).2=0):((fR p most).1.length:Int)<=most:=by
 unfold fR at h ⊢
 cases hu:dT p with
 |none=>rw[hu] at h;simp at h
 |some o=>
  rw[hu] at h;simp only at h ⊢;split at h
  ·simp at h
  ·next q=>rw[if_neg q];show(o.length:Int)<=most;omega
structure BIn (t:ByteArray) (P a:List UInt8) (m:List Int) (o n:Nat):Prop where
 hP:P=bC t.data.toList
 ha:a=bK P
 hm:m=sqS (mkS P)
 ho:(o:Int)=sqO (mkS P)
 hn:n=a.length+2
 hA:sqA (mkS P)=mkS a
 hE:sqE (mkS P)=0
 o16:o<65536
 an:a≠[]
 a256:a.length<=256
 n2:3<=n
 n258:n<=258
 m0:0<m.length
 m361:m.length<=9000
 rng:∀x∈m,0<=x/\x<(n:Int)
 c0:bL (dN m n 0)=0
 c1:bL (dN m n 1)=0
 l0:(dN m n 0).length=n
 l1:(dN m n 1).length=n
theorem BIn.of {t:ByteArray} (h0:0<t.size) (hp:(bC t.data.toList).length<=8000) (hO:fS (mkS (bC t.data.toList))):∃P a m o n,BIn t P a m o n:=by
 have htl:t.data.toList.length=t.size:=by simp
 have hne:t.data.toList≠[]:=fun e=>by rw[e] at htl;simp at htl;omega
 have hpl:=oS t.data.toList.length t.data.toList (aA _);have hpn:=hpl.2.1 hne;have hp0:0<(mkS (bC t.data.toList)).size:=by rw[cP];exact kV.2 hpn
 have hpsz:(mkS (bC t.data.toList)).size=(bC t.data.toList).length:=cP _;obtain⟨f1,f2,f3,f4⟩:=YJ hp0 hO;have hsl:=(LW (mkS (bC t.data.toList))).1;have hor:=MC hp0 hO;have hal:=rX (bC t.data.toList);have han:=BT hpn;have hoe:=EF hp0;have hsA:=zO hp0;rw[fW] at f1 hsA;have hal1:=kV.2 han;refine⟨_,_,_,fD (oOf (mkS (bC t.data.toList))) (mkS (bC t.data.toList)).size,_,rfl,rfl,rfl,hoe.symm,rfl,hsA,XZ hp0,by omega,han,hal,by omega,by omega,f2,by omega,f1,?_,?_,?_,?_⟩
 ·exact tB (by omega) (by omega) f1 (by omega)
 ·exact tB (by omega) (by omega) f1 (by omega)
 ·exact(rQ (by omega) (by omega) f1 (by omega)).2
 ·exact(rQ (by omega) (by omega) f1 (by omega)).2
end Go.Proofs.YtjkjeamepgjicaaGreatDoor
