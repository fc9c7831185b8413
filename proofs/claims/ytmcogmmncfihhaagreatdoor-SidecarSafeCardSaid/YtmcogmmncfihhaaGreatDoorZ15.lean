/-
  Texts put together (part 15): the walks and the plain laws on which the statement stands.
-/
import Derived.Test.YtmcogmmncfihhaaGreatDoorZ12
import Derived.Test.YtmcogmmncfihhaaGreatDoorZ14
set_option maxRecDepth 100000
set_option maxHeartbeats 12800000
set_option linter.unusedVariables false
set_option linter.unusedSimpArgs false
open Decidable renaming not_not->dK
open Go.IntKind renaming i64->aI,u64->fU,wrap_i64->aM,wrap_u64->gF
open Go.RowKit.Below renaming heap_alloc->oF,refl->aB
open Go.World renaming block_lt_of_cell?->iO
open Int renaming toNat_natCast->eG
open List renaming append_assoc->cF,flatMap_cons->sH,getD_eq_getElem?_getD->aV,getElem?_append_left->gS,getElem?_concat_length->AQ,getElem?_eq_getElem->aN,getElem?_eq_some_iff->eU,getElem?_map->dY,length_append->aL,length_map->bJ,length_nil->cX,length_pos_iff->kV,length_take->aX,mem_cons_self->lY,take_add_one->cQ,take_of_length_le->cS
open Nat renaming le_refl->aA,le_trans->aW,lt_succ_self->sG,zero_le->aU
open Option.some renaming inj->bW
namespace Go.Proofs.YtmcogmmncfihhaaGreatDoor
section
open Go.RowKit Go Go.Shelf
def BX (A:List UInt8):List Int:=A.map (fun b=>(b.toNat:Int))
theorem ZF (A:List UInt8) (i:Nat):EN (BX A) i=BX (eF A i):=by unfold EN eF BX;simp[List.map_take,List.map_drop]
theorem aO1 (A:List UInt8) (i:Nat):(BX A).getD i 0=((A.getD i 0).toNat:Int):=by
 unfold BX;rw[aV,dY,aV]
 cases A[i]? <;>rfl
theorem ZG:BX (cC 6)=ZD:=rfl
theorem tG (A:List UInt8):(BX A).length=A.length:=bJ ..
theorem EP:∀(l:List Int) (A:List UInt8),(∀x∈l,0<=x/\x<(A.length:Int))->(unA A l).length=A.length
 |[],_,_=>rfl
 |x::l,A,h=>by
  have hx:=h x (lY ..);show(unA (eF A x.toNat) l).length=_;rw[EP l _ (fun y hy=>by rw[vS];exact h y (List.mem_cons_of_mem _ hy)),vS]
theorem aO2 (s:ByteArray) (a n t:Nat) (w:World) (hs:s.size<=1000000) (ha:a<=80000000) (hn:n<=40000) (ht1:2<=t) (ht2:t<=6):
  Calls Tryz.prog 119 #[.string s,.int .i64 (a:Int),.int .i64 (n:Int),.int .i64 (t:Int)] w fun e w'=>yX w w' s.data.toList a n t e:=by
 have HL:=hid (show s.data.toList.length=s.size by simp);have t4:decide ((a:Int)<0)=false:=decide_eq_false (by omega);have t5:decide ((n:Int)<0)=false:=decide_eq_false (by omega);have t6:decide ((n:Int)>1048576)=false:=decide_eq_false (by omega);have t7:decide (1048576<(n:Int))=false:=decide_eq_false (by omega);have HERR:=hid (fun k hk=>UD (s:=s.data.toList) (a:=a) (n:=n) (k:=k) ht1 ht2 (by omega) hk);have HEQ:=hid (DO s.data.toList a n t ht1 ht2 (by omega));have HOK:=hid (fun k=>wG s.data.toList (t:Int) (a:Int) (by omega) (by omega) k);go_enter Tryz.func119,Tryz.ntmps119
 go_wp2_with fail;refine(ZC t _ ht1 ht2).mono ?_;rintro e w0 ⟨rfl,rfl⟩;go_wp2_with fail;refine(ZE (t:Int) _).mono ?_;rintro e w1 ⟨rfl,hA1,hb1,hz1⟩;obtain⟨z,hz⟩:∃z,z=w0.heap.size:=⟨_,rfl⟩;rw[<-hz] at hA1 hb1 hz1 ⊢;have HZ:=hid hz;clear hz;rw[<-ZG] at hA1;go_wp2_with fail
 go_loopg [1,8,12,13,14,33] n (fun g s1 s8 _s12 _s13 _s14 s33 wr=>∃(k p:Nat) (v:Value) (L:List Int),k<=n/\g=n-k/\v=s8/\s33=.int .i64 (k:Int)/\s1=.int .i64 (p:Int)/\p<=80000000/\Hid (cO s.data.toList (t:Int) (a:Int) k=(L,(p:Int),0))/\OwI wr (z+1) v (BX (unL (cC 6) L))/\Arr wr z 232 (iX (BX (unA (cC 6) L)) (t:Int))/\Below z w0 wr/\z<wr.heap.size)
 case atStart=>exact⟨0,a,_,[],aU _,rfl,rfl,rfl,rfl,ha,hid rfl,OwI.nil _ _,hA1,hb1,hz1⟩
 case round=>
  clear hA1 hb1 hz1;obtain⟨k,p,v,L,hk,hg,rfl,rfl,rfl,hp,HK,ho,hA,hbel,hzr⟩:=hrel;have HG:=hid hg;clear hg
  by_cases hlt:k<n
  ·have v1:decide ((k:Int)<(n:Int))=true:=decide_eq_true (by omega);have hst:=UB (s:=s.data.toList) (t:=(t:Int)) (a:=(a:Int)) (k:=k) (by rw[HK.out]);rw[HK.out] at hst;simp only at hst;have hok:=HOK.out k (by rw[HK.out]);rw[HK.out] at hok;obtain⟨o1,o2,o3,o4⟩:=hok;simp only at o1 o2 o3 o4;have HLb:=hid o2;obtain⟨R,hR⟩:∃R,R=gV s.data.toList (t:Int) (p:Int) 0:=⟨_,rfl⟩;have hAok:=DC s.data.toList (t:Int) (8*s.data.toList.length+2) (p:Int) 0 (by omega) (by omega) (by omega);rw[show jK s.data.toList (t:Int) (8*s.data.toList.length+2) (p:Int) 0=R from hR.symm,HL.out] at hAok
   rw[<-hR] at hst;have HST:=hid hst;have HAK:=hid hAok;have HR:=hid hR.symm;clear hst hAok hR o1 o2 o3 o4;go_wp2_with fail
   go_loopg [1,8,12,13,14] (8*s.size+2-p) (fun g s1 s8 s12 _s13 _s14 wx=>∃q m:Nat,q<=80000000+m/\m<t/\g=8*s.size+2-q/\v=s8/\s1=.int .i64 (q:Int)/\s12=.int .i64 (m:Int)/\Hid (gV s.data.toList (t:Int) (q:Int) (m:Int)=R)/\wx=wr)
   case atStart=>exact⟨p,0,by omega,by omega,rfl,rfl,rfl,rfl,HR,rfl⟩
   case round=>
    obtain⟨q,m,hq,hm,hg,rfl,rfl,rfl,HP,rfl⟩:=hrel;have HG2:=hid hg;clear hg;have hst:=DB s.data.toList (t:Int) (q:Int) (m:Int) (by omega);rw[HP.out,HL.out] at hst;have hg1:=fun W=>sT s (q:Int) 1 W hs (by omega) (by omega) (by omega)
    have hok1:=fQ (n:=s.size) (at':=(q:Int)) (k:=1);have hv1:=iA s.data.toList (q:Int) 1;obtain⟨E1,hE1⟩:∃E1,E1=aO s.size (q:Int) 1:=⟨_,rfl⟩;obtain⟨V1,hV1⟩:∃V1,V1=aE s.data.toList (q:Int) 1:=⟨_,rfl⟩;rw[<-hE1,<-hV1] at hst;rw[<-hE1] at hg1 hok1;rw[<-hV1] at hg1 hv1;clear hE1 hV1;have m1:aI.wrap ((q:Int)+1)=((q:Int)+1):=by rw[aM];omega
    have m2:aI.wrap ((m:Int)+1)=((m:Int)+1):=by rw[aM];omega
    have d6:wr.cell? ⟨z,6,none⟩=some (.int .i64 (t:Int)):=hA.cell (by
     unfold iX;rw[List.getElem?_append_right (by rw[bJ,tG,EP _ _ (fun x hx=>by rw[oR];have:=HLb.out x hx;omega),oR];exact aA _),bJ,tG,EP _ _ (fun x hx=>by rw[oR];have:=HLb.out x hx;omega),oR];rfl)
    by_cases h1:E1=0
    rotate_left
    ·rw[if_pos h1] at hst;have u1:(E1 != 0)=true:=by simpa using h1
     have hF:=HERR.out (k+1) (by omega) (by rw[HST.out,hst];exact(by rw[if_pos h1];exact h1));rw[HST.out,hst,if_pos h1] at hF;have HF:=hid hF;clear hst hF d6;go_wp2_with fail;refine(hg1 _).mono ?_;rintro e w2 ⟨rfl,rfl⟩;go_wp2_with fail
     go_ret3
     exact KN HF.out (HZ.out▸hbel)
    subst h1;rw[if_neg (fun k=>k rfl)] at hst;have hok1:=hok1 rfl
    by_cases h2:V1=0
    ·subst h2;rw[if_pos rfl] at hst;have hS:cO s.data.toList (t:Int) (a:Int) (k+1)=(L++[(m:Int)],(q:Int)+1,0):=by rw[HST.out,hst];rfl
     have HS:=hid hS;have hAl:(unA (cC 6) L).length=6:=by
      rw[EP _ _ (fun x hx=>by rw[oR];have:=HLb.out x hx;omega),oR]
     have hfr:=ZB z (BX (unA (cC 6) L)) (t:Int) m (by rw[tG];exact hAl) (by omega) wr hA;rw[ZF,aO1] at hfr;have HU:=hid (show unL (cC 6) (L++[(m:Int)])=unL (cC 6) L++[(unA (cC 6) L).getD m 0] by rw[IN,eG]);have HV:=hid (show unA (cC 6) (L++[(m:Int)])=eF (unA (cC 6) L) m by rw[IP,eG]);obtain⟨C,hC⟩:∃C,C=(unA (cC 6) L).getD m 0:=⟨_,rfl⟩;rw[<-hC] at hfr HU;have hLl:(BX (unL (cC 6) L)).length<=40000:=by
      rw[tG,oO];have:=(HOK.out k (by rw[HK.out])).1;rw[HK.out] at this;have:L.length=k:=this;omega
     clear hst d6 hS hC hAl;go_wp2_with fail;refine(hg1 _).mono ?_;rintro e w2 ⟨rfl,rfl⟩;go_wp2_with fail;refine hfr.mono ?_;rintro e w3 ⟨rfl,hA3,hg3⟩;have ho3:OwI w3 (z+1) v (BX (unL (cC 6) L)):=Ow.kept ho hg3 (iL ho (sG z));have hb3:=hbel.grown hg3 (by omega) (fun k hk=>by obtain rfl:=bW hk;exact aA _);have hs3:=hg3.size;clear hfr ho hg3;go_wp2_with (at_builtin;refine eN rfl _ _ rfl (z+1) _ _ rfl (OwI.alloc ho3 _) _ (C.toNat:Int) rfl (bS _ _ _) ?_ ?_ ?_;(omega);(simp;omega);intro v4 w4 r1 r2 r3);have hg:=HG.out
     go_roundg (n-(k+1))
     case measure=>omega
     case rel=>
      refine⟨k+1,q+1,_,L++[(m:Int)],by omega,rfl,rfl,by go_num,by go_num,by omega,hid (by rw[HS.out];push_cast;rfl),?_,?_,(hb3.alloc (by omega) _).trans (r2.mono (by omega)),?_⟩
      ·rw[HU.out];unfold BX at r1 ⊢;rw[List.map_append];exact r1
      ·rw[HV.out];exact((Arr.alloc hA3 _).below r2 (sG z))
      ·have:=r2.size;simp only[World.size_alloc] at this;omega
    ·rw[if_neg h2] at hst;have v2:((V1:Int)==0)=false:=by rw[beq_eq_false_iff_ne];omega
     have v3:(V1==0)=false:=by rw[beq_eq_false_iff_ne];omega
     by_cases h3:(m:Int)+1=(t:Int)
     ·rw[if_pos h3] at hst;have v4:((m:Int)+1==(t:Int))=true:=by rw[beq_iff_eq];exact h3
      have hF:=HERR.out (k+1) (by omega) (by rw[HST.out,hst];exact(by decide:(3:Int)≠0));rw[HST.out,hst] at hF;have HF:=hid hF;clear hst hF h3;go_wp2_with fail;refine(hg1 _).mono ?_;rintro e w2 ⟨rfl,rfl⟩;go_wp2_with fail
      go_ret3
      exact KN HF.out (HZ.out▸hbel)
     ·rw[if_neg h3] at hst;have v4:((m:Int)+1==(t:Int))=false:=by rw[beq_eq_false_iff_ne];exact h3
      have HS:=hid hst.symm;clear hst;go_wp2_with fail;refine(hg1 _).mono ?_;rintro e w2 ⟨rfl,rfl⟩;go_wp2_with fail;have hg2:=HG2.out
      go_roundg (8*s.size+2-(q+1))
      case measure=>omega
      case rel=>exact⟨q+1,m+1,by omega,by omega,rfl,rfl,by go_num,by go_num,by push_cast;exact HS,rfl⟩
  ·have v1:decide ((k:Int)<(n:Int))=false:=decide_eq_false (by omega);have hke:k=n:=by omega
   subst hke;have hEQ:=HEQ.out;rw[HK.out] at hEQ;have hok:=HOK.out k (by rw[HK.out]);rw[HK.out] at hok;have hU:unL (cC t) L=unL (cC 6) L:=by
    rw[JZ ht2,(SD L (cC t) _ (fun x hx=>by rw[oR];exact hok.2.1 x hx)).1]
   have HF:=hid (show dD s.data.toList (a:Int) (k:Int) (t:Int)=(BX (unL (cC 6) L),(p:Int),0) by
    rw[hEQ,if_neg (fun q=>q rfl),<-hU];rfl)
   clear hEQ hok hU;go_wp2_with fail
   go_ret3
   exact⟨_,by rw[HF.out];rfl,by rw[HF.out];exact Ow.base ho (by rw[<-HZ.out];omega),HZ.out▸hbel⟩
theorem KR {s:List UInt8} {a c:Int} {k:Nat} (h:(bF s a c k).2.2=0):bF s a c (k+1)=
  if(eJ s (bF s a c k).2.1 c).2.2≠0 then((bF s a c k).1,(bF s a c k).2.1,(eJ s (bF s a c k).2.1 c).2.2)
  else if bL (eJ s (bF s a c k).2.1 c).1≠0 then((bF s a c k).1,(bF s a c k).2.1,bL (eJ s (bF s a c k).2.1 c).1)
  else((bF s a c k).1++[(eJ s (bF s a c k).2.1 c).1],(eJ s (bF s a c k).2.1 c).2.1,0):=by
 show(if(bF s a c k).2.2≠0 then bF s a c k else _)=_;rw[if_neg (fun q=>q h)]
theorem DP {s:List UInt8} {a c:Int} {k:Nat} (h:(bF s a c k).2.2≠0):∀j,(bF s a c (k+j)).2.2=(bF s a c k).2.2
 |0=>rfl
 |j+1=>by
  have ih:=DP h j;show(if(bF s a c (k+j)).2.2≠0 then bF s a c (k+j) else _).2.2=_;rw[if_pos (by rw[ih];exact h),ih]
theorem DQ {s:List UInt8} {a c:Int} (h0:0<=a):∀k,(bF s a c k).2.2=0->a<=(bF s a c k).2.1/\((bF s a c k).2.1=a\/(bF s a c k).2.1<=8*(s.length:Int))
 |0,_=>⟨Int.le_refl _,.inl rfl⟩
 |k+1,h=>by
  have hk:(bF s a c k).2.2=0:=by
   rcases Decidable.em ((bF s a c k).2.2=0) with q|q
   ·exact q
   ·have:=DP q 1;rw[h] at this;exact this.symm
  obtain⟨h1,h2⟩:=DQ (s:=s) (c:=c) h0 k hk;rw[KR hk] at h ⊢;split at h
  ·next q=>exact absurd h q
  ·next q=>
   rw[if_neg q];split at h
   ·next q2=>exact absurd h q2
   ·next q2=>
    rw[if_neg q2];have q:=dK.1 q;unfold eJ at q ⊢;split at q
    ·simp at q
    ·next k1=>
     rw[if_neg k1];simp only at q ⊢;split at q
     ·next k2=>exact absurd q k2
     ·next k2=>
      rw[if_neg k2];have:=yR s (bF s a c k).2.1 (by omega) c.toNat (dK.1 k2);show a<=(aZ s (bF s a c k).2.1 c.toNat).2.2.1/\((aZ s (bF s a c k).2.1 c.toNat).2.2.1=a\/(aZ s (bF s a c k).2.1 c.toNat).2.2.1<=_);omega
def fE (w:World) (B:Nat) (xs:List Value) (gs:List (List Int)):Prop:=xs.length=gs.length/\∀(j:Nat) (x:Value) (g:List Int),xs[j]? =some x->gs[j]? =some g->OwI w B x g
theorem fE.nil (w:World) (B:Nat):fE w B [] []:=⟨rfl,fun j x g h=>by simp at h⟩
theorem fE.map {w w':World} {B B':Nat} {xs:List Value} {gs:List (List Int)} (h:fE w B xs gs) (k:∀(x:Value) (g:List Int),OwI w B x g->OwI w' B' x g):fE w' B' xs gs:=⟨h.1,fun j x g hx hg=>k x g (h.2 j x g hx hg)⟩
theorem fE.below {w w':World} {B:Nat} {xs:List Value} {gs:List (List Int)} (h:fE w B xs gs) (hb:Below w.heap.size w w'):fE w' B xs gs:=h.map (fun _ _ k=>OwI.below k hb (aA _))
theorem fE.alloc {w:World} {B:Nat} {xs:List Value} {gs:List (List Int)} (h:fE w B xs gs) (o:Obj):fE (w.alloc o) B xs gs:=h.map (fun _ _ k=>OwI.alloc k o)
theorem fE.ok {w:World} {B:Nat} {xs:List Value} {gs:List (List Int)} (h:fE w B xs gs):LOK w xs gs:=⟨h.1,fun j x g hx hg=>OwI.rd (h.2 j x g hx hg)⟩
theorem fE.app {w w':World} {B B':Nat} {xs ys:List Value} {gs:List (List Int)} {v:Value} (h:fE w B xs gs) (ho:Ow w B' 57 v ys) (hg:w.grownBy w' v.ownBlock):fE w' B xs gs:=h.map (fun _ _ k=>Ow.kept k hg (qO k ho (by decide)))
theorem fE.snoc {w:World} {B:Nat} {xs:List Value} {gs:List (List Int)} (h:fE w B xs gs) {x:Value} {g:List Int} (hx:OwI w B x g):fE w B (xs++[x]) (gs++[g]):=by
 refine⟨by rw[aL,aL,h.1];rfl,fun j x' g' h1 h2=>?_⟩
 by_cases hj:j<xs.length
 ·rw[gS hj] at h1;rw[gS (by rw[<-h.1];exact hj)] at h2;exact h.2 j x' g' h1 h2
 ·have hjl:=(eU.1 h1).1;rw[aL,List.length_singleton] at hjl;obtain rfl:j=xs.length:=by omega
  rw[AQ] at h1;rw[h.1,AQ] at h2;obtain rfl:=bW h1;obtain rfl:=bW h2;exact hx
theorem UJ {s:List UInt8} {a:Int} {t:List (List Int)} {ch:List Int} {fin:Int} {k:Nat} (h:(bH s a t ch fin k).2.2.1=0) (h2:(bH s a t ch fin k).2.2.2=false):bH s a t ch fin (k+1)=
  if(bZ (t.getD (ch.getD (k/10) 0).toNat []) s (bH s a t ch fin k).2.1).2.2≠0 then((bH s a t ch fin k).1,(bH s a t ch fin k).2.1,(bZ (t.getD (ch.getD (k/10) 0).toNat []) s (bH s a t ch fin k).2.1).2.2,false)
  else if(bZ (t.getD (ch.getD (k/10) 0).toNat []) s (bH s a t ch fin k).2.1).1=fin then
   if k/10+1<ch.length then((bH s a t ch fin k).1++[(bZ (t.getD (ch.getD (k/10) 0).toNat []) s (bH s a t ch fin k).2.1).1],(bZ (t.getD (ch.getD (k/10) 0).toNat []) s (bH s a t ch fin k).2.1).2.1,3,false)
   else((bH s a t ch fin k).1++[(bZ (t.getD (ch.getD (k/10) 0).toNat []) s (bH s a t ch fin k).2.1).1],(bZ (t.getD (ch.getD (k/10) 0).toNat []) s (bH s a t ch fin k).2.1).2.1,0,true)
  else((bH s a t ch fin k).1++[(bZ (t.getD (ch.getD (k/10) 0).toNat []) s (bH s a t ch fin k).2.1).1],(bZ (t.getD (ch.getD (k/10) 0).toNat []) s (bH s a t ch fin k).2.1).2.1,0,false):=by
 show(if(bH s a t ch fin k).2.2.1≠0\/(bH s a t ch fin k).2.2.2=true then bH s a t ch fin k else _)=_;rw[if_neg (by rw[h,h2];simp)]
theorem UK {s:List UInt8} {a:Int} {t:List (List Int)} {ch:List Int} {fin:Int} {k:Nat} (h:(bH s a t ch fin k).2.2.1≠0\/(bH s a t ch fin k).2.2.2=true):∀j,bH s a t ch fin (k+j)=bH s a t ch fin k
 |0=>rfl
 |j+1=>by
  have ih:=UK h j;show(if(bH s a t ch fin (k+j)).2.2.1≠0\/(bH s a t ch fin (k+j)).2.2.2=true then bH s a t ch fin (k+j) else _)=_;rw[ih,if_pos h]
theorem KS (s:List UInt8) (a:Int) (t:List (List Int)) (ch:List Int) (fin:Int):∀k,(bH s a t ch fin k).1.length<=k
 |0=>aA _
 |k+1=>by
  have ih:=KS s a t ch fin k;unfold bH;simp only
  split
  ·omega
  ·split
   ·show(bH s a t ch fin k).1.length<=_;omega
   ·split
    ·split
     ·rw[aL];simp;omega
     ·rw[aL];simp;omega
    ·rw[aL];simp;omega
theorem UL {s:List UInt8} {a:Int} {t:List (List Int)} {ch:List Int} {fin:Int} {k:Nat} {r:List Int} {p E:Int} {b:Bool} (hk:k<=10*ch.length) (h:bH s a t ch fin k=(r,p,E,b)) (hE:E≠0\/b=true):
  gX s a t ch fin=if E≠0 then([],0,E) else(r,p,0):=by
 have:=UK (s:=s) (a:=a) (t:=t) (ch:=ch) (fin:=fin) (k:=k) (by rw[h];exact hE) (10*ch.length-k);rw[show k+(10*ch.length-k)=10*ch.length by omega] at this;unfold gX;simp only[this,h];rcases hE with q|q
 ·rw[if_pos q,if_pos q]
 ·subst q;simp
theorem UM {l:List Int} {s:List UInt8} {a:Nat} (h:(bZ l s (a:Int)).2.2=0):(a:Int)<=(bZ l s (a:Int)).2.1/\(bZ l s (a:Int)).2.1<=8*(s.length:Int)/\0<=(bZ l s (a:Int)).1/\(bZ l s (a:Int)).1<(l.length:Int):=by
 have hc:bL l=0:=by
  unfold bZ at h;split at h
  ·next q=>exact absurd h q
  ·next q=>exact dK.1 q
 by_cases hex:∃i,i<l.length/\gZ l s a i
 ·obtain⟨i,hi,hf⟩:=hex;rw[uB hc hi hf];have:=hf.1;simp only
  omega
 ·exfalso;rw[uD hc (fun i hi hf=>hex ⟨i,hi,hf⟩)] at h;split at h<;>simp at h
theorem UN (s:List UInt8) (a c:Int):cV s a c=
  if aO s.length a 3≠0 then([],0,aO s.length a 3)
  else if aE s a 3<2\/6<aE s a 3 then([],0,3)
  else if aO s.length (a+3) 15≠0 then([],0,aO s.length (a+3) 15)
  else if aE s (a+3) 15=0 then([],0,3)
  else if(dD s (a+18) (aE s (a+3) 15) (aE s a 3)).2.2≠0 then([],0,(dD s (a+18) (aE s (a+3) 15) (aE s a 3)).2.2)
  else if(bF s (dD s (a+18) (aE s (a+3) 15) (aE s a 3)).2.1 c (aE s a 3)).2.2≠0 then([],0,(bF s (dD s (a+18) (aE s (a+3) 15) (aE s a 3)).2.1 c (aE s a 3)).2.2)
  else gX s (bF s (dD s (a+18) (aE s (a+3) 15) (aE s a 3)).2.1 c (aE s a 3)).2.1 (bF s (dD s (a+18) (aE s (a+3) 15) (aE s a 3)).2.1 c (aE s a 3)).1 (dD s (a+18) (aE s (a+3) 15) (aE s a 3)).1 (c-1):=rfl
theorem UO {s:List UInt8} {a n t:Nat} (ht1:2<=t) (ht2:t<=6) (hn:n<=1048576) (h:(dD s (a:Int) (n:Int) (t:Int)).2.2=0):
  (dD s (a:Int) (n:Int) (t:Int)).1.length=n/\(∀x∈(dD s (a:Int) (n:Int) (t:Int)).1,0<=x/\x<(t:Int))/\(a:Int)<=(dD s (a:Int) (n:Int) (t:Int)).2.1/\((dD s (a:Int) (n:Int) (t:Int)).2.1=(a:Int)\/(dD s (a:Int) (n:Int) (t:Int)).2.1<=8*(s.length:Int)):=by
 rw[DO s a n t ht1 ht2 hn] at h ⊢;split at h
 ·next q=>exact absurd h q
 ·next q=>
  rw[if_neg q];obtain⟨h1,h2,h3,h4⟩:=wG s (t:Int) (a:Int) (by omega) (by omega) n (dK.1 q);refine⟨by rw[bJ,oO];exact h1,fun x hx=>?_,h3,h4⟩;obtain⟨b,hb,rfl⟩:=List.mem_map.1 hx;have:=(KA ht2 b).1 (IQ _ _ (fun y hy=>by rw[oR];exact h2 y hy) b hb);omega
def wT (a:Int) (D:ByteArray×Int×Int×Int):Value:=.agg #[.string D.1,.int .u32 D.2.1,.int .i64 (if D.2.2.2=0 then a else 0),.int .i64 D.2.2.1]
theorem YM (a:Int) (x:ByteArray) (y z E:Int) (h:E≠0):wT a (x,y,z,E)=.agg #[.string x,.int .u32 y,.int .i64 0,.int .i64 z]:=by unfold wT;rw[if_neg h]
theorem MG (a:Int) (x:ByteArray) (y z:Int):wT a (x,y,z,0)=.agg #[.string x,.int .u32 y,.int .i64 a,.int .i64 z]:=by unfold wT;rw[if_pos rfl]
theorem YN:(Tryz.prog.info? 61).map (·.size)=some 4:=by kernel_rfl
theorem oZ {w W:World} {z:Nat} {x0 x1 x2 x3:Value} (hA:Arr W z 61 [x0,x1,x2,x3]) (hb:Below z w W) (y0 y1 y2 y3:Value):
  Arr ((((W.setCell ⟨z,0,none⟩ y0).setCell ⟨z,1,none⟩ y1).setCell ⟨z,2,none⟩ y2).setCell ⟨z,3,none⟩ y3) z 61 [y0,y1,y2,y3]/\
  Below z w ((((W.setCell ⟨z,0,none⟩ y0).setCell ⟨z,1,none⟩ y1).setCell ⟨z,2,none⟩ y2).setCell ⟨z,3,none⟩ y3):=
 ⟨(((hA.set 0 _).set 1 _).set 2 _).set 3 _,(((hb.setCell (p:=⟨z,0,none⟩) (aA _) _).setCell (p:=⟨z,1,none⟩) (aA _) _).setCell (p:=⟨z,2,none⟩) (aA _) _).setCell (p:=⟨z,3,none⟩) (aA _) _⟩
theorem wU (s:List UInt8) (a room:Int):cL s a room=
  if a<0\/room<1\/360<room then(cW,0,0,1)
  else if aO s.length a 48≠0 then(cW,0,0,aO s.length a 48)
  else if aE s a 48≠0x314159265359 then(cW,0,0,3)
  else if aO s.length (a+48) 32≠0 then(cW,0,0,aO s.length (a+48) 32)
  else if aO s.length (a+80) 16≠0 then(cW,0,0,aO s.length (a+80) 16)
  else if(cG s (a+96)).2.2≠0 then(cW,0,0,(cG s (a+96)).2.2)
  else if(cV s (cG s (a+96)).2.1 (((cG s (a+96)).1.length:Int)+2)).2.2≠0 then(cW,0,0,(cV s (cG s (a+96)).2.1 (((cG s (a+96)).1.length:Int)+2)).2.2)
  else if(rest (mkS (cG s (a+96)).1) (aE s (a+80) 16) (cV s (cG s (a+96)).2.1 (((cG s (a+96)).1.length:Int)+2)).1 room).2≠0 then(cW,0,0,(rest (mkS (cG s (a+96)).1) (aE s (a+80) 16) (cV s (cG s (a+96)).2.1 (((cG s (a+96)).1.length:Int)+2)).1 room).2)
  else if(fR (rest (mkS (cG s (a+96)).1) (aE s (a+80) 16) (cV s (cG s (a+96)).2.1 (((cG s (a+96)).1.length:Int)+2)).1 room).1.data.toList (52*room)).2≠0 then(cW,0,0,(fR (rest (mkS (cG s (a+96)).1) (aE s (a+80) 16) (cV s (cG s (a+96)).2.1 (((cG s (a+96)).1.length:Int)+2)).1 room).1.data.toList (52*room)).2)
  else if(fG (fR (rest (mkS (cG s (a+96)).1) (aE s (a+80) 16) (cV s (cG s (a+96)).2.1 (((cG s (a+96)).1.length:Int)+2)).1 room).1.data.toList (52*room)).1).toNat≠aE s (a+48) 32 then(cW,0,0,7)
  else(mkS (fR (rest (mkS (cG s (a+96)).1) (aE s (a+80) 16) (cV s (cG s (a+96)).2.1 (((cG s (a+96)).1.length:Int)+2)).1 room).1.data.toList (52*room)).1,(aE s (a+48) 32:Int),(cV s (cG s (a+96)).2.1 (((cG s (a+96)).1.length:Int)+2)).2.1,0):=rfl
theorem YO (a:ByteArray) (o:Int) (l:List Int) (most:Int) (h:(rest a o l most).2=0):((rest a o l most).1.size:Int)<=most:=by
 unfold rest at h ⊢;split at h
 ·simp at h
 ·next q1=>
  rw[if_neg q1];split at h
  ·simp at h
  ·next q2=>
   rw[if_neg q2];split at h
   ·simp at h
   ·next q3=>
    rw[if_neg q3];split at h
    ·simp at h
    ·next q4=>
     rw[if_neg q4];simp only
     rw[cP,CN,oO];omega
theorem YP {s:List UInt8} {a:Int} (h:(cG s a).2.2=0):(cG s a).1.length<=256/\a+16<=(cG s a).2.1/\(cG s a).2.1<=a+272:=by
 have hb:=yE s a 16;unfold cG at h ⊢;simp only at h ⊢
 by_cases k1:(cJ s a 16).2.2.2≠0
 ·rw[if_pos k1] at h;exact absurd h k1
 ·rw[if_neg k1] at h ⊢
  by_cases k2:(cJ s a 16).2.2.1=true
  ·rw[if_pos k2] at h;simp at h
  ·rw[if_neg k2];have:=hb.2 (dK.1 k1);exact⟨by have:=hb.1;omega,this.1,by have:=this.2;show(cJ s a 16).2.1<=_;omega⟩
def EV (w w':World) (s:List UInt8) (a room:Int) (e:Ending):Prop:=
 e=.returned (.tuple #[wT a (cL s a room),.int .i64 (cL s a room).2.2.2])/\Below w.heap.size w w'
theorem mQ {w w':World} {s:List UInt8} {a room E:Int} (h:cL s a room=(cW,0,0,E)) (hE:E≠0) (hb:Below w.heap.size w w'):EV w w' s a room (.returned (.tuple #[.agg #[.string cW,.int .u32 0,.int .i64 0,.int .i64 0],.int .i64 E])):=
 ⟨by rw[h,YM a _ _ _ _ hE],hb⟩
theorem aAl {p:List UInt8} {most:Int} (h:(fR p most).2=0):((fR p most).1.length:Int)<=most:=by
 unfold fR at h ⊢
 cases hu:dT p with
 |none=>rw[hu] at h;simp at h
 |some o=>
  rw[hu] at h;simp only at h ⊢;split at h
  ·simp at h
  ·next q=>rw[if_neg q];show(o.length:Int)<=most;omega
structure BIn (t:ByteArray) (P a:List UInt8) (m:List Int) (o n:Nat):Prop where
 hP:P=bC t.data.toList
 ha:a=bK P
 hm:m=sqS (mkS P)
 ho:(o:Int)=sqO (mkS P)
 hn:n=a.length+2
 hA:sqA (mkS P)=mkS a
 hE:sqE (mkS P)=0
 o16:o<65536
 an:a≠[]
 a256:a.length<=256
 n2:3<=n
 n258:n<=258
 m0:0<m.length
 m361:m.length<=9000
 rng:∀x∈m,0<=x/\x<(n:Int)
 c0:bL (dN m n 0)=0
 c1:bL (dN m n 1)=0
 l0:(dN m n 0).length=n
 l1:(dN m n 1).length=n
theorem BIn.of {t:ByteArray} (h0:0<t.size) (hp:(bC t.data.toList).length<=8000) (hO:fS (mkS (bC t.data.toList))):∃P a m o n,BIn t P a m o n:=by
 have htl:t.data.toList.length=t.size:=by simp
 have hne:t.data.toList≠[]:=fun e=>by rw[e] at htl;simp at htl;omega
 have hpl:=oS t.data.toList.length t.data.toList (aA _);have hpn:=hpl.2.1 hne;have hp0:0<(mkS (bC t.data.toList)).size:=by rw[cP];exact kV.2 hpn
 have hpsz:(mkS (bC t.data.toList)).size=(bC t.data.toList).length:=cP _;obtain⟨f1,f2,f3,f4⟩:=YJ hp0 hO;have hsl:=(LW (mkS (bC t.data.toList))).1;have hor:=MC hp0 hO;have hal:=rX (bC t.data.toList);have han:=BT hpn;have hoe:=EF hp0;have hsA:=zO hp0;rw[fW] at f1 hsA;have hal1:=kV.2 han;refine⟨_,_,_,fD (oOf (mkS (bC t.data.toList))) (mkS (bC t.data.toList)).size,_,rfl,rfl,rfl,hoe.symm,rfl,hsA,XZ hp0,by omega,han,hal,by omega,by omega,f2,by omega,f1,?_,?_,?_,?_⟩
 ·exact tB (by omega) (by omega) f1 (by omega)
 ·exact tB (by omega) (by omega) f1 (by omega)
 ·exact(rQ (by omega) (by omega) f1 (by omega)).2
 ·exact(rQ (by omega) (by omega) f1 (by omega)).2
theorem BIn.blk {t:ByteArray} {P a:List UInt8} {m:List Int} {o n:Nat} (h:BIn t P a m o n):cB t=aY 0x314159265359 48++aY (fG t.data.toList).toNat 32++aY o 16++fZ a++(aY 2 3++aY (cT m n).length 15++dE (dO (cT m n))++dW (dN m n 0)++dW (dN m n 1)++gP (dN m n 0) (dN m n 1) (cT m n) (cK m)):=by
 have e:(sqO (mkS (bC t.data.toList))).toNat=o:=by have:=h.ho;rw[h.hP] at this;omega
 unfold cB oB yV rV;rw[e,<-h.hP,<-h.ha,<-h.hm,<-h.hn]
theorem YS {l g:List Int} (h:fY l) (hg:∀x∈g,0<=x/\x<(l.length:Int)) (h0:0<g.length):0<(eR l g).length:=by
 cases g with
 |nil=>simp at h0
 |cons x g=>
  have hx:=hg x (lY ..);have:=(jG h (s:=x.toNat) (by omega)).1;unfold eR;rw[sH,aL,cY];omega
theorem aOr (s:List UInt8):0<(fZ s).length:=by
 unfold fZ nB;simp;omega
theorem YT (l:List Int):0<(dW l).length:=by unfold dW;rw[aL,cY];omega
theorem wW {l:List Int} (h:fY l):(dW l).length<=5+39*258:=by
 have h1:=h.1;have h2:=h.2.1;have h0:=h.2.2 (l.getD 0 0) (by rw[aV,aN (show 0<l.length by omega)];exact List.getElem_mem _);have:=CZ l (l.getD 0 0) h0.1 h0.2 h.2.2;unfold dW;rw[aL,cY];have:39*l.length<=39*258:=Nat.mul_le_mul_left _ h2;omega
theorem YQ {l:List Int} (h:0<l.length):0<(dE l).length:=by
 cases l with
 |nil=>simp at h
 |cons x l=>
  unfold dE lF;rw[sH,aL,aL];simp;omega
def eZ (t:ByteArray) (room:Int):Int:=if t.size=0\/room<1\/360<room then 1 else if room<((bC t.data.toList).length:Int) then 4 else 0
noncomputable def mP (t:ByteArray) (room:Int):List Bool:=if eZ t room=0 then cB t else[]
def zQ (w w':World) (t:ByteArray) (room:Int) (e:Ending):Prop:=e=.returned (.tuple #[eL (mP t room),.int .i64 (eZ t room)])/\Below w.heap.size w w'/\(eZ t room=0->fS (mkS (bC t.data.toList)))
theorem YR:eL []=.agg #[.string ⟨#[]⟩,.int .i64 0]:=rfl
theorem vB {w w':World} {t:ByteArray} {room E:Int} (h:eZ t room=E) (hE:E≠0) (hb:Below w.heap.size w w'):zQ w w' t room (.returned (.tuple #[.agg #[.string ⟨#[]⟩,.int .i64 0],.int .i64 E])):=by
 refine⟨?_,hb,fun k=>absurd (h.symm.trans k) hE⟩;unfold mP;rw[if_neg (by rw[h];exact hE),YR,h]
theorem rdQ {P1 P2 P3:Prop} {B:Nat} {w0 w':World} {v:Value} {m:List Int} (e:RdI w0 v m) (hB:w0.heap.size=B) (h:P1/\P2/\P3/\Below B w0 w'/\B<=w'.heap.size):RdI w' v m:=e.below (hB▸h.2.2.2.1)
theorem aOs {m:List Int} {n j:Nat} {g:List Int} (h:(cK m)[j]? =some g):(cT m n)[j]? =some (nX (dN m n 0) (dN m n 1) g):=by
 unfold cT;rw[dY,h];rfl
theorem MH {t0 t1 cs:List Int} {gs:List (List Int)} {k:Nat} {c:Int} {g:List Int} (hc:cs[k]? =some c) (hg:gs[k]? =some g):gP t0 t1 (cs.take (k+1)) (gs.take (k+1))=gP t0 t1 (cs.take k) (gs.take k)++eR (if c=0 then t0 else t1) g:=by
 have h1:=(eU.1 hc).1;have h2:=(eU.1 hg).1;rw[cQ,cQ,hc,hg];exact KL _ _ _ _ _ _ (by rw[aX,aX];omega)
theorem bpE {fn:Func} {Q:Ending->World->Prop} {W:World} {a:Act} {z:Nat} {y0 y1 u:Value} (hr:fn.results=#[.cell 4 82,.tmp 5]) (hA:Arr W z 82 [y0,y1]) (h6:a.tmps.getD 4 undef=.pointer (some ⟨z,0,none⟩)) (h7:a.tmps.getD 5 undef=u) (hd:a.defers=[])
  (h:Q (.returned (.tuple #[.agg #[y0,y1],u])) W):bodyPost Tryz.prog fn Q .ret a W:=by
 refine bodyPost_ret (qH hr _ _ z _ _ (0,0) _ h6 hA Tryz.underlying82 rfl mF) hd ?_;rw[h7];exact h
theorem s3B {P1 P2 P3:Prop} {B:Nat} {w0 w':World} (h:P1/\P2/\P3/\Below B w0 w'/\B<=w'.heap.size):Below B w0 w':=h.2.2.2.1
theorem EJ {B:Nat} {w:World} {o o':Obj} (h:B<=w.heap.size):Below B (w.alloc o) (w.alloc o'):=
 ⟨rfl,rfl,rfl,by simp,fun k hk=>by rw[oF w o' k (by omega),oF w o k (by omega)]⟩
theorem wX {w1:World} {b1 o1 b2 o2 b3 o3:Nat} {v1 v2 v3:Value} {B:Nat} {w0:World} (h:w1.cell? ⟨b1,o1,none⟩=some v1/\w1.cell? ⟨b2,o2,none⟩=some v2/\w1.cell? ⟨b3,o3,none⟩=some v3/\Below B w0 w1/\B<=w1.heap.size) (k1:b1<B) (k2:b2<B) (k3:b3<B) (i:Nat) (v:Value):
  (w1.setCell ⟨B,i,none⟩ v).cell? ⟨b1,o1,none⟩=some v1/\(w1.setCell ⟨B,i,none⟩ v).cell? ⟨b2,o2,none⟩=some v2/\(w1.setCell ⟨B,i,none⟩ v).cell? ⟨b3,o3,none⟩=some v3/\Below B w0 (w1.setCell ⟨B,i,none⟩ v)/\B<=(w1.setCell ⟨B,i,none⟩ v).heap.size:=
 CX h ((aB B w1).setCell (p:=⟨B,i,none⟩) (aA _) v) k1 k2 k3
theorem EL {w W:World} {z:Nat} {x0 x1:Value} (hA:Arr W z 82 [x0,x1]) (hb:Below z w W) (y0 y1:Value):
  Arr ((W.setCell ⟨z,0,none⟩ y0).setCell ⟨z,1,none⟩ y1) z 82 [y0,y1]/\Below z w ((W.setCell ⟨z,0,none⟩ y0).setCell ⟨z,1,none⟩ y1):=
 ⟨(hA.set 0 _).set 1 _,(hb.setCell (p:=⟨z,0,none⟩) (aA _) _).setCell (p:=⟨z,1,none⟩) (aA _) _⟩
theorem aTs (s:ByteArray) (room:Int) (w:World) (hs:s.size<=100000) (hr1: -9223372036854775808<=room) (hr2:room<=9223372036854775807):
  Calls Tryz.prog 38 #[.string s,.int .i64 room] w fun e w'=>zQ w w' s room e:=by
 have HL:=hid (show s.data.toList.length=s.size by simp);have hA0:=Arr.new w 82 [.string ⟨#[]⟩,.int .i64 0];have hs0:(w.alloc (.cells #[.string ⟨#[]⟩,.int .i64 0] 82)).heap.size=w.heap.size+1:=by simp
 have hb0:Below w.heap.size w (w.alloc (.cells #[.string ⟨#[]⟩,.int .i64 0] 82)):=bD (aB _ _) _;change Arr (w.alloc (.cells #[.string ⟨#[]⟩,.int .i64 0] 82)) _ _ _ at hA0;have hd:eZ s room=if s.size=0\/room<1\/360<room then 1 else if room<((bC s.data.toList).length:Int) then 4 else 0:=rfl
 by_cases hbad:s.size=0\/room<1\/360<room
 ·rw[if_pos hbad] at hd;have HF:=hid hd;clear hd;have d0:=hA0.cell (i:=0) rfl;have d1:=hA0.cell (i:=1) rfl;have f0:=hA0.free 0;have f1:=hA0.free 1
  by_cases h1:s.size=0
  ·have u1:s.toList.isEmpty=true:=vA (List.eq_nil_of_length_eq_zero (by rw[HL.out];exact h1));go_enter Tryz.func38,Tryz.ntmps38;go_wp2_with fail;exact bpE rfl hA0 rfl rfl rfl (vB HF.out (by decide) hb0)
  have u1:s.toList.isEmpty=false:=rY (by omega)
  by_cases h2:room<1
  ·have u2:decide (room<1)=true:=decide_eq_true h2;go_enter Tryz.func38,Tryz.ntmps38;go_wp2_with fail;exact bpE rfl hA0 rfl rfl rfl (vB HF.out (by decide) hb0)
  have u2:decide (room<1)=false:=decide_eq_false h2;have u3:decide (room>360)=true:=decide_eq_true (by omega);have u4:decide (360<room)=true:=decide_eq_true (by omega);go_enter Tryz.func38,Tryz.ntmps38;go_wp2_with fail;exact bpE rfl hA0 rfl rfl rfl (vB HF.out (by decide) hb0)
 rw[if_neg hbad] at hd;have u1:s.toList.isEmpty=false:=rY (by omega);have u2:decide (room<1)=false:=decide_eq_false (by omega);have u3:decide (room>360)=false:=decide_eq_false (by omega);have u4:decide (360<room)=false:=decide_eq_false (by omega);have hs1:0<s.size:=by omega
 have hpk:=fun W=>aKk s W (by omega)
 have hpl:=(oS s.data.toList.length s.data.toList (aA _)).1;rw[HL.out] at hpl;obtain⟨P,hP⟩:∃P,P=bC s.data.toList:=⟨_,rfl⟩;rw[<-hP] at hd hpk hpl;have HP:=hid hP;clear hP;go_enter Tryz.func38,Tryz.ntmps38;go_wp2_with fail;generalize w.alloc (.cells #[.string ⟨#[]⟩,.int .i64 0] 82)=w0 at*
 have hbz:w.heap.size<w0.heap.size:=by omega
 refine(hpk _).mono ?_;rintro e w1 ⟨rfl,hb1⟩;have hA:=hA0.below hb1 hbz;have hb:=hb0.trans (hb1.mono (by omega));have hs1:=hb1.size;clear hpk hb1 hA0 hb0
 by_cases hlong:room<(P.length:Int)
 ·rw[if_pos hlong] at hd;have HF:=hid hd;clear hd;have v1:decide ((P.length:Int)>room)=true:=decide_eq_true hlong;have v2:decide (room<(P.length:Int))=true:=decide_eq_true hlong;have d0:=hA.cell (i:=0) rfl;have d1:=hA.cell (i:=1) rfl;have f0:=hA.free 0;have f1:=hA.free 1;go_wp2_with fail;obtain⟨z0,z1⟩:=EL hA hb (.string ⟨#[]⟩) (.int .i64 0);exact bpE rfl z0 rfl rfl rfl (vB HF.out (by decide) z1)
 rw[if_neg hlong] at hd;have HF:=hid hd;clear hd;have v1:decide ((P.length:Int)>room)=false:=decide_eq_false hlong;have v2:decide (room<(P.length:Int))=false:=decide_eq_false hlong;have hP360:P.length<=360:=by omega
 go_wp2_with fail;refine(aN4 (mkS P) _ (by rw[cP];omega)).mono ?_;rintro e w2 ⟨v5,rfl,hr5,hb2,hO⟩;have hpn:=(oS s.data.toList.length s.data.toList (aA _)).2.1 (fun e=>by have:=HL.out;rw[e] at this;simp at this;omega);rw[<-HP.out] at hpn;have hO:=hO (by rw[cP];exact kV.2 hpn);have HO:=hid (show fS (mkS (bC s.data.toList)) by rw[<-HP.out];exact hO);obtain⟨P',a,m,o,n,hI⟩:=BIn.of (t:=s) (by omega) (by rw[<-HP.out];omega) HO.out;obtain rfl:P'=P:=by rw[hI.hP,HP.out]
 rw[hI.hA,<-hI.ho,hI.hE,<-hI.hm] at*
 have HI:=hid hI;have hm0:=hI.m0;have hm361:=hI.m361;have hn2:=hI.n2;have hn258:=hI.n258;have ha256:=hI.a256;have ho16:=hI.o16;have hnn:(a.length:Int)+2=(n:Int):=by rw[hI.hn];omega
 have has:((mkS a).size:Int)+2=(n:Int):=by rw[cP];exact hnn
 have has2:(a.length:Int)+2=(n:Int):=hnn;obtain⟨a5,c5,rfl,_,_,_⟩:=hr5.open;have hA:=hA.below hb2 (by omega);have hb:=hb.trans (hb2.mono (by omega));have hs2:=hb2.size;clear hI hb2 hO;go_wp2_with fail;have hX:=Arr.new w2 106 [.string (mkS a),.int .i64 (o:Int),.slice a5 m.length c5];have hA:=hA.alloc (.cells #[.string (mkS a),.int .i64 (o:Int),.slice a5 m.length c5] 106);have hb:=hb.alloc (o:=.cells #[.string (mkS a),.int .i64 (o:Int),.slice a5 m.length c5] 106) (by omega)
 have hr5:=hr5.below (bD (aB w2.heap.size w2) (.cells #[.string (mkS a),.int .i64 (o:Int),.slice a5 m.length c5] 106));have hz3:(w2.alloc (.cells #[.string (mkS a),.int .i64 (o:Int),.slice a5 m.length c5] 106)).heap.size=w2.heap.size+1:=by simp
 change Arr (w2.alloc (.cells #[.string (mkS a),.int .i64 (o:Int),.slice a5 m.length c5] 106)) _ _ _ at hX;generalize w2.alloc (.cells #[.string (mkS a),.int .i64 (o:Int),.slice a5 m.length c5] 106)=w3 at*
 obtain⟨z7,hz7⟩:∃z7,z7=w2.heap.size:=⟨_,rfl⟩;rw[<-hz7] at hX hz3 hs2 ⊢;clear hz7;obtain⟨B3,hB3⟩:∃B3,w3.heap.size=B3:=⟨_,rfl⟩;have x0:=hX.cell (i:=0) rfl;have x1:=hX.cell (i:=1) rfl;have x2:=hX.cell (i:=2) rfl;have hz7B:z7<B3:=by omega
 have hS0:=kZ (B:=B3) (w0:=w3) ⟨x0,x1,x2,aB _ _,by omega⟩ (aB w3.heap.size w3).drew
 go_region_held3 (fun w'=>w'.cell? ⟨z7,0,none⟩=some (.string (mkS a))/\w'.cell? ⟨z7,1,none⟩=some (.int .i64 (o:Int))/\w'.cell? ⟨z7,2,none⟩=some (.slice a5 m.length c5)/\Below B3 w3 w'/\B3<=w'.heap.size)
  (first
   |with_reducible assumption
   |with_reducible exact kZ (by assumption) (by assumption))
  (first
   |(go_at_call 55;refine(aL5 (mkS a) (o:Int) (.slice a5 m.length c5) rfl _ (by rw[cP];omega)).mono ?_;rintro e w4 ⟨rfl,hb4⟩;rw[has])
   |(go_at_call 54;refine(aIh (.slice a5 m.length c5) m n _ (rdQ hr5 hB3 (by assumption)) hm0 (by omega) (by omega) hn258 HI.out.rng).mono ?_;rintro e w5 ⟨v9,v10,rfl,hL9,ho10,hb5⟩))
 have hS5:=(show w5.cell? ⟨z7,0,none⟩=some (.string (mkS a))/\w5.cell? ⟨z7,1,none⟩=some (.int .i64 (o:Int))/\w5.cell? ⟨z7,2,none⟩=some (.slice a5 m.length c5)/\Below B3 w3 w5/\B3<=w5.heap.size by assumption);obtain⟨x0,x1,x2,hb35,hs35⟩:=hS5;obtain⟨B,hB⟩:∃B,B=w5.heap.size:=⟨_,rfl⟩;have hzB:z7<B:=by omega
 have hwB:w.heap.size<B:=by omega
 have HC:=hid (fun W (h:Below B w5 W)=>show W.cell? ⟨z7,0,none⟩=some (.string (mkS a))/\W.cell? ⟨z7,1,none⟩=some (.int .i64 (o:Int))/\W.cell? ⟨z7,2,none⟩=some (.slice a5 m.length c5) from⟨(h.cell (p:=⟨z7,0,none⟩) hzB).trans x0,(h.cell (p:=⟨z7,1,none⟩) hzB).trans x1,(h.cell (p:=⟨z7,2,none⟩) hzB).trans x2⟩);have hA:=hA.below hb35 (by omega);have hb:=hb.trans (hb35.mono (by omega));have hr5:=hr5.below (hB3▸hb35);have hr10:=OwI.rd ho10;have HA:=hid (fun W (h:Below B w5 W)=>hA.below h hwB);have HB:=hid (fun W (h:Below B w5 W)=>hb.trans (h.mono (Nat.le_of_lt hwB)))
 have HR5:=hid (fun W (h:Below B w5 W)=>hr5.below (hB▸h));have HR10:=hid (fun W (h:Below B w5 W)=>hr10.below (hB▸h));have HL9:=hid (fun W (h:Below B w5 W)=>hL9.below (hB▸h));have hGl:=wJ m n;obtain⟨ac,cc,rfl,_,_,hA10⟩:=hr10.open;obtain⟨b10,o10,rfl,hb10,hc10⟩:=hA10 (by omega);obtain⟨at9,ct9,rfl,hn9,hm9,hA9⟩:=hL9.open;obtain⟨b9,o9,rfl,hb9,hc9⟩:=hA9 (by simp);obtain⟨y0,hy0,hry0⟩:=hc9 0 _ rfl;obtain⟨y1,hy1,hry1⟩:=hc9 1 _ rfl;obtain⟨T0,hT0⟩:∃T0,T0=dN m n 0:=⟨_,rfl⟩;obtain⟨T1,hT1⟩:∃T1,T1=dN m n 1:=⟨_,rfl⟩;rw[<-hT0] at hry0;rw[<-hT1] at hry1;have HT0:=hid hT0;have HT1:=hid hT1
 have HK0:=hid (show bL T0=0/\T0.length=n by rw[hT0];exact⟨HI.out.c0,HI.out.l0⟩);have HK1:=hid (show bL T1=0/\T1.length=n by rw[hT1];exact⟨HI.out.c1,HI.out.l1⟩);obtain⟨ay0,cy0,rfl,_,_,_⟩:=hry0.open;obtain⟨ay1,cy1,rfl,_,_,_⟩:=hry1.open;have HTB:=hid (fun W (h:Below B w5 W)=>show W.cell? ⟨b9,o9,none⟩=some (.slice ay0 T0.length cy0)/\W.cell? ⟨b9,o9+1,none⟩=some (.slice ay1 T1.length cy1)/\RdI W (.slice ay0 T0.length cy0) T0/\RdI W (.slice ay1 T1.length cy1) T1 from
  ⟨(h.cell (p:=⟨b9,o9,none⟩) (by rw[hB];exact hb9)).trans hy0,(h.cell (p:=⟨b9,o9+1,none⟩) (by rw[hB];exact hb9)).trans hy1,hry0.below (hB▸h),hry1.below (hB▸h)⟩)
 have HCH:=hid (fun W (h:Below B w5 W) i c (hi:(cT m n)[i]? =some c)=>show W.cell? ⟨b10,o10+i,none⟩=some (.int .i64 c) from(h.cell (p:=⟨b10,o10+i,none⟩) (by rw[hB];exact hb10)).trans (hc10 i c hi));clear hA10 hc10 hA9 hc9 hy0 hy1 hry0 hry1 hT0 hT1;have ho12:OwI w5 B (.slice none 0 0) (bI []):=OwI.nil _ _;have hbc:Below B w5 w5:=aB _ _;have hsc:B<=w5.heap.size:=by omega
 have hGb:(cT m n).length<=901:=by omega
 have hG0:0<(cT m n).length:=by omega
 have HCB:=hid (DE m n);have hZ:=(fG s.data.toList).isLt;obtain⟨Z,hZe⟩:∃Z,Z=(fG s.data.toList).toNat:=⟨_,rfl⟩;rw[<-hZe] at hZ;have hsum:=fun W=>WH s W (by omega)
 rw[<-hZe] at hsum;have HZ:=hid hZe;have hmg:∀W,Calls Tryz.prog 41 #[.int .u64 54156738319193,.int .i64 48] W fun e w'=>∃u,e=.returned u/\OwI w' W.heap.size u (bI (aY 54156738319193 48))/\Below W.heap.size W w':=fun W=>uF 54156738319193 48 W (by decide) (by decide)
 have hsm:=fun W=>uF Z 32 W (by omega) (by decide)
 have hog:=fun W=>uF o 16 W (by omega) (by decide)
 have htw:∀W,Calls Tryz.prog 41 #[.int .u64 2,.int .i64 3] W fun e w'=>∃u,e=.returned u/\OwI w' W.heap.size u (bI (aY 2 3))/\Below W.heap.size W w':=fun W=>uF 2 3 W (by decide) (by decide)
 obtain⟨G,hG⟩:∃G,G=(cT m n).length:=⟨_,rfl⟩;have hct:=fun W=>uF G 15 W (by omega) (by decide)
 have hmp:=fun W=>aJr (mkS a) W (by rw[cP];omega) (by rw[fW];exact HI.out.an)
 rw[fW] at hmp;have hmpl:=CD a;have hml:=fun W=>wV (fZ a) W (by omega)
 have e1:fU.wrap (Z:Int)=(Z:Int):=by rw[gF];omega
 have e2:(Z:Int)%18446744073709551616=(Z:Int):=by omega
 have e3:fU.wrap (o:Int)=(o:Int):=by rw[gF];omega
 have e4:(o:Int)%18446744073709551616=(o:Int):=by omega
 have e5:fU.wrap (G:Int)=(G:Int):=by rw[gF];omega
 have e6:(G:Int)%18446744073709551616=(G:Int):=by omega
 clear hS0 hb4 hb5 ho10 hL9 hr10 hr5 hA hb hb35 hX x0 x1 x2 hZe;rw[<-hG] at hGl hGb hG0 HR10 ⊢;have hsel:=fun W h=>aI3 (.slice (some ⟨b10,o10,none⟩) G cc) (cT m n) W h (by omega) HCB.out
 unfold eL at hsel;obtain⟨SL,hSL⟩:∃SL,SL=dE (dO (cT m n)):=⟨_,rfl⟩;have hSLl:SL.length<=2*901:=by
  rw[hSL];have:=wL (dO (cT m n)) 2 (yW HCB.out);rw[uU] at this;omega
 have hSLp:0<SL.length:=by rw[hSL];exact YQ (by rw[uU];omega)
 rw[<-hSL] at hsel;have HSL:=hid hSL;have hsl2:=fun W=>wV SL W (by omega)
 clear hSL;have HG:=hid hG;have HGL:=hid hGl;clear hG hGl;go_wp2_with fail;have hDl:([]:List Bool).length<=0:=aA _;refine(hmg _).mono ?_;rintro e w6 ⟨u6,rfl,ho6,hb6⟩;have ho12:=OwI.below ho12 hb6 (aA _);have hbc:=hbc.trans (hb6.mono hsc);have hsc:=aW hsc hb6.size;have hu:=OwI.rd ho6;clear ho6 hb6
 go_wp2_with (at_builtin;refine kG rfl _ _ rfl B _ _ (bI (aY 54156738319193 48)) rfl ho12 _ rfl hu (by rw[cN];rw[cY];decide) ?_ ?_ ?_;(rw[cN,cN];rw[cY];omega);(exact hsc);intro v12 w7 r1 r2 r3 r4;obtain⟨q0,q1,q2⟩:=HC.out _ (hbc.trans r2));have ho12:OwI w7 B v12 (bI ([]++aY 54156738319193 48)):=by rw[gB];exact r1
 have hbc:=hbc.trans r2;have hsc:=aW hsc r2.size;obtain⟨D1,hDn⟩:∃D,D=[]++aY 54156738319193 48:=⟨_,rfl⟩;have hDl:D1.length<=48:=by rw[hDn,aL];rw[cY];(try simp only[cX]);omega
 rw[<-hDn] at ho12;have HD1:=hid hDn;clear hDn r1 r2 r3 r4 hu;refine(hsum _).mono ?_;rintro e w6 ⟨rfl,rfl⟩;go_wp2_with fail;refine(hsm _).mono ?_;rintro e w6 ⟨u6,rfl,ho6,hb6⟩;have ho12:=OwI.below ho12 hb6 (aA _);have hbc:=hbc.trans (hb6.mono hsc);have hsc:=aW hsc hb6.size;have hu:=OwI.rd ho6;clear ho6 hb6;go_wp2_with (at_builtin;refine kG rfl _ _ rfl B _ _ (bI (aY Z 32)) rfl ho12 _ rfl hu (by rw[cN];rw[cY];decide) ?_ ?_ ?_;(rw[cN,cN];rw[cY];omega);(exact hsc);intro v12 w7 r1 r2 r3 r4;obtain⟨q0,q1,q2⟩:=HC.out _ (hbc.trans r2))
 have ho12:OwI w7 B v12 (bI (D1++aY Z 32)):=by rw[gB];exact r1
 have hbc:=hbc.trans r2;have hsc:=aW hsc r2.size;obtain⟨D2,hDn⟩:∃D,D=D1++aY Z 32:=⟨_,rfl⟩;have hDl:D2.length<=80:=by rw[hDn,aL];rw[cY];(try simp only[cX]);omega
 rw[<-hDn] at ho12;have HD2:=hid hDn;clear hDn r1 r2 r3 r4 hu;refine(hog _).mono ?_;rintro e w6 ⟨u6,rfl,ho6,hb6⟩;have ho12:=OwI.below ho12 hb6 (aA _);have hbc:=hbc.trans (hb6.mono hsc);have hsc:=aW hsc hb6.size;have hu:=OwI.rd ho6;clear ho6 hb6;go_wp2_with (at_builtin;refine kG rfl _ _ rfl B _ _ (bI (aY o 16)) rfl ho12 _ rfl hu (by rw[cN];rw[cY];decide) ?_ ?_ ?_;(rw[cN,cN];rw[cY];omega);(exact hsc);intro v12 w7 r1 r2 r3 r4;obtain⟨q0,q1,q2⟩:=HC.out _ (hbc.trans r2))
 have ho12:OwI w7 B v12 (bI (D2++aY o 16)):=by rw[gB];exact r1
 have hbc:=hbc.trans r2;have hsc:=aW hsc r2.size;obtain⟨D3,hDn⟩:∃D,D=D2++aY o 16:=⟨_,rfl⟩;have hDl:D3.length<=96:=by rw[hDn,aL];rw[cY];(try simp only[cX]);omega
 rw[<-hDn] at ho12;have HD3:=hid hDn;clear hDn r1 r2 r3 r4 hu;refine(hmp _).mono ?_;rintro e w6 ⟨rfl,hb6⟩;have ho12:=OwI.below ho12 hb6 (aA _);have hbc:=hbc.trans (hb6.mono hsc);have hsc:=aW hsc hb6.size;clear hb6;go_wp2_with fail;refine(hml _).mono ?_;rintro e w6 ⟨u6,rfl,hu,hb6⟩;have ho12:=OwI.below ho12 hb6 (aA _);have hbc:=hbc.trans (hb6.mono hsc);have hsc:=aW hsc hb6.size;clear hb6
 go_wp2_with (at_builtin;refine kG rfl _ _ rfl B _ _ (bI (fZ a)) rfl ho12 _ rfl hu (by rw[cN];exact aOr a) ?_ ?_ ?_;(rw[cN,cN];skip;omega);(exact hsc);intro v12 w7 r1 r2 r3 r4;obtain⟨q0,q1,q2⟩:=HC.out _ (hbc.trans r2));have ho12:OwI w7 B v12 (bI (D3++fZ a)):=by rw[gB];exact r1
 have hbc:=hbc.trans r2;have hsc:=aW hsc r2.size;obtain⟨D4,hDn⟩:∃D,D=D3++fZ a:=⟨_,rfl⟩;have hDl:D4.length<=400:=by rw[hDn,aL];skip;(try simp only[cX]);omega
 rw[<-hDn] at ho12;have HD4:=hid hDn;clear hDn r1 r2 r3 r4 hu;refine(htw _).mono ?_;rintro e w6 ⟨u6,rfl,ho6,hb6⟩;have ho12:=OwI.below ho12 hb6 (aA _);have hbc:=hbc.trans (hb6.mono hsc);have hsc:=aW hsc hb6.size;have hu:=OwI.rd ho6;clear ho6 hb6;go_wp2_with (at_builtin;refine kG rfl _ _ rfl B _ _ (bI (aY 2 3)) rfl ho12 _ rfl hu (by rw[cN];rw[cY];decide) ?_ ?_ ?_;(rw[cN,cN];rw[cY];omega);(exact hsc);intro v12 w7 r1 r2 r3 r4;obtain⟨q0,q1,q2⟩:=HC.out _ (hbc.trans r2))
 have ho12:OwI w7 B v12 (bI (D4++aY 2 3)):=by rw[gB];exact r1
 have hbc:=hbc.trans r2;have hsc:=aW hsc r2.size;obtain⟨D5,hDn⟩:∃D,D=D4++aY 2 3:=⟨_,rfl⟩;have hDl:D5.length<=403:=by rw[hDn,aL];rw[cY];(try simp only[cX]);omega
 rw[<-hDn] at ho12;have HD5:=hid hDn;clear hDn r1 r2 r3 r4 hu;refine(hct _).mono ?_;rintro e w6 ⟨u6,rfl,ho6,hb6⟩;have ho12:=OwI.below ho12 hb6 (aA _);have hbc:=hbc.trans (hb6.mono hsc);have hsc:=aW hsc hb6.size;have hu:=OwI.rd ho6;clear ho6 hb6;go_wp2_with (at_builtin;refine kG rfl _ _ rfl B _ _ (bI (aY G 15)) rfl ho12 _ rfl hu (by rw[cN];rw[cY];decide) ?_ ?_ ?_;(rw[cN,cN];rw[cY];omega);(exact hsc);intro v12 w7 r1 r2 r3 r4;obtain⟨q0,q1,q2⟩:=HC.out _ (hbc.trans r2))
 have ho12:OwI w7 B v12 (bI (D5++aY G 15)):=by rw[gB];exact r1
 have hbc:=hbc.trans r2;have hsc:=aW hsc r2.size;obtain⟨D6,hDn⟩:∃D,D=D5++aY G 15:=⟨_,rfl⟩;have hDl:D6.length<=418:=by rw[hDn,aL];rw[cY];(try simp only[cX]);omega
 rw[<-hDn] at ho12;have HD6:=hid hDn;clear hDn r1 r2 r3 r4 hu;refine(hsel _ (HR10.out _ hbc)).mono ?_;rintro e w6 ⟨rfl,hb6⟩;have ho12:=OwI.below ho12 hb6 (aA _);have hbc:=hbc.trans (hb6.mono hsc);have hsc:=aW hsc hb6.size;clear hb6;have ho12:=OwI.alloc ho12 (.cells #[.string (mkS (aD (SL))),.int .i64 ((SL).length:Int)] 82);have hbc:=hbc.alloc (o:=.cells #[.string (mkS (aD (SL))),.int .i64 ((SL).length:Int)] 82) hsc;have hsc:B<=(World.alloc w6 (.cells #[.string (mkS (aD (SL))),.int .i64 ((SL).length:Int)] 82)).heap.size:=aW hsc (by simp);go_wp2_with fail
 refine(hsl2 _).mono ?_;rintro e w8 ⟨u6,rfl,hu,hb6⟩;have ho12:=OwI.below ho12 hb6 (aA _);have hbc:=hbc.trans (hb6.mono hsc);have hsc:=aW hsc hb6.size;clear hb6;go_wp2_with (at_builtin;refine kG rfl _ _ rfl B _ _ (bI (SL)) rfl ho12 _ rfl hu (by rw[cN];exact hSLp) ?_ ?_ ?_;(rw[cN,cN];skip;omega);(exact hsc);intro v12 w7 r1 r2 r3 r4;obtain⟨q0,q1,q2⟩:=HC.out _ (hbc.trans r2));have ho12:OwI w7 B v12 (bI (D6++SL)):=by rw[gB];exact r1
 have hbc:=hbc.trans r2;have hsc:=aW hsc r2.size;obtain⟨D7,hDn⟩:∃D,D=D6++SL:=⟨_,rfl⟩;have hDl:D7.length<=2300:=by rw[hDn,aL];skip;(try simp only[cX]);omega
 rw[<-hDn] at ho12;have HD7:=hid hDn;clear hDn r1 r2 r3 r4 hu
 go_loopg [12,15,16,17] 2 (fun g s12 s15 _s16 _s17 wr=>∃(k:Nat) (v:Value) (D:List Bool),k<=2/\g=2-k/\v=s12/\s15=.int .i64 (k:Int)/\Hid (D=D7++(([T0,T1].take k).map dW).flatten)/\D.length<=2300+k*10067/\OwI wr B v (bI D)/\Below B w5 wr/\B<=wr.heap.size)
 case atStart=>exact⟨0,_,D7,aU _,rfl,rfl,rfl,hid (by simp),by omega,ho12,hbc,hsc⟩
 case round=>
  clear ho12 hbc hsc q0 q1 q2 hDl;obtain⟨k,v12,D,hk,hg,rfl,rfl,HD,hDl,ho12,hbc,hsc⟩:=hrel;have HGG:=hid hg;clear hg
  by_cases hk0:k=0
  ·subst hk0;obtain⟨t0,t1,t2,t3⟩:=HTB.out _ hbc;have hpu:=TR (.slice ay0 T0.length cy0) T0 wr t2 (eH HK0.out.1).1;unfold eL at hpu;have hdl:=wW (eH HK0.out.1).1;have hdp:=YT T0;obtain⟨X,hX⟩:∃X,X=dW T0:=⟨_,rfl⟩;rw[<-hX] at hpu hdl hdp;have HX:=hid hX;have hls:=fun W=>wV X W (by omega)
   clear hX t2 t3;go_wp2_with fail;refine hpu.mono ?_;rintro e w6 ⟨rfl,hb6⟩;have ho12:=OwI.below ho12 hb6 (aA _);have hbc:=hbc.trans (hb6.mono hsc);have hsc:=aW hsc hb6.size;clear hpu hb6 t0 t1;have ho12:=OwI.alloc ho12 (.cells #[.string (mkS (aD (X))),.int .i64 ((X).length:Int)] 82);have hbc:=hbc.alloc (o:=.cells #[.string (mkS (aD (X))),.int .i64 ((X).length:Int)] 82) hsc;have hsc:B<=(World.alloc w6 (.cells #[.string (mkS (aD (X))),.int .i64 ((X).length:Int)] 82)).heap.size:=aW hsc (by simp);go_wp2_with fail;refine(hls _).mono ?_
   rintro e w8 ⟨u6,rfl,hu,hb6⟩;have ho12:=OwI.below ho12 hb6 (aA _);have hbc:=hbc.trans (hb6.mono hsc);have hsc:=aW hsc hb6.size;clear hb6;go_wp2_with (at_builtin;refine kG rfl _ _ rfl B _ _ (bI X) rfl ho12 _ rfl hu (by rw[cN];exact hdp) ?_ ?_ ?_;(rw[cN,cN];omega);(exact hsc);intro v13 w9 r1 r2 r3 r4);have hg:=HGG.out
   go_roundg (2-(0+1))
   case measure=>omega
   case rel=>exact⟨0+1,_,D++X,by omega,rfl,rfl,by first|rfl|go_num,hid (by rw[HD.out,HX.out];simp),by rw[aL];omega,by rw[gB];exact r1,hbc.trans r2,aW hsc r2.size⟩
  by_cases hk1:k=1
  ·subst hk1;obtain⟨t0,t1,t2,t3⟩:=HTB.out _ hbc;have hpu:=TR (.slice ay1 T1.length cy1) T1 wr t3 (eH HK1.out.1).1;unfold eL at hpu;have hdl:=wW (eH HK1.out.1).1;have hdp:=YT T1;obtain⟨X,hX⟩:∃X,X=dW T1:=⟨_,rfl⟩;rw[<-hX] at hpu hdl hdp;have HX:=hid hX;have hls:=fun W=>wV X W (by omega)
   clear hX t2 t3;go_wp2_with fail;refine hpu.mono ?_;rintro e w6 ⟨rfl,hb6⟩;have ho12:=OwI.below ho12 hb6 (aA _);have hbc:=hbc.trans (hb6.mono hsc);have hsc:=aW hsc hb6.size;clear hpu hb6 t0 t1;have ho12:=OwI.alloc ho12 (.cells #[.string (mkS (aD (X))),.int .i64 ((X).length:Int)] 82);have hbc:=hbc.alloc (o:=.cells #[.string (mkS (aD (X))),.int .i64 ((X).length:Int)] 82) hsc;have hsc:B<=(World.alloc w6 (.cells #[.string (mkS (aD (X))),.int .i64 ((X).length:Int)] 82)).heap.size:=aW hsc (by simp);go_wp2_with fail;refine(hls _).mono ?_
   rintro e w8 ⟨u6,rfl,hu,hb6⟩;have ho12:=OwI.below ho12 hb6 (aA _);have hbc:=hbc.trans (hb6.mono hsc);have hsc:=aW hsc hb6.size;clear hb6;go_wp2_with (at_builtin;refine kG rfl _ _ rfl B _ _ (bI X) rfl ho12 _ rfl hu (by rw[cN];exact hdp) ?_ ?_ ?_;(rw[cN,cN];omega);(exact hsc);intro v13 w9 r1 r2 r3 r4);have hg:=HGG.out
   go_roundg (2-(1+1))
   case measure=>omega
   case rel=>exact⟨1+1,_,D++X,by omega,rfl,rfl,by first|rfl|go_num,hid (by rw[HD.out,HX.out];simp),by rw[aL];omega,by rw[gB];exact r1,hbc.trans r2,aW hsc r2.size⟩
  obtain rfl:k=2:=by omega
  have hgr:=TB (.slice a5 m.length c5) m wr w5 (HR5.out _ hbc) (HR5.out _ (aB _ _)) (by omega);obtain⟨q0,q1,q2⟩:=HC.out _ hbc;go_wp2_with fail;refine hgr.mono ?_;rintro e w10 ⟨v18,xs,rfl,ho18,hx18,hb10'⟩;have ho18:=Ow.base ho18 hsc;have ho12:=OwI.below ho12 hb10' (aA _);have hbc:=hbc.trans (hb10'.mono hsc);have hsc:=aW hsc hb10'.size;clear hgr q0 q1 q2 hb10' hsum hmg hsm hog htw hct hmp hmpl hml e1 e2 e3 e4 e5 e6 hsel hsl2 hZ hSLl hSLp v1 v2 u1 u2 u3 u4 hm361 ho16 hnn has has2 hz3 hB3 hs35 hz7B hs0 hbz hr1 hr2 hbad hs
  have hxl:xs.length=G:=by rw[hx18.1,iD];exact HGL.out.symm
  have HX18:=hid hx18;clear hx18;obtain⟨b18,o18,c18,rfl⟩:=Ow.openN ho18 (by omega);rw[hxl] at ho18;rw[hxl];have HXL:=hid hxl;have hD8:D=D7++(dW T0++dW T1):=by rw[HD.out];simp
  have HD8:=hid hD8;clear hD8 hxl;go_wp2_with fail
  go_loopg [12,19,20,21] G (fun g s12 s19 _s20 _s21 wr=>∃(i:Nat) (v:Value) (E:List Bool),i<=G/\g=G-i/\v=s12/\s19=.int .i64 (i:Int)/\Hid (E=D++gP T0 T1 ((cT m n).take i) ((cK m).take i))/\E.length<=22500+i*200/\OwI wr B v (bI E)/\Ow wr B 57 (.slice (some ⟨b18,o18,none⟩) G c18) xs/\Below B w5 wr/\B<=wr.heap.size)
  case atStart=>exact⟨0,_,D,aU _,rfl,rfl,rfl,hid (by simp[gP]),by omega,ho12,ho18,hbc,hsc⟩
  case round=>
   clear ho12 ho18 hbc hsc hDl;obtain⟨i,v12,E,hi,hg,rfl,rfl,HE,hEl,ho12,ho18,hbc,hsc⟩:=hrel;have HGG2:=hid hg;clear hg
   by_cases hlt:i<G
   ·have w1':decide ((i:Int)<(G:Int))=true:=decide_eq_true (by omega);obtain⟨g,hg⟩:∃g,(cK m)[i]? =some g:=⟨_,aN (by rw[iD,<-HGL.out];exact hlt)⟩;obtain⟨x,hx⟩:∃x,xs[i]? =some x:=⟨_,aN (by rw[HXL.out];exact hlt)⟩;have hgx:=HX18.out.2 i x g hx hg;have hxc:=ho18.cellAt hx;obtain⟨hgm,hg10⟩:=DK hg;have hg0:0<g.length:=by
     rw[wH m i (by rw[<-HGL.out];exact hlt)] at hg;rw[<-bW hg,aX,List.length_drop];have:=HGL.out;omega
    obtain⟨ax,cx,rfl,_,_,_⟩:=hgx.open;have hcg:=aOs (n:=n) hg;rw[<-HT0.out,<-HT1.out] at hcg;have hcell:=HCH.out _ hbc i _ hcg;have hcb:=HCB.out _ (List.mem_of_getElem? hcg);clear hx;rcases hcb with hcc|hcc
    ·skip
     rw[hcc] at hcell;have hpu:=TO (.slice ay0 T0.length cy0) (.slice ax g.length cx) T0 g;have hpu:=fun W a b=>hpu W a b HK0.out.1 (by rw[HK0.out.2];exact fun x hx=>HI.out.rng x (hgm x hx)) (by omega)
     unfold eL at hpu;have hcl:=rR (eH HK0.out.1).1 g (by rw[HK0.out.2];exact fun x hx=>HI.out.rng x (hgm x hx));have hcp:=YS (eH HK0.out.1).1 (by rw[HK0.out.2];exact fun x hx=>HI.out.rng x (hgm x hx)) hg0;obtain⟨X,hX⟩:∃X,X=eR T0 g:=⟨_,rfl⟩;have hcx:gP T0 T1 ((cT m n).take (i+1)) ((cK m).take (i+1))=gP T0 T1 ((cT m n).take i) ((cK m).take i)++X:=by
      rw[MH hcg hg,hcc,hX];rfl
     rw[<-hX] at hpu hcl hcp;have HX:=hid hcx;have hls:=fun W=>wV X W (by omega)
     have HPU:=hid hpu;have HTB2:=hid (fun W (h:Below B w5 W)=>(HTB.out W h));clear hX hcx hpu hcc hcg hg hgm;go_upto_region 26 with fail
     go_cut [20] (fun c20 wx=>∃z,c20=.pointer (some ⟨z,0,none⟩)/\Arr wx z 82 [.string (mkS (aD X)),.int .i64 (X.length:Int)]/\Below wr.heap.size wr wx)
     case first=>
      obtain⟨t0,t1,t2,t3⟩:=HTB.out _ hbc;have hS0:=kZ (B:=wr.heap.size) (w0:=wr) ⟨hcell,t0,hxc,aB _ _,aA _⟩ (aB wr.heap.size wr).drew;have hb18:b18<wr.heap.size:=iO wr _ hxc;have hb10r:b10<wr.heap.size:=by omega
      have hb9r:b9<wr.heap.size:=by omega
      have hput:=fun W (h:Below wr.heap.size wr W)=>HPU.out W (t2.below h) ((hgx.below (hB▸hbc)).below h)
      clear t2 t3 t1;clear hgx hbc hg0 hg10 hcl hcp hcell t0 hxc
      set_option maxHeartbeats 800000 in
      go_region_held3 (fun w'=>w'.cell? ⟨b10,o10+i,none⟩=some (.int .i64 0)/\w'.cell? ⟨b9,o9,none⟩=some (.slice ay0 T0.length cy0)/\w'.cell? ⟨b18,o18+i,none⟩=some (.slice ax g.length cx)/\Below wr.heap.size wr w'/\wr.heap.size<=w'.heap.size)
       (first
        |with_reducible assumption
        |with_reducible exact kZ (by assumption) (by assumption)
        |with_reducible exact kZ (by assumption) (bD (aB _ _) _)
        |with_reducible exact CX (by assumption) (EJ (by assumption)) hb10r hb9r hb18
        |with_reducible exact wX (by assumption) hb10r hb9r hb18 _ _
        |with_reducible exact wX (wX (by assumption) hb10r hb9r hb18 _ _) hb10r hb9r hb18 _ _)
       (first
        |(go_at_call 60;(refine(hput _ (s3B (by assumption))).mono ?_;rintro e w11 ⟨rfl,hb11⟩;first|(have hs11:wr.heap.size<=w11.heap.size:=hb11.size)|(have hN:Arr w11 wr.heap.size 82 [.string ⟨#[]⟩,.int .i64 0]:=Arr.below (w:=(wr.alloc (.cells #[.string ⟨#[]⟩,.int .i64 0] 82)).drew) (Arr.new wr 82 [.string ⟨#[]⟩,.int .i64 0]) hb11 (by show wr.heap.size<(wr.alloc _).heap.size;simp);have n0:=hN.cell (i:=0) rfl;have n1:=hN.cell (i:=1) rfl;have g0:=hN.free 0;have g1:=hN.free 1))))
      all_goals
       go_wp2_with fail;go_meet
       first
        |exact⟨_,rfl,(hN.set 0 _).set 1 _,s3B (by assumption)⟩
        |exact⟨_,rfl,Arr.new w11 82 [.string (mkS (aD X)),.int .i64 (X.length:Int)],s3B (by assumption)⟩
     case rest=>
      obtain⟨z,rfl,hZ,hbz⟩:=hcut;have ho12:=OwI.below ho12 hbz (aA _);have ho18:=ho18.below hbz (aA _);have hbc:=hbc.trans (hbz.mono hsc);have hsc:=aW hsc hbz.size;have z0:=hZ.cell (i:=0) rfl;have z1:=hZ.cell (i:=1) rfl;clear hbz hcell hxc hgx;go_wp2_with fail;refine(hls _).mono ?_;rintro e w13 ⟨u6,rfl,hu,hb6⟩;have ho12:=OwI.below ho12 hb6 (aA _);have ho18:=ho18.below hb6 (aA _);have hbc:=hbc.trans (hb6.mono hsc);have hsc:=aW hsc hb6.size;clear hb6 z0 z1 hZ
      go_wp2_with (at_builtin;refine kG rfl _ _ rfl B _ _ (bI X) rfl ho12 _ rfl hu (by rw[cN];exact hcp) ?_ ?_ ?_;(rw[cN,cN];omega);(exact hsc);intro v13 w14 r1 r2 r3 r4);have r3':w13.grownBy w14 v12.ownBlock:=r3;have hg:=HGG2.out
      go_roundg (G-(i+1))
      case measure=>omega
      case rel=>exact⟨i+1,_,E++X,by omega,rfl,rfl,by go_num,hid (by rw[HX.out,HE.out,cF]),by rw[aL];omega,by rw[gB];exact r1,ho18.kept r3' (qO ho18 ho12 (by decide)),hbc.trans r2,aW hsc r2.size⟩
    ·skip
     rw[hcc] at hcell;have hpu:=TO (.slice ay1 T1.length cy1) (.slice ax g.length cx) T1 g;have hpu:=fun W a b=>hpu W a b HK1.out.1 (by rw[HK1.out.2];exact fun x hx=>HI.out.rng x (hgm x hx)) (by omega)
     unfold eL at hpu;have hcl:=rR (eH HK1.out.1).1 g (by rw[HK1.out.2];exact fun x hx=>HI.out.rng x (hgm x hx));have hcp:=YS (eH HK1.out.1).1 (by rw[HK1.out.2];exact fun x hx=>HI.out.rng x (hgm x hx)) hg0;obtain⟨X,hX⟩:∃X,X=eR T1 g:=⟨_,rfl⟩;have hcx:gP T0 T1 ((cT m n).take (i+1)) ((cK m).take (i+1))=gP T0 T1 ((cT m n).take i) ((cK m).take i)++X:=by
      rw[MH hcg hg,hcc,hX];rfl
     rw[<-hX] at hpu hcl hcp;have HX:=hid hcx;have hls:=fun W=>wV X W (by omega)
     have HPU:=hid hpu;have HTB2:=hid (fun W (h:Below B w5 W)=>(HTB.out W h));clear hX hcx hpu hcc hcg hg hgm;go_upto_region 26 with fail
     go_cut [20] (fun c20 wx=>∃z,c20=.pointer (some ⟨z,0,none⟩)/\Arr wx z 82 [.string (mkS (aD X)),.int .i64 (X.length:Int)]/\Below wr.heap.size wr wx)
     case first=>
      obtain⟨t0,t1,t2,t3⟩:=HTB.out _ hbc;have hS0:=kZ (B:=wr.heap.size) (w0:=wr) ⟨hcell,t1,hxc,aB _ _,aA _⟩ (aB wr.heap.size wr).drew;have hb18:b18<wr.heap.size:=iO wr _ hxc;have hb10r:b10<wr.heap.size:=by omega
      have hb9r:b9<wr.heap.size:=by omega
      have hput:=fun W (h:Below wr.heap.size wr W)=>HPU.out W (t3.below h) ((hgx.below (hB▸hbc)).below h)
      clear t2 t3 t0;clear hgx hbc hg0 hg10 hcl hcp hcell t1 hxc
      set_option maxHeartbeats 800000 in
      go_region_held3 (fun w'=>w'.cell? ⟨b10,o10+i,none⟩=some (.int .i64 1)/\w'.cell? ⟨b9,o9+1,none⟩=some (.slice ay1 T1.length cy1)/\w'.cell? ⟨b18,o18+i,none⟩=some (.slice ax g.length cx)/\Below wr.heap.size wr w'/\wr.heap.size<=w'.heap.size)
       (first
        |with_reducible assumption
        |with_reducible exact kZ (by assumption) (by assumption)
        |with_reducible exact kZ (by assumption) (bD (aB _ _) _)
        |with_reducible exact CX (by assumption) (EJ (by assumption)) hb10r hb9r hb18
        |with_reducible exact wX (by assumption) hb10r hb9r hb18 _ _
        |with_reducible exact wX (wX (by assumption) hb10r hb9r hb18 _ _) hb10r hb9r hb18 _ _)
       (first
        |(go_at_call 60;(refine(hput _ (s3B (by assumption))).mono ?_;rintro e w11 ⟨rfl,hb11⟩;first|(have hs11:wr.heap.size<=w11.heap.size:=hb11.size)|(have hN:Arr w11 wr.heap.size 82 [.string ⟨#[]⟩,.int .i64 0]:=Arr.below (w:=(wr.alloc (.cells #[.string ⟨#[]⟩,.int .i64 0] 82)).drew) (Arr.new wr 82 [.string ⟨#[]⟩,.int .i64 0]) hb11 (by show wr.heap.size<(wr.alloc _).heap.size;simp);have n0:=hN.cell (i:=0) rfl;have n1:=hN.cell (i:=1) rfl;have g0:=hN.free 0;have g1:=hN.free 1))))
      all_goals
       go_wp2_with fail;go_meet
       first
        |exact⟨_,rfl,(hN.set 0 _).set 1 _,s3B (by assumption)⟩
        |exact⟨_,rfl,Arr.new w11 82 [.string (mkS (aD X)),.int .i64 (X.length:Int)],s3B (by assumption)⟩
     case rest=>
      obtain⟨z,rfl,hZ,hbz⟩:=hcut;have ho12:=OwI.below ho12 hbz (aA _);have ho18:=ho18.below hbz (aA _);have hbc:=hbc.trans (hbz.mono hsc);have hsc:=aW hsc hbz.size;have z0:=hZ.cell (i:=0) rfl;have z1:=hZ.cell (i:=1) rfl;clear hbz hcell hxc hgx;go_wp2_with fail;refine(hls _).mono ?_;rintro e w13 ⟨u6,rfl,hu,hb6⟩;have ho12:=OwI.below ho12 hb6 (aA _);have ho18:=ho18.below hb6 (aA _);have hbc:=hbc.trans (hb6.mono hsc);have hsc:=aW hsc hb6.size;clear hb6 z0 z1 hZ
      go_wp2_with (at_builtin;refine kG rfl _ _ rfl B _ _ (bI X) rfl ho12 _ rfl hu (by rw[cN];exact hcp) ?_ ?_ ?_;(rw[cN,cN];omega);(exact hsc);intro v13 w14 r1 r2 r3 r4);have r3':w13.grownBy w14 v12.ownBlock:=r3;have hg:=HGG2.out
      go_roundg (G-(i+1))
      case measure=>omega
      case rel=>exact⟨i+1,_,E++X,by omega,rfl,rfl,by go_num,hid (by rw[HX.out,HE.out,cF]),by rw[aL];omega,by rw[gB];exact r1,ho18.kept r3' (qO ho18 ho12 (by decide)),hbc.trans r2,aW hsc r2.size⟩
   ·have w1':decide ((i:Int)<(G:Int))=false:=decide_eq_false (by omega);have hie:i=G:=by omega
    have hA9':=HA.out _ hbc;have hB9':=HB.out _ hbc;have hBlk:=HI.out.blk;have hEq:E=cB s:=by
     rw[hBlk,HE.out,hie,cS (by rw[<-HG.out];exact aA _),cS (by rw[iD,<-HGL.out];exact aA _),HD8.out,HD7.out,HD6.out,HD5.out,HD4.out,HD3.out,HD2.out,HD1.out,HSL.out,HZ.out,<-HG.out,<-HT0.out,<-HT1.out];simp only[List.nil_append,cF]
    have HEQ:=hid hEq;clear hEq hBlk hie;go_wp2_with fail;refine(uG _ E _ (OwI.rd ho12) (by omega)).mono ?_;rintro e w20 ⟨rfl,hb20⟩;have hA20:=hA9'.below hb20 (by omega);have hB20:=hB9'.trans (hb20.mono (by omega));have d0:=hA20.cell (i:=0) rfl;have d1:=hA20.cell (i:=1) rfl;have f0:=hA20.free 0;have f1:=hA20.free 1;clear hb20 ho12 ho18 hA9' hB9';go_wp2_with fail;obtain⟨z0,z1⟩:=EL hA20 hB20 (.string (mkS (aD E))) (.int .i64 (E.length:Int));refine bpE rfl z0 rfl rfl rfl ⟨?_,z1,fun _=>HO.out⟩;have hBL:mP s room=E:=by unfold mP;rw[if_pos HF.out,HEQ.out]
    rw[hBL,HF.out];rfl
end
section
structure vD (N:Nat) (U:Nat->Int) (j:Nat) (D:Nat->Int):Prop where
 top:D (N-1)=0
 down:∀x,j<=x->x<N-1->D x=D (U x).toNat+1
 bd:∀x,j<=x->x<N->0<=D x/\D x<=((N-x:Nat):Int)
theorem vD.start (N:Nat) (U:Nat->Int):vD N U (N-1) (fun _=>0):=⟨rfl,fun x h1 h2=>by omega,fun x h1 h2=>by omega⟩
theorem vD.step {N:Nat} {U:Nat->Int} {j u:Nat} {D:Nat->Int} (h:vD N U (j+1) D) (hj:j+1<N) (hu:U j=(u:Int)) (h1:j<u) (h2:u<N) (hU:∀x,j<=x->x<N-1->j<(U x).toNat):vD N U j (fun d=>if d=j then D u+1 else D d):=by
 refine⟨?_,fun x h3 h4=>?_,fun x h3 h4=>?_⟩
 ·show(if N-1=j then _ else _)=_;rw[if_neg (by omega)];exact h.top
 ·show(if x=j then _ else _)=(if(U x).toNat=j then _ else _)+1;have hx:=hU x h3 h4;rw[if_neg (show ¬(U x).toNat=j by omega)]
  by_cases e:x=j
  ·subst e;rw[if_pos rfl,hu,eG]
  ·rw[if_neg e];exact h.down x (by omega) h4
 ·show 0<=(if x=j then _ else _)/\(if x=j then _ else _)<=_
  by_cases e:x=j
  ·subst e;rw[if_pos rfl];have:=h.bd u (by omega) h2;omega
  ·rw[if_neg e];exact h.bd x (by omega) h4
end
end Go.Proofs.YtmcogmmncfihhaaGreatDoor
