/-
  Texts put together (part 6): the walks and the plain laws on which the statement stands.
-/
import Derived.Deep.Cut
import Derived.Laws.IdiomCopy
import Derived.Lib.BytesEntry
import Derived.Lib.ConvBytes
import Derived.Test.YtmcogmmncfihhaaGreatDoorZ5
set_option maxRecDepth 100000
set_option maxHeartbeats 12800000
set_option linter.unusedVariables false
set_option linter.unusedSimpArgs false
open Decidable renaming not_not->dK
open Go renaming Operand->iM,heap_setCell_other->kT,wpList_plain->AD
open Go.IntKind renaming u64->fU,wrap_u64->gF
open Go.Lib renaming bytesWorld_size->aCt
open Go.Oper renaming wp->lX
open Go.Region renaming wanted->nR
open Go.Result renaming andThen->jB
open Go.RowKit.Below renaming refl->aB
open Go.World renaming cell?_of_block->oK,cell?_setCells_out->aTi,grownBy_alloc->AV
open Int renaming toNat_natCast->eG
open List renaming append_assoc->cF,drop_append_of_le_length->aTb,ext_getElem?->jA,flatMap_append->pZ,getD_eq_getElem?_getD->aV,getElem?_append_left->gS,getElem?_append_right->jY,getElem?_eq_getElem->aN,getElem?_eq_none->dL,getElem?_eq_some_iff->eU,getElem?_set_ne->qU,getElem?_take_of_lt->mB,getElem_mem->gT,length_append->aL,length_cons->cR,length_drop->cI,length_map->bJ,length_set->mW,length_take->aX,map_cons->pG,mem_append->cU,mem_cons_of_mem->jD,mem_cons_self->lY,mem_map->dU,mem_of_getElem?->cH,mem_range->jF,mem_singleton->dC,range->dG,replicate->bB,sum_cons->pV,take_add_one->cQ,take_append_drop->jE,take_append_of_le_length->GO,take_length->kE,take_zero->FX
open Nat renaming eq_zero_or_pos->fJ,le_refl->aA,le_trans->aW,lt_of_lt_of_le->dR,lt_or_ge->bT,min_eq_left->gU,mul_assoc->vH,mul_comm->oG,mul_le_mul_left->aCp,pow_le_pow_right->jC,pow_pos->xL,pow_succ->nQ,zero_le->aU
open Option renaming toList_some->mX
open UInt8 renaming ofNat->eK
namespace Go.Proofs.YtmcogmmncfihhaaGreatDoor
section
open Go.RowKit
def ByA (w:World) (g:Nat) (l:List UInt8):Prop:=g<w.heap.size/\(∀j b,l[j]? =some b->w.cell? ⟨g,j,none⟩=some (.int .u8 (b.toNat:Int)))/\∀j,j<l.length->w.frozen? ⟨g,j,none⟩=false
theorem ByA.kept {w w':World} {g:Nat} {l:List UInt8} {row:Option Nat} (h:ByA w g l) (hg:w.grownBy w' row) (hne:some g≠row):ByA w' g l:=
 ⟨dR h.1 hg.size,fun j b hj=>by rw[oK (hg.block g h.1 hne)];exact h.2.1 j b hj,fun j hj=>by rw[World.frozen?_of_block (hg.block g h.1 hne)];exact h.2.2 j hj⟩
theorem ByA.below {w w':World} {B g:Nat} {l:List UInt8} (h:ByA w g l) (hb:Below B w w') (hg:g<B):ByA w' g l:=
 ⟨dR h.1 hb.size,fun j b hj=>by rw[hb.cell (p:=⟨g,j,none⟩) hg];exact h.2.1 j b hj,fun j hj=>by rw[hb.frozen (p:=⟨g,j,none⟩) hg];exact h.2.2 j hj⟩
theorem ByA.set {w:World} {g:Nat} {l:List UInt8} (h:ByA w g l) (i:Nat) (b:UInt8):ByA (w.setCell ⟨g,i,none⟩ (.int .u8 (b.toNat:Int))) g (l.set i b):=by
 refine⟨by simpa using h.1,fun j c hj=>?_,fun j hj=>by rw[World.frozen?_setCell];exact h.2.2 j (by simpa using hj)⟩;obtain⟨hl,hc⟩:=eU.1 hj;rw[mW] at hl
 by_cases e:i=j
 ·subst e;rw[List.getElem_set_self] at hc;subst hc;exact World.cell?_setCell_same _ _ _ (h.2.1 i _ (aN hl))
 ·rw[World.cell?_setCell_other _ _ _ _ (fun e'=>e (by have:=congrArg Addr.off e';simpa using this))];refine h.2.1 j c ?_;rw[<-hj,qU e]
theorem WI:(Tryz.prog.info? 5).map (·.size)=some 1:=by kernel_rfl
theorem WJ {ops:Array Oper} {rest:List Oper} {o:Oper} {a:Act} {Q:Exit->Act->World->Prop} {w:World} (hgd:o.guard=none) (d s:iM)
  (ho:o.op=.call {callee:=.builtin .copy,args:=#[d,s],argTypes:=#[47,47]}) (g:Nat) (l:List UInt8) (i:Nat) (hA:ByA w g l) (hi:i<l.length)
  (dp:Option Addr) (dLen dCap sCap:Nat) (hd:a.eval d=.slice dp dLen dCap) (hs:a.eval s=.slice (some ⟨g,0,none⟩) i sCap) (hdl:dLen=l.length-1) (hdp:1<l.length->dp=some ⟨g,1,none⟩)
  (h:∀w',ByA w' g (l.take 1++l.take i++l.drop (i+1))->w.grownBy w' (some g)->wpList Tryz.prog ops Q rest (a.put o.dst (goInt i)) w'):
  wpList Tryz.prog ops Q (o::rest) a w:=by
 refine AD hgd fun K hK=>?_
 replace h:=fun w' q1 q2=>hK _ _ (h w' q1 q2)
 rcases fJ i with h0|h0
 ·subst h0;have hrun:=run_copy_none (P:=Tryz.prog) w 47 47 o.type 5 dp (some ⟨g,0,none⟩) dLen dCap 0 sCap Tryz.underlying47 WI (Nat.zero_min _);unfold lX;simp[execOp,ho,resolve,invoke,builtin,hd,hs,hrun,jB];refine h w ?_ ⟨rfl,rfl,rfl,aA _,fun _ _ _=>rfl⟩;rw[FX,List.append_nil,jE];exact hA
 ·have hdp':=hdp (by omega);subst hdp';have hl1:(l.take i).length=i:=by rw[aX];omega
  have hrun:=run_copy_cells (P:=Tryz.prog) w 47 47 o.type 5 g 1 dLen dCap ⟨g,0,none⟩ i sCap (eO (l.take i)) Tryz.underlying47 WI (by rw[rE,hl1];exact(gU (by omega)).symm)
   (fun j v hj=>by
    unfold eO at hj;rw[List.getElem?_map] at hj
    cases hn:(l.take i)[j]? with
    |none=>rw[hn] at hj;simp at hj
    |some b=>
     rw[hn] at hj;simp at hj;subst hj;have e:(⟨g,0,none⟩:Addr).add j=⟨g,j,none⟩:=by unfold Addr.add;split<;>simp_all
     rw[e];have hj':j<i:=by have:=(eU.1 hn).1;omega
     rw[mB hj'] at hn;exact hA.2.1 j b hn)
   (fun j hj=>by
    rw[rE,hl1] at hj;rw[hA.2.1 (1+j) _ (aN (by omega))];rfl)
   (fun j hj=>by rw[rE,hl1] at hj;exact hA.2.2 (1+j) (by omega))
   (fun v hv=>by obtain⟨b,_,rfl⟩:=dU.1 hv;rfl)
  rw[rE,hl1] at hrun;unfold lX;simp[execOp,ho,resolve,invoke,builtin,hd,hs,hrun,jB];have hsz:∀(vs:List Value) (o:Nat) (w:World),w.grownBy (w.setCells g o vs) (some g):=by
   intro vs
   induction vs with
   |nil=>intro o w;exact⟨rfl,rfl,rfl,aA _,fun _ _ _=>rfl⟩
   |cons v vs ih=>
    intro o w;have h2:=ih (o+1) (w.setCell ⟨g,o,none⟩ v);refine⟨h2.os,h2.tape,h2.output,aW (by simp) h2.size,fun k hk hne=>?_⟩;rw[World.setCells,h2.block k (by simpa using hk) hne];exact kT _ _ _ _ (fun e=>hne (by rw[e]))
  have hlen:(l.take 1++l.take i++l.drop (i+1)).length=l.length:=by simp only[aL,aX,cI];omega
  refine h _ ⟨dR hA.1 (hsz _ _ _).size,fun j b hj=>?_,fun j hj=>?_⟩ (hsz _ _ _)
  ·rcases fJ j with j0|j0
   ·subst j0;rw[aTi g _ _ _ _ (fun _ _=>.inl (by simp))];refine hA.2.1 0 b ?_;rw[<-hj,cF,gS (by rw[aX];omega),mB (by omega)]
   ·rcases bT j (i+1) with q|q
    ·have hjl:j-1<(eO (l.take i)).length:=by rw[rE,hl1];omega
     have hin:=World.cell?_setCells_in g (eO (l.take i)) 1 w (fun k hk=>by
      rw[rE,hl1] at hk;rw[hA.2.1 (1+k) _ (aN (by omega))];rfl) (j-1) hjl
     rw[show 1+(j-1)=j by omega] at hin;rw[hin];have e:(l.take i)[j-1]? =some b:=by
      rw[<-hj,cF,jY (by rw[aX];omega),aX,show min 1 l.length=1 by omega,gS (by rw[hl1];omega)]
     have:=BH e;rw[aN hjl] at this;exact this
    ·rw[aTi g _ _ _ _ (fun _ _=>.inr (by rw[rE,hl1];simp;omega))];refine hA.2.1 j b ?_;have e3:i+1+(j-(l.take 1++l.take i).length)=j:=by simp only[aL,aX];omega
     rw[<-hj,jY (by simp only[aL,aX];omega),List.getElem?_drop,e3]
  ·rw[World.frozen?_setCells];rw[hlen] at hj;exact hA.2.2 j hj
theorem aKu {l:List UInt8} {i:Nat} (hi:i<l.length):eF l i=l[i]::(l.take i++l.drop (i+1)):=by
 have e:(l.drop i).take 1=[l[i]]:=by rw[List.drop_eq_getElem_cons hi];rfl
 unfold eF;rw[e];simp
theorem WK {l:List UInt8} {i:Nat} (hi:i<l.length):(l.take 1++l.take i++l.drop (i+1)).set 0 l[i]=eF l i:=by
 rw[aKu hi]
 cases l with
 |nil=>simp at hi
 |cons b l=>simp
theorem nK {w w':World} {g:Nat} (h:w.grownBy w' (some g)) (k:Nat) (v:Value):w.grownBy (w'.setCell ⟨g,k,none⟩ v) (some g):=
 ⟨h.os,h.tape,h.output,by simpa using h.size,fun i hi hne=>(kT _ _ _ _ (fun e=>hne (by rw[e]))).trans (h.block i hi hne)⟩
theorem WL {w0 w:World} {g n cap bx:Nat} {l:List UInt8} (h:w.cell? ⟨bx,0,none⟩=some (.slice (some ⟨g,0,none⟩) n cap)/\ByA w g l/\w0.grownBy w (some g)):w.drew.cell? ⟨bx,0,none⟩=some (.slice (some ⟨g,0,none⟩) n cap)/\ByA w.drew g l/\w0.grownBy w.drew (some g):=
 ⟨h.1,h.2.1,nC h.2.2⟩
theorem WM (g cap i:Nat) (l:List UInt8) (w:World) (hA:ByA w g l) (hi:i<l.length) (hl:l.length<=1000) (hcap:l.length<=cap) (hcm:cap<=maxLen):
  Calls Tryz.prog 168 #[.agg #[.slice (some ⟨g,0,none⟩) l.length cap],.int .i64 (i:Int)] w fun e w'=>e=.returned (.int .u8 (l[i].toNat:Int))/\ByA w' g (eF l i)/\w.grownBy w' (some g):=by
 unfold maxLen at hcm;obtain⟨b,hb⟩:∃b,b=l[i]:=⟨_,rfl⟩;have HB:=hid hb;have c1:=hA.2.1 i b (by rw[hb];exact aN hi);rw[<-hb];have hgl:=hA.1;have hA1:ByA (w.alloc (.cells #[.slice (some ⟨g,0,none⟩) l.length cap] 274)) g l:=hA.kept (row:=none) (AV _ _ _) (by simp);have hG1:w.grownBy (w.alloc (.cells #[.slice (some ⟨g,0,none⟩) l.length cap] 274)) (some g):=AV _ _ _;have hC1:=bS w (.slice (some ⟨g,0,none⟩) l.length cap) 274;have hB1:w.heap.size<(w.alloc (.cells #[.slice (some ⟨g,0,none⟩) l.length cap] 274)).heap.size:=by simp
 have hle1:1<=l.length:=by omega
 have hle2:1<=cap:=by omega
 have hbt:=b.toNat_lt;clear hb;go_enter Tryz.func168,Tryz.ntmps168;have b1:i<=cap:=by omega
 have b2:(i:Int)<=(cap:Int):=by omega
 have b3:(1:Int)<=(l.length:Int):=by omega
 have b4:(1:Int)<=(cap:Int):=by omega
 go_upto_region 2 with fail;generalize w.alloc (.cells #[.slice (some ⟨g,0,none⟩) l.length cap] 274)=w1 at*
 by_cases hc1:cap=1
 ·subst hc1;have hl1:l.length=1:=by omega
  have hi0:i=0:=by omega
  subst hi0
  go_still_tail 7,(by kernel_rfl)
  change wpList _ _ _ _ _ w1.drew;obtain⟨hC2,hA2,hG2⟩:=WL ⟨hC1,hA1,hG1⟩
  replace hB1:w.heap.size<w1.drew.heap.size:=hB1
  clear hC1 hA1 hG1;generalize w1.drew=w2 at*
  refine WJ rfl _ _ rfl g l 0 hA2 hi _ _ _ _ rfl rfl (by omega) (fun h1=>?_) ?_
  ·exfalso;omega
  intro w3 hA3 hG3;have hbx:some w.heap.size≠some g:=by simp;omega
  have hC3:=hC2;rw[<-oK (hG3.block _ hB1 hbx)] at hC3;have hlen:(l.take 1++l.take 0++l.drop (0+1)).length=l.length:=by simp only[aL,aX,cI];omega
  have hb0:0<(l.take 1++l.take 0++l.drop (0+1)).length:=by omega
  have hw0:=hA3.2.1 0 _ (aN hb0);have hf0:=hA3.2.2 0 hb0;have hA4:=hA3.set 0 b;have hG4:=nK (dS hG2 hG3) 0 (.int .u8 (b.toNat:Int));rw[HB.out,WK hi,<-HB.out] at hA4;go_wp2_with fail;go_ret;exact⟨rfl,hA4,hG4⟩
 ·go_still_tail 7,(by kernel_rfl)
  change wpList _ _ _ _ _ w1.drew;obtain⟨hC2,hA2,hG2⟩:=WL ⟨hC1,hA1,hG1⟩
  replace hB1:w.heap.size<w1.drew.heap.size:=hB1
  clear hC1 hA1 hG1;generalize w1.drew=w2 at*
  refine WJ rfl _ _ rfl g l i hA2 hi _ _ _ _ rfl rfl rfl (fun h1=>rfl) ?_;intro w3 hA3 hG3;have hbx:some w.heap.size≠some g:=by simp;omega
  have hC3:=hC2;rw[<-oK (hG3.block _ hB1 hbx)] at hC3;have hlen:(l.take 1++l.take i++l.drop (i+1)).length=l.length:=by simp only[aL,aX,cI];omega
  have hb0:0<(l.take 1++l.take i++l.drop (i+1)).length:=by omega
  have hw0:=hA3.2.1 0 _ (aN hb0);have hf0:=hA3.2.2 0 hb0;have hA4:=hA3.set 0 b;have hG4:=nK (dS hG2 hG3) 0 (.int .u8 (b.toNat:Int));rw[HB.out,WK hi,<-HB.out] at hA4;go_wp2_with fail;go_ret;exact⟨rfl,hA4,hG4⟩
def qQ (f:Nat->Bool):List Value:=(dG 256).map (fun d=>Value.bool (f d))
theorem LK (f:Nat->Bool) (i:Nat) (h:i<256):(qQ f)[i]? =some (.bool (f i)):=by simp[qQ,h]
theorem aKv (f f':Nat->Bool) (i:Nat) (v:Bool) (h:∀d,d<256->f' d=if d=i then v else f d):(qQ f).set i (.bool v)=qQ f':=by
 apply jA;intro j
 by_cases hj:j<256
 ·by_cases hij:i=j
  ·subst hij;simp[qQ,hj,h i hj]
  ·rw[qU hij,LK f j hj,LK f' j hj,h j hj,if_neg (fun e=>hij e.symm)]
 ·rw[dL (by simp[qQ];omega),dL (by simp[qQ];omega)]
theorem WN (a:ByteArray) (w:World) (hs:a.size<=1000000000) (hn:a.data.toList.Nodup):
  Calls Tryz.prog 167 #[.string a] w fun e w'=>e=.returned (.bool true)/\Below w.heap.size w w':=by
 have HN:=hid hn;clear hn;have hl:a.data.toList.length=a.size:=by simp
 have HL:=hid hl;clear hl;go_enter Tryz.func167,Tryz.ntmps167;go_wp2_with fail
 go_loopg [2,4,7] a.size (fun gh _s2 _s4 s7 wr=>∃k:Nat,k<=a.size/\gh=a.size-k/\s7=.int .i64 k/\Arr wr w.heap.size 264 (qQ (fun d=>(a.data.toList.take k).any (fun b=>b.toNat==d)))/\Below w.heap.size w wr)
 case atStart=>
  refine⟨0,aU _,rfl,rfl,?_,(aB _ _).alloc (aA _) _⟩;have z:Tryz.zeroCells264=(qQ (fun _=>false)).toArray:=by kernel_rfl
  rw[z]
  simpa using Arr.new w 264 (qQ (fun _=>false))
 case round=>
 obtain⟨k,hk,hg,rfl,harr,hbel⟩:=hrel;have HG:=hid hg;clear hg
 by_cases hka:k<a.size
 ·have hb:=a[k].toNat_lt;have hb1:a[k].toNat<256:=hb;have hb2:(a[k].toNat:Int)<256:=by omega
  have hno:(a.data.toList.take k).any (fun b=>b.toNat==a[k].toNat)=false:=by
   rw[<-Bool.not_eq_true,List.any_eq_true];rintro⟨b,hb,e⟩
   replace e:=beq_iff_eq.1 e
   have e2:b=a[k]:=UInt8.toNat_inj.1 e;subst e2;obtain⟨j,hj,hje⟩:=List.getElem_of_mem hb;rw[aX] at hj;rw[List.getElem_take] at hje;have p1:=IL HN.out (i:=j) (by rw[HL.out];omega);have p2:=IL HN.out (i:=k) (by rw[HL.out];exact hka);rw[hje] at p1;have p3:a.data.toList[k]'(by rw[HL.out];exact hka)=a[k]:=by simp;rfl
   rw[p3] at p2;omega
  have hcell:=harr.cell (i:=a[k].toNat) (by rw[LK _ _ hb1,hno]);have hfro:=harr.free a[k].toNat;have hset:=aKv (fun d=>(a.data.toList.take k).any (fun b=>b.toNat==d)) (fun d=>(a.data.toList.take (k+1)).any (fun b=>b.toNat==d)) a[k].toNat true (fun d _=>by
   rw[cQ,eW a k hka,mX];rw[List.any_append]
   by_cases hd:d=a[k].toNat
   ·rw[if_pos hd,hd];simp
   ·rw[if_neg hd];have:(a[k].toNat==d)=false:=by(rw[beq_eq_false_iff_ne];exact fun e=>hd e.symm)
    simp[this])
  have hnew:=harr.set a[k].toNat (.bool true);rw[hset] at hnew;clear hset;go_wp2_with fail;have hg:=HG.out
  go_roundg (a.size-(k+1))
  case measure=>omega
  case rel=>exact⟨k+1,by omega,rfl,by go_num,hnew,hbel.setCell (aA _) _⟩
 ·go_wp2_with fail;go_ret;exact⟨rfl,hbel⟩
structure Tel (w:World) (B C tb g cap:Nat) (l:List UInt8) (pv:Value) (ps:List Int):Prop where
 c0:w.cell? ⟨tb,0,none⟩=some (.slice (some ⟨g,0,none⟩) l.length cap)
 c1:w.cell? ⟨tb,1,none⟩=some pv
 fr:w.frozen? ⟨tb,1,none⟩=false
 by':ByA w g l
 own:OwI w C pv ps
 sep:B<=g/\B<=tb/\tb≠g/\g<C/\tb<C/\C<=w.heap.size
theorem zH (w:World) (row:Option Nat):w.grownBy w row:=⟨rfl,rfl,rfl,aA _,fun _ _ _=>rfl⟩
theorem OwI.kept {w w':World} {B:Nat} {v:Value} {l:List Int} {row:Option Nat} (h:OwI w B v l) (hg:w.grownBy w' row) (hne:∀b,row=some b->b<B):OwI w' B v l:=by
 refine Ow.kept h hg ?_
 cases e:v.ownBlock with
 |none=>exact .inl rfl
 |some k=>
  right
  intro e2;have:=hne k e2.symm;have:=(Ow.lt h k e).1;omega
theorem aK0 (w:World) (e:TypeId) (s:ByteArray):Below w.heap.size w (Lib.bytesWorld w e s):=
 ⟨rfl,rfl,rfl,by rw[aCt];omega,fun k hk=>Lib.bytesWorld_at_old w e s k hk⟩
theorem DX (w:World) (a:ByteArray) (ha:a.size<=1000000):∃cap w',(convert 9 47 (.string a)).run Tryz.prog w=.ok (.slice (some ⟨w.heap.size,0,none⟩) a.size cap) w'/\a.size<=cap/\cap<=maxLen/\ByA w' w.heap.size a.data.toList/\Below w.heap.size w w'/\w'.heap.size=w.heap.size+1:=by
 refine⟨grownCap w a.size 0 5,Lib.bytesWorld w 5 a,Lib.run_convert_string_bytes w _ _ _ a Tryz.underlying9 Tryz.underlying47 Tryz.underlying5,grownCap_ge _ _ _ _,grownCap_le_maxLen _ _ _ _ (by unfold maxLen;omega),⟨?_,?_,?_⟩,aK0 _ _ _,aCt _ _ _⟩
 ·rw[aCt];omega
 ·intro j b hj;have hjl:j<a.size:=by simpa using(eU.1 hj).1
  rw[Lib.bytesWorld_cell w _ a j hjl,aV,hj];rfl
 ·intro j hj;have hjl:j<a.size:=by simpa using hj
  have hc:j<(Lib.bytesCells w 5 a).size:=by
   unfold Lib.bytesCells;rw[Array.size_append,Array.size_map];have:a.data.size=a.size:=rfl;omega
  simp only[World.frozen?,Lib.bytesWorld_at_new];simp;omega
theorem zI {P:Program} {fn:Func} {p u:Tmp} {ty:TypeId} (h:fn.results=#[.cell p ty,.tmp u]) (tmps:Array Value) (w:World) (g:Nat) (t:TypeId) (cs:Array Value) (fr:Nat×Nat) (d:TypeDesc)
  (hp:tmps.getD p undef=.pointer (some ⟨g,0,none⟩)) (hg:w.heap[g]? =some (.cells cs t fr))
  (hu:P.underlying ty=some d) (hd:(match d with|.struct _|.array _ _=>true|_=>false)=true) (hi:(P.info? ty).map (·.size)=some cs.size):
  (results fn tmps).run P w=.ok (.tuple #[.agg cs,tmps.getD u undef]) w:=by
 rw[results_cell_tmp h,hp];simp[asAddr,jB,run_loadVar_row w g t ty cs fr d hg hu hd hi]
theorem aK4 {P:Program} {ops:Array Oper} {rest:List Oper} {o:Oper} {a:Act} {Q:Exit->Act->World->Prop} {w:World} {t e bytes:Nat} {z:Value} (E:ElT P t e bytes z) (hgd:o.guard=none) (l c:iM)
  (ho:o.op=.makeSlice t l c) (n:Nat) (hl:a.eval l=.int .i64 0) (hc:a.eval c=.int .i64 (n:Int)) (hroom:n*bytes<=140737488355328)
  (h:∀w',Ow w' w.heap.size e (.slice (some ⟨w.heap.size,0,none⟩) 0 n) []->Below w.heap.size w w'->w'.heap.size=w.heap.size+1->wpList P ops Q rest (a.put o.dst (.slice (some ⟨w.heap.size,0,none⟩) 0 n)) w'):wpList P ops Q (o::rest) a w:=by
 refine AD hgd fun K hK'=>?_
 obtain⟨i,hi,hz,h2,h3⟩:=E.info;have hpos:=E.pos;have hn:n<=140737488355328:=aW (Nat.le_mul_of_pos_right _ hpos) hroom;have hb:(i.bytes:Int)*(n:Int)<=281474976710656:=by
  rw[h3,<-Int.natCast_mul,oG];omega
 have hrun:=run_make (P:=P) w t e i z E.under hi hz .i64 .i64 0 (n:Int) (by omega) (by omega) hb (by omega);rw[h2,Nat.mul_one,eG,E.cells,show madeCells #[z] n=fB z n from by rw[fB,<-toList_madeCells_one]] at hrun;unfold lX;simp[execOp,ho,hl,hc,hrun,jB];exact hK' _ _ (h _ (World.ownsRow_made w _ n (aA _) (by unfold maxLen;omega) (by simp[fB])) ((aB _ _).alloc (aA _) _) (by simp))
theorem OwB.kept {w w':World} {B:Nat} {v:Value} {l:List UInt8} {row:Option Nat} (h:OwB w B v l) (hg:w.grownBy w' row) (hne:∀b,row=some b->b<B):OwB w' B v l:=by
 refine Ow.kept h hg ?_
 cases e:v.ownBlock with
 |none=>exact .inl rfl
 |some k=>
  right
  intro e2;have:=hne k e2.symm;have:=(Ow.lt h k e).1;omega
theorem aK5 (a:ByteArray) (v:Value) (l:List Int) (w:World) (ha:a.size<=1000) (hl:l.length<=1000000) (hn:a.data.toList.Nodup) (hr:RdI w v l) (hx:∀x∈l,0<=x/\x<(a.size:Int)):
  Calls Tryz.prog 152 #[.string a,v] w fun e w'=>e=.returned (.tuple #[.string (mkS (unL a.data.toList l)),.int .i64 0])/\Below w.heap.size w w':=by
 obtain⟨ad,ca,rfl,hca,hma,hA⟩:=hr.open;unfold maxLen at hma;have HN:=hid hn;have HX:=hid hx;have hla:a.data.toList.length=a.size:=by simp
 have HLA:=hid hla;clear hn hx hr hla;go_enter Tryz.func152,Tryz.ntmps152;go_wp2_with fail;refine(WN a _ (by omega) HN.out).mono ?_;rintro e w1 ⟨rfl,hb1⟩;have hz1:=hb1.size;go_wp2_with fail;obtain⟨cap,w2,hcv,hcap1,hcap2,hA2,hb2,hz2⟩:=DX w1 a (by omega);rw[hcv];have hA3:=hA2.kept (row:=none) (AV w2 (.cells #[.slice (some ⟨w1.heap.size,0,none⟩) a.size cap] 274) none) (by simp);have hc3:=bS w2 (.slice (some ⟨w1.heap.size,0,none⟩) a.size cap) 274
 have hb3:Below w.heap.size w (w2.alloc (.cells #[.slice (some ⟨w1.heap.size,0,none⟩) a.size cap] 274)):=(hb1.trans (hb2.mono hz1)).alloc (by omega) _;have hz3:(w2.alloc (.cells #[.slice (some ⟨w1.heap.size,0,none⟩) a.size cap] 274)).heap.size=w1.heap.size+1+1:=by simp[hz2]
 rw[hz2] at hc3;go_wp2_with (at_make;generalize w2.alloc (.cells #[.slice (some ⟨w1.heap.size,0,none⟩) a.size cap] 274)=w3 at*;refine aK4 vQ rfl _ _ rfl l.length rfl rfl (by omega) ?_;intro w4 hown4 hb4 hz4);have hown4':OwB w4 (w1.heap.size+1+1) (.slice (some ⟨w1.heap.size+1+1,0,none⟩) 0 l.length) []:=by rw[hz3] at hown4;exact hown4
 have hA4:=hA3.below hb4 (by omega);have hc4:w4.cell? ⟨w1.heap.size+1,0,none⟩=some (.slice (some ⟨w1.heap.size,0,none⟩) a.size cap):=by
  rw[hb4.cell (p:=⟨w1.heap.size+1,0,none⟩) (by show w1.heap.size+1<w3.heap.size;omega)];exact hc3
 have hbl4:Below w.heap.size w w4:=hb3.trans (hb4.mono (by omega))
 go_loopg [7,9,21] l.length (fun gh s7 _s9 s21 wr=>∃k:Nat,k<=l.length/\gh=l.length-k/\s21=.int .i64 k/\OwB wr (w1.heap.size+1+1) s7 (unL a.data.toList (l.take k))/\ByA wr w1.heap.size (unA a.data.toList (l.take k))/\wr.cell? ⟨w1.heap.size+1,0,none⟩=some (.slice (some ⟨w1.heap.size,0,none⟩) a.size cap)/\Below w.heap.size w wr/\w1.heap.size+1+1<=wr.heap.size)
 case atStart=>exact⟨0,aU _,rfl,rfl,by simpa [unL] using hown4',by simpa [unA] using hA4,hc4,hbl4,by omega⟩
 case round=>
 obtain⟨k,hk,hg,rfl,hown,hAk,hck,hbel,hsz⟩:=hrel;have HG:=hid hg;clear hg
 by_cases hlt:k<l.length
 ·obtain⟨b0,o0,rfl,hb0,hc0⟩:=hA (by omega);obtain⟨x,hx⟩:=dH hlt;have c1:=(hbel.cell (p:=⟨b0,o0+k,none⟩) hb0).trans (hc0 k x hx);have hxb:=HX.out x (cH hx);obtain⟨i,rfl⟩:∃i:Nat,x=(i:Int):=⟨x.toNat,by omega⟩;obtain⟨A,hAA⟩:∃A,A=unA a.data.toList (l.take k):=⟨_,rfl⟩;have hAs:A.length=a.size:=by rw[hAA,(PM _ _).length_eq];exact HLA.out
  have hll:=hid (show(unL a.data.toList (l.take k)).length=k by rw[oO,aX];omega);have hi:i<A.length:=by omega
  have e1:=hid (show unL a.data.toList (l.take (k+1))=unL a.data.toList (l.take k)++[A[i]] by
   rw[cQ,hx,mX,IN,<-hAA];simp[List.getD,aN hi])
  have e2:=hid (show unA a.data.toList (l.take (k+1))=eF A i by
   rw[cQ,hx,mX,IP,<-hAA];rfl)
  rw[<-hAA] at hAk;have t1:decide ((i:Int)<0)=false:=decide_eq_false (by omega);have t2:decide (a.size<=i)=false:=decide_eq_false (by omega);have t3:decide ((a.size:Int)<=(i:Int))=false:=decide_eq_false (by omega);have hb0r:=dR hb0 hbel.size;have HAL:=hid hAs;clear hc0 hA hx hxb hAA hAs;go_wp2_with fail;have htk:=WM w1.heap.size cap i A wr hAk hi (by rw[HAL.out];exact ha) (by rw[HAL.out];exact hcap1) hcap2;rw[HAL.out] at htk;refine htk.mono ?_;rintro e w6 ⟨rfl,hA6,hg6⟩;rw[<-e2.out] at hA6;have hbb:=(A[i]).toNat_lt;have hown6:=hown.kept hg6 (fun b e=>by simp at e;omega)
  have hc6:=hck;rw[<-oK (hg6.block (w1.heap.size+1) (by omega) (by simp))] at hc6;have hb6:Below w.heap.size w w6:=hbel.grown hg6 (by omega) (fun k e=>by simp at e;omega);have hz6:=hg6.size;go_wp2_with (at_builtin;refine yZ rfl _ _ rfl (w1.heap.size+1+1) _ _ rfl (hown6.alloc _) w6.heap.size A[i] rfl ?_ ?_ ?_ ?_;(exact bS _ _ _);(rw[hll.out];omega);(simp;omega);intro v' w7 hown7 hb7 _);rw[<-e1.out] at hown7;have hg:=HG.out;have hz7:=hb7.size;simp only[World.size_alloc] at hz7
  go_roundg (l.length-(k+1))
  case measure=>omega
  case rel=>
   refine⟨k+1,by omega,rfl,by go_num,hown7,?_,?_,(hb6.alloc (by omega) _).trans (hb7.mono (by omega)),by omega⟩
   ·exact(hA6.kept (row:=none) (AV w6 _ none) (by simp)).below hb7 (by omega)
   ·rw[hb7.cell (p:=⟨w1.heap.size+1,0,none⟩) (by show w1.heap.size+1<w1.heap.size+1+1;omega),oK (Below.heap_alloc w6 _ (w1.heap.size+1) (by omega))];exact hc6
 ·have hke:k=l.length:=by omega
  rw[List.take_of_length_le (by omega)] at hown;have hcv2:=lQ hown.rd;go_wp2_with fail
  go_ret2
  exact⟨rfl,hbel⟩
end
section
theorem SC {a c:List UInt8} {i:Nat} (h:i<a.length):eF (a++c) i=eF a i++c:=by
 unfold eF;rw[aTb (by omega),GO (by rw[cI];omega),GO (by omega),aTb (by omega)];simp[cF]
theorem SD:∀(l:List Int) (a c:List UInt8),(∀x∈l,0<=x/\x<(a.length:Int))->unL (a++c) l=unL a l/\unA (a++c) l=unA a l++c
 |[],_,_,_=>⟨rfl,rfl⟩
 |x::l,a,c,h=>by
  have hx:=h x (lY ..);have ih:=SD l (eF a x.toNat) c (fun y hy=>by rw[vS];exact h y (jD _ hy));have e:eF (a++c) x.toNat=eF a x.toNat++c:=SC (by omega);unfold unL unA;rw[e];refine⟨?_,ih.2⟩;rw[ih.1]
  congr 1
  rw[aV,gS (by omega),aV]
def cC (n:Nat):List UInt8:=(dG n).map eK
theorem oR (n:Nat):(cC n).length=n:=by simp[cC]
theorem JZ {n:Nat} (h:n<=6):cC 6=cC n++(cC 6).drop n:=by
 have e:(cC 6).take n=cC n:=by
  unfold cC;rw[<-List.map_take,List.take_range,gU h]
 rw[<-e,jE]
theorem KA {n:Nat} (h:n<=6) (b:UInt8):b∈cC n↔b.toNat<n:=by
 unfold cC;rw[dU];constructor
 ·rintro⟨k,hk,rfl⟩;rw[jF] at hk;rw[UInt8.toNat_ofNat',Nat.mod_eq_of_lt (by omega)];exact hk
 ·intro hb;exact⟨b.toNat,jF.2 hb,by simp⟩
def lF (p:Int):List Bool:=bB p.toNat true++[false]
def dE (l:List Int):List Bool:=l.flatMap lF
theorem KB (l:List Int) (p:Int):dE (l++[p])=dE l++lF p:=by unfold dE;simp[pZ]
def jK (s:List UInt8) (tables:Int):Nat->Int->Int->Int×Int×Int
 |0,_,_=>(0,0,2)
 |f+1,at',n=>
  if aO s.length at' 1≠0 then(0,0,aO s.length at' 1)
  else if aE s at' 1=0 then(n,at'+1,0)
  else if n+1=tables then(0,0,3)
  else jK s tables f (at'+1) (n+1)
def gV (s:List UInt8) (tables at' n:Int):Int×Int×Int:=jK s tables (8*s.length+2) at' n
theorem KC (s:List UInt8) (tables:Int):∀(f g:Nat) (at' n:Int),0<=at'->8*(s.length:Int)+1-at'<=f->8*(s.length:Int)+1-at'<=g->1<=f->1<=g->jK s tables f at' n=jK s tables g at' n
 |0,_,_,_,_,_,_,h,_=>by omega
 |_,0,_,_,_,_,_,_,h=>by omega
 |f+1,g+1,at',n,h0,hf,hg,_,_=>by
  unfold jK;split
  ·rfl
  ·next h1=>
   have h1:=fQ (dK.1 h1);split
   ·rfl
   ·split
    ·rfl
    ·exact KC s tables f g _ _ (by omega) (by omega) (by omega) (by omega) (by omega)
theorem DB (s:List UInt8) (tables at' n:Int) (h0:0<=at'):gV s tables at' n=
  if aO s.length at' 1≠0 then(0,0,aO s.length at' 1)
  else if aE s at' 1=0 then(n,at'+1,0)
  else if n+1=tables then(0,0,3)
  else gV s tables (at'+1) (n+1):=by
 unfold gV
 conv=>lhs;unfold jK
 split
 ·rfl
 ·next h1=>
  have h1:=fQ (dK.1 h1);split
  ·rfl
  ·split
   ·rfl
   ·exact KC s tables _ _ _ _ (by omega) (by omega) (by omega) (by omega) (by omega)
theorem DC (s:List UInt8) (tables:Int):∀(f:Nat) (at' n:Int),0<=at'->0<=n->n<tables->(jK s tables f at' n).2.2=0->0<=(jK s tables f at' n).1/\(jK s tables f at' n).1<tables/\at'<(jK s tables f at' n).2.1/\(jK s tables f at' n).2.1<=8*(s.length:Int)
 |0,_,_,_,_,_,h=>by unfold jK at h;simp at h
 |f+1,at',n,h0,h1,h2,h=>by
  unfold jK at h ⊢;split at h
  ·next q=>exact absurd h q
  ·next q=>
   have q1:=fQ (dK.1 q);rw[if_neg q];split at h
   ·next k=>
    rw[if_pos k];exact⟨h1,h2,by show at'<at'+1;omega,by show at'+1<=_;omega⟩
   ·next k=>
    rw[if_neg k];split at h
    ·simp at h
    ·next q3=>
     rw[if_neg q3];have:=DC s tables f (at'+1) (n+1) (by omega) (by omega) (by omega) h;omega
def cO (s:List UInt8) (tables at':Int):Nat->List Int×Int×Int
 |0=>([],at',0)
 |k+1=>
  let p:=cO s tables at' k
  if p.2.2≠0 then p
  else let q:=gV s tables p.2.1 0
   if q.2.2≠0 then(p.1,p.2.1,q.2.2) else(p.1++[q.1],q.2.1,0)
theorem wG (s:List UInt8) (tables at':Int) (h0:0<=at') (ht:0<tables):∀k,(cO s tables at' k).2.2=0->(cO s tables at' k).1.length=k/\(∀x∈(cO s tables at' k).1,0<=x/\x<tables)/\at'<=(cO s tables at' k).2.1/\((cO s tables at' k).2.1=at'\/(cO s tables at' k).2.1<=8*(s.length:Int))
 |0,_=>⟨rfl,fun x hx=>by simp[cO] at hx,Int.le_refl _,.inl rfl⟩
 |k+1,h=>by
  unfold cO at h ⊢;simp only at h ⊢;split at h
  ·next q=>exact absurd h q
  ·next q=>
   obtain⟨h1,h2,h3,h4⟩:=wG s tables at' h0 ht k (dK.1 q);rw[if_neg q];split at h
   ·next q2=>exact absurd h q2
   ·next q2=>
    rw[if_neg q2];have:=DC s tables (8*s.length+2) (cO s tables at' k).2.1 0 (by omega) (by omega) ht (dK.1 q2);refine⟨by simp[h1],fun x hx=>?_,by show at'<=(gV _ _ _ _).2.1;unfold gV;omega,.inr this.2.2.2⟩;rcases cU.1 hx with hx|hx
    ·exact h2 x hx
    ·obtain rfl:=dC.1 hx;exact⟨this.1,this.2.1⟩
def dD (s:List UInt8) (at' n tables:Int):List Int×Int×Int:=
 if tables<2\/6<tables\/at'<0\/n<0\/1048576<n then([],0,1)
 else let p:=cO s tables at' n.toNat
  if p.2.2≠0 then([],0,p.2.2) else((unL (cC tables.toNat) p.1).map (fun b=>(b.toNat:Int)),p.2.1,0)
def cK (m:List Int):List (List Int):=(dG ((m.length+9)/10)).map (fun i=>(m.drop (10*i)).take 10)
theorem iD (m:List Int):(cK m).length=(m.length+9)/10:=by simp[cK]
theorem wH (m:List Int) (i:Nat) (h:i<(m.length+9)/10):(cK m)[i]? =some ((m.drop (10*i)).take 10):=by simp[cK,h]
def KD (m:List Int) (n:Int):Bool:=m.any (fun s=>decide (s<0)||decide (n<=s))
theorem aHm {m:List Int} {n:Int} (h:∀x∈m,0<=x/\x<n):KD m n=false:=by
 unfold KD;rw[List.any_eq_false];intro x hx;have:=h x hx;simp;omega
def SE (lens g:List Int):Int:=if bL lens≠0 then bL lens else if KD g lens.length then 5 else 0
def lT (lens:List Int) (g:List Int):Int:=g.foldl (fun n s=>n+lens.getD s.toNat 0) 0
def nI (lens g:List Int):Int:=if SE lens g=0 then lT lens g else 0
theorem SF (lens g:List Int) (s:Int):lT lens (g++[s])=lT lens g+lens.getD s.toNat 0:=by unfold lT;rw[List.foldl_append];rfl
theorem SG {lens:List Int} (hl:∀x∈lens,1<=x/\x<=20) (g:List Int):0<=lT lens g/\lT lens g<=20*(g.length:Int):=by
 refine yA (P:=fun g=>0<=lT lens g/\lT lens g<=20*(g.length:Int)) (by simp[lT]) (fun g s ih=>?_) g;rw[SF,aL,List.length_singleton];have:0<=lens.getD s.toNat 0/\lens.getD s.toNat 0<=20:=by
  rw[aV]
  by_cases h:s.toNat<lens.length
  ·rw[aN h];have:=hl _ (gT h);simp only[Option.getD_some];omega
  ·rw[dL (by omega)];simp
 omega
def dJ (m:List Int) (n which:Nat):Nat->List Int
 |0=>bB n 0
 |k+1=>if k/10%2=which then(dJ m n which k).set (m.getD k 0).toNat ((dJ m n which k).getD (m.getD k 0).toNat 0+1) else dJ m n which k
theorem rP (m:List Int) (n which:Nat):∀k,(dJ m n which k).length=n
 |0=>by simp[dJ]
 |k+1=>by
  unfold dJ;split
  ·rw[mW,rP m n which k]
  ·exact rP m n which k
theorem SH:∀(l:List Int) (i:Nat),i<l.length->(l.set i (l.getD i 0+1)).sum=l.sum+1
 |[],i,h=>by simp at h
 |x::l,0,_=>by simp[List.set_cons_zero];omega
 |x::l,i+1,h=>by
  have:=SH l i (by simpa using h);simp only[List.set_cons_succ,pV,List.getD_cons_succ];omega
theorem wI (m:List Int) (n which:Nat) (h:∀x∈m,0<=x/\x<(n:Int)):∀k,k<=m.length->0<=(dJ m n which k).sum/\(dJ m n which k).sum<=(k:Int)/\∀x∈dJ m n which k,0<=x/\x<=(k:Int)
 |0,_=>by
  refine⟨by simp[dJ],by simp[dJ],fun x hx=>?_⟩;unfold dJ at hx;have:=List.eq_of_mem_replicate hx;omega
 |k+1,hk=>by
  obtain⟨h1,h2,h3⟩:=wI m n which h k (by omega);have hx:=h m[k] (gT (by omega));have e:m.getD k 0=m[k]:=by rw[aV,aN (by omega)];rfl
  unfold dJ;split
  ·rw[e,SH _ _ (by rw[rP];omega)];refine⟨by omega,by omega,fun x hx2=>?_⟩;rcases List.mem_or_eq_of_mem_set hx2 with q|q
   ·have:=h3 x q;omega
   ·have hg:0<=(dJ m n which k).getD m[k].toNat 0/\(dJ m n which k).getD m[k].toNat 0<=(k:Int):=by
     rw[aV,aN (by rw[rP];omega)];exact h3 _ (gT _)
    rw[q];omega
  ·exact⟨h1,by omega,fun x hx2=>by have:=h3 x hx2;omega⟩
def iK (m:List Int) (n which:Nat):List Int:=dJ m n which m.length
def nJ (ws:List Int):List Int:=kL (ws.map (fun w=>max w 1))
theorem DD (ws:List Int) (h:∀x∈ws,0<=x):(ws.map (fun w=>max w 1)).sum<=ws.sum+ws.length:=by
 induction ws with
 |nil=>decide
 |cons x l ih=>
  have:=ih (fun y hy=>h y (jD _ hy));have:=h x (lY ..);simp only[pG,pV,cR];omega
theorem KE {ws:List Int} (h2:2<=ws.length) (h258:ws.length<=258) (h0:∀x∈ws,0<=x) (hs:ws.sum<=20000):fY (nJ ws)/\(nJ ws).length=ws.length:=by
 have hm:(ws.map (fun w=>max w 1)).length=ws.length:=bJ ..;have:=aGh (ws.map (fun w=>max w 1)) (by omega) (fun x hx=>by
  obtain⟨y,_,rfl⟩:=dU.1 hx;omega) (by have:=DD ws h0;omega)
 unfold fY nJ;rw[this.1,hm];exact⟨⟨h2,h258,this.2⟩,rfl⟩
def dN (m:List Int) (n which:Nat):List Int:=nJ (iK m n which)
theorem rQ {m:List Int} {n which:Nat} (h2:2<=n) (h258:n<=258) (h:∀x∈m,0<=x/\x<(n:Int)) (hm:m.length<=20000):fY (dN m n which)/\(dN m n which).length=n:=by
 have hs:=wI m n which h m.length (aA _);have hl:=rP m n which m.length;have:=KE (ws:=iK m n which) (by unfold iK;omega) (by unfold iK;omega) (fun x hx=>(hs.2.2 x hx).1) (by unfold iK;omega);exact⟨this.1,by rw[dN,this.2];exact hl⟩
def nX (a b g:List Int):Int:=if nI b g<nI a g then 1 else 0
def cT (m:List Int) (n:Nat):List Int:=(cK m).map (nX (dN m n 0) (dN m n 1))
theorem wJ (m:List Int) (n:Nat):(cT m n).length=(m.length+9)/10:=by unfold cT;rw[bJ,iD]
theorem DE (m:List Int) (n:Nat):∀x∈cT m n,x=0\/x=1:=fun x hx=>by
 obtain⟨g,_,rfl⟩:=dU.1 hx;unfold nX;split
 ·exact .inr rfl
 ·exact .inl rfl
def eR (l syms:List Int):List Bool:=syms.flatMap (fun s=>aY (fO l s.toNat) (bG l s.toNat))
theorem SI (l syms:List Int) (s:Int):eR l (syms++[s])=eR l syms++aY (fO l s.toNat) (bG l s.toNat):=by unfold eR;simp[pZ]
theorem rR {l:List Int} (h:fY l):∀syms:List Int,(∀x∈syms,0<=x/\x<(l.length:Int))->(eR l syms).length<=20*syms.length
 |[],_=>by simp[eR]
 |s::syms,hs=>by
  have ih:=rR h syms (fun x hx=>hs x (jD _ hx));have h1:=hs s (lY ..);have:=(jG h (s:=s.toNat) (by omega)).2.1;unfold eR at ih ⊢;rw[List.flatMap_cons,aL,cY,cR];omega
def gP (t0 t1:List Int):List Int->List (List Int)->List Bool
 |c::cs,g::gs=>eR (if c=0 then t0 else t1) g++gP t0 t1 cs gs
 |_,_=>[]
theorem KL (t0 t1:List Int) (c:Int) (g:List Int):∀(cs:List Int) (gs:List (List Int)),cs.length=gs.length->gP t0 t1 (cs++[c]) (gs++[g])=gP t0 t1 cs gs++eR (if c=0 then t0 else t1) g
 |[],[],_=>by simp[gP]
 |[],_::_,h=>by simp at h
 |_::_,[],h=>by simp at h
 |c'::cs,g'::gs,h=>by
  show eR _ g'++gP t0 t1 (cs++[c]) (gs++[g])=(eR _ g'++gP t0 t1 cs gs)++_;rw[KL t0 t1 c g cs gs (by simpa using h),cF]
def dO (cs:List Int):List Int:=cM (cC 2) (cs.map (fun c=>eK c.toNat))
def rV (m:List Int) (n:Nat):List Bool:=
 aY 2 3++aY (cT m n).length 15++dE (dO (cT m n))++dW (dN m n 0)++dW (dN m n 1)++gP (dN m n 0) (dN m n 1) (cT m n) (cK m)
def yV (sum origin:Nat) (a:List UInt8) (m:List Int):List Bool:=
 aY 0x314159265359 48++aY sum 32++aY origin 16++fZ a++rV m (a.length+2)
def bF (s:List UInt8) (at' codes:Int):Nat->List (List Int)×Int×Int
 |0=>([],at',0)
 |k+1=>
  let p:=bF s at' codes k
  if p.2.2≠0 then p
  else let q:=eJ s p.2.1 codes
   if q.2.2≠0 then(p.1,p.2.1,q.2.2)
   else if bL q.1≠0 then(p.1,p.2.1,bL q.1)
   else(p.1++[q.1],q.2.1,0)
def bH (s:List UInt8) (at':Int) (t:List (List Int)) (chosen:List Int) (fin:Int):Nat->List Int×Int×Int×Bool
 |0=>([],at',0,false)
 |k+1=>
  let p:=bH s at' t chosen fin k
  if p.2.2.1≠0\/p.2.2.2=true then p
  else let q:=bZ (t.getD (chosen.getD (k/10) 0).toNat []) s p.2.1
   if q.2.2≠0 then(p.1,p.2.1,q.2.2,false)
   else if q.1=fin then
    if k/10+1<chosen.length then(p.1++[q.1],q.2.1,3,false) else(p.1++[q.1],q.2.1,0,true)
   else(p.1++[q.1],q.2.1,0,false)
def gX (s:List UInt8) (at':Int) (t:List (List Int)) (chosen:List Int) (fin:Int):List Int×Int×Int:=
 let p:=bH s at' t chosen fin (10*chosen.length)
 if p.2.2.1≠0 then([],0,p.2.2.1) else if p.2.2.2 then(p.1,p.2.1,0) else([],0,3)
def cV (s:List UInt8) (at':Int) (codes:Int):List Int×Int×Int:=
 if aO s.length at' 3≠0 then([],0,aO s.length at' 3)
 else if aE s at' 3<2\/6<aE s at' 3 then([],0,3)
 else if aO s.length (at'+3) 15≠0 then([],0,aO s.length (at'+3) 15)
 else if aE s (at'+3) 15=0 then([],0,3)
 else
  let c:=dD s (at'+18) (aE s (at'+3) 15) (aE s at' 3)
  if c.2.2≠0 then([],0,c.2.2)
  else
   let t:=bF s c.2.1 codes (aE s at' 3)
   if t.2.2≠0 then([],0,t.2.2) else gX s t.2.1 t.1 c.1 (codes-1)
theorem DM (s:List UInt8) (at' codes:Int):∀k,(bF s at' codes k).2.2=0->(bF s at' codes k).1.length=k/\∀l∈(bF s at' codes k).1,bL l=0/\(l.length:Int)=codes
 |0,_=>⟨rfl,fun l hl=>by simp[bF] at hl⟩
 |k+1,h=>by
  unfold bF at h ⊢;simp only at h ⊢;split at h
  ·next q=>exact absurd h q
  ·next q=>
   obtain⟨h1,h2⟩:=DM s at' codes k (dK.1 q);rw[if_neg q];split at h
   ·next q2=>exact absurd h q2
   ·next q2=>
    rw[if_neg q2];split at h
    ·next q3=>exact absurd h q3
    ·next q3=>
     rw[if_neg q3];refine⟨by simp[h1],fun l hl=>?_⟩;rcases cU.1 hl with hl|hl
     ·exact h2 l hl
     ·obtain rfl:=dC.1 hl;refine⟨dK.1 q3,?_⟩;have q2:=dK.1 q2;unfold eJ at q2 ⊢;split at q2
      ·simp at q2
      ·next k1=>
       rw[if_neg k1];simp only at q2 ⊢;split at q2
       ·next k2=>exact absurd q2 k2
       ·next k2=>
        rw[if_neg k2];have:=yR s _ (by omega) codes.toNat (dK.1 k2);show((aZ s (bF s at' codes k).2.1 codes.toNat).1.length:Int)=codes;omega
theorem KH:∀(t:HT) (d:Nat),d+t.high<=20->((t.deep d).map (fun q=>2^(20-q.2))).sum=2^(20-d)
 |.leaf _,d,_=>by simp[HT.deep]
 |.node _ l r,d,h=>by
  unfold HT.high at h;unfold HT.deep;rw[List.map_append,List.sum_append,KH l (d+1) (by omega),KH r (d+1) (by omega),show 20-d=(20-(d+1))+1 by omega,nQ];omega
theorem aIe {l m:List Nat} (h:l.Perm m):l.sum=m.sum:=by
 induction h with
 |nil=>rfl
 |cons x _ ih=>simp only[pV];omega
 |swap x y l=>simp only[pV];omega
 |trans _ _ h1 h2=>omega
theorem aIf (ws:List Int) (h:2<=ws.length) (h1:∀x∈ws,1<=x) (hs:ws.sum<28657):jR (kL ws)=1048576:=by
 obtain⟨p,hp,hr⟩:=CT ws h;have hg:=jT.all ws (ws.length-1) (by omega);have hd:=qM.all ws (ws.length-1) (by omega);obtain⟨he,hsum⟩:=rO.all ws h1 (ws.length-1) (by omega);rw[hp] at hg hd he hsum;have hp1:p∈[p]:=dC.2 rfl;have hw:=HT.wt_high p.2 (he.even p hp1);have hwt:=he.wt p hp1;have hsum':p.1=ws.sum:=by simpa using hsum
 have hh:p.2.high<=20:=by
  rcases bT 20 p.2.high with k|k
  ·have:=RN (show 21<=p.2.high from k);have e:kM 21=28657:=by decide
   omega
  ·exact k
 have hnd:p.2.leaves.Nodup:=HT.leaves_nodup _ (by have:=hg.nodup;simpa using this);have hperm:p.2.leaves.Perm (dG ws.length):=by
  rw[List.perm_ext_iff_of_nodup hnd List.nodup_range];intro j;rw[jF];constructor
  ·intro hj;rw[<-HT.deep_map p.2 0] at hj;obtain⟨q,hq,rfl⟩:=dU.1 hj;exact(hd.2 p hp1 q hq).1
  ·intro hj;obtain⟨p',hp',hj'⟩:=hg.leaves j hj;obtain rfl:=dC.1 hp';exact hj'
 have hlen:(kL ws).length=ws.length:=rN _ _;have e1:(kL ws).map (fun x=>2^(20-x.toNat))=(dG ws.length).map (fun j=>2^(20-((kL ws).getD j 0).toNat)):=by
  apply jA;intro j
  by_cases hj:j<ws.length
  ·simp[hj,hlen]
  ·rw[dL (by simp;omega),dL (by simp;omega)]
 unfold jR;rw[e1,<-aIe (hperm.map _),<-HT.deep_map p.2 0,List.map_map];have e2:(p.2.deep 0).map ((fun j=>2^(20-((kL ws).getD j 0).toNat)) ∘ fun q=>q.1)=(p.2.deep 0).map (fun q=>2^(20-q.2)):=by
  apply List.map_congr_left;intro q hq;have:=(hd.2 p hp1 q hq).2;show 2^(20-((gO ws (ws.length-1)).getD q.1 0).toNat)=_;rw[this,eG]
 rw[e2,KH p.2 0 (by omega)]
theorem tB {m:List Int} {n which:Nat} (h2:2<=n) (h258:n<=258) (h:∀x∈m,0<=x/\x<(n:Int)) (hm:m.length<=20000):bL (dN m n which)=0:=by
 have hs:=wI m n which h m.length (aA _);have hl:=rP m n which m.length;have hmx:=DD (iK m n which) (fun x hx=>(hs.2.2 x hx).1);refine aDm (rQ h2 h258 h hm).1 (Nat.le_of_eq ?_);refine aIf _ (by rw[bJ];unfold iK;omega) (fun x hx=>?_) ?_
 ·obtain⟨y,_,rfl⟩:=dU.1 hx;omega
 ·unfold iK at hmx ⊢;omega
end
section
open Go.RowKit Go Go.Shelf
def qP (l:List Int) (d:Nat):Value×Value:=(.int .i64 (bG l d:Int),.int .u64 (fO l d:Int))
def lH (l:List Int) (n i d:Nat):Value×Value:=if bG l d<n\/(bG l d=n/\d<i) then qP l d else(.int .i64 0,.int .u64 0)
theorem aHt {l:List Int} (h:fY l):cD l.length (lH l 1 0)=cD l.length (fun _=>(.int .i64 0,.int .u64 0)):=
 rS fun d hd=>by
  have:=(jG h hd).1;unfold lH;rw[if_neg (by omega)]
theorem aHu (l:List Int) (n:Nat):cD l.length (lH l n l.length)=cD l.length (lH l (n+1) 0):=
 rS fun d hd=>by
  unfold lH
  by_cases h:bG l d<=n
  ·rw[if_pos (by omega),if_pos (by omega)]
  ·rw[if_neg (by omega),if_neg (by omega)]
theorem aHv {l:List Int} (h:fY l):cD l.length (lH l 21 0)=cD l.length (qP l):=
 rS fun d hd=>by
  have:=(jG h hd).2.1;unfold lH;rw[if_pos (by omega)]
theorem aHw {l:List Int} {n i:Nat} (h:bG l i≠n):cD l.length (lH l n i)=cD l.length (lH l n (i+1)):=
 rS fun d hd=>by
  unfold lH
  by_cases h1:d=i
  ·subst h1
   by_cases h2:bG l d<n
   ·rw[if_pos (by omega),if_pos (by omega)]
   ·rw[if_neg (by omega),if_neg (by omega)]
  ·by_cases h2:bG l d<n\/(bG l d=n/\d<i)
   ·rw[if_pos h2,if_pos (by omega)]
   ·rw[if_neg h2,if_neg (by omega)]
theorem aHx {l:List Int} {n i:Nat} (h:bG l i=n):((cD l.length (lH l n i)).set (i*2) (.int .i64 (n:Int))).set (i*2+1) (.int .u64 (fO l i:Int))=cD l.length (lH l n (i+1)):=
 KG _ _ _ _ _ _ fun d hd=>by
  unfold lH
  by_cases h1:d=i
  ·subst h1;rw[if_pos (by omega),if_pos rfl];unfold qP;rw[h]
  ·rw[if_neg h1]
   by_cases h2:bG l d<n\/(bG l d=n/\d<i)
   ·rw[if_pos h2,if_pos (by omega)]
   ·rw[if_neg h2,if_neg (by omega)]
def iW (l:List Int) (n i:Nat):Nat:=fC l n+bU (l.take i) n
theorem aHy (l:List Int) (n:Nat):iW l (n+1) 0=2*iW l n l.length:=by
 unfold iW;rw[FX,kE];rfl
theorem DJ {l:List Int} (h:fY l) (hk:jR l<=1048576) {n i:Nat} (hn:n<=20):iW l n i<=1048576:=by
 have h1:=PE h.2.2 hk hn;have h2:bU (l.take i) n<=bU l n:=by
  unfold bU;exact List.Sublist.countP_le (List.take_sublist ..)
 have h3:2^n<=2^20:=jC (by decide) hn;have h4:(2:Nat)^20=1048576:=by decide
 unfold iW;omega
theorem aHz {l:List Int} {n i:Nat} (hi:i<l.length) (h:l.getD i 0≠(n:Int)):iW l n (i+1)=iW l n i:=by
 unfold iW;rw[BN hi,if_neg (by simpa using h)];rfl
theorem aH0 {l:List Int} {n i:Nat} (h:bG l i=n):iW l n i=fO l i:=by
 unfold iW fO;rw[h]
theorem aH1 {l:List Int} {n i:Nat} (hi:i<l.length) (h:l.getD i 0=(n:Int)):iW l n (i+1)=iW l n i+1:=by
 unfold iW;rw[BN hi,if_pos (by simpa using h)];omega
def tA (N V L n:Nat):Prop:=(L=0/\V=0/\N=0)\/(1<=L/\L<=n/\(V+1)*2^(n-L)=N)
theorem aH2 {N V L n:Nat} (h:tA N V L n):tA (2*N) V L (n+1):=by
 rcases h with⟨h1,h2,h3⟩|⟨h1,h2,h3⟩
 ·exact .inl ⟨h1,h2,by omega⟩
 ·refine .inr ⟨h1,by omega,?_⟩;rw[show n+1-L=n-L+1 by omega,nQ,<-vH,h3,oG]
theorem SY {N n:Nat} (h:1<=n):tA (N+1) N n n:=.inr ⟨h,aA _,by simp⟩
theorem aH3 {N V L n:Nat} (h:tA N V L n):V<=N/\L<=n:=by
 rcases h with⟨h1,h2,h3⟩|⟨h1,h2,h3⟩
 ·omega
 ·have:1<=2^(n-L):=xL (by decide);have h4:=aCp (V+1) this;omega
theorem SX:(Tryz.prog.info? 143).map (fun i=>(i.zero,i.size,i.bytes))=some (some (.agg #[.int .i64 0,.int .u64 0]),2,16):=by kernel_rfl
def Wds (w:World) (B:Nat) (v:Value) (l:List Int):Prop:=∃b,B<=b/\v=.slice (some ⟨b,0,none⟩) l.length l.length/\Arr w b 143 (cD l.length (qP l))
theorem Wds.below {w w':World} {B C:Nat} {v:Value} {l:List Int} (h:Wds w B v l) (hb:Below C w w') (hC:w.heap.size<=C):Wds w' B v l:=by
 obtain⟨b,h1,h2,h3⟩:=h;exact⟨b,h1,h2,h3.below hb (by have:=h3.lt;omega)⟩
theorem SZ (v:Value) (l:List Int) (w:World) (hr:RdI w v l):
  Calls Tryz.prog 77 #[v] w fun e w'=>∃u,e=.returned (.tuple #[u,.int .i64 (bL l)])/\(bL l=0->Wds w' w.heap.size u l)/\(bL l≠0->u=.slice none 0 0)/\Below w.heap.size w w':=by
 obtain⟨a,ca,rfl,hca,hma,hA⟩:=hr.open;unfold maxLen at hma
 by_cases hE:bL l=0
 rotate_left
 ·have HE:=hid hE;obtain⟨E,hEE⟩:∃E,E=bL l:=⟨_,rfl⟩;rw[<-hEE] at hE;have t0:decide (E=0)=false:=decide_eq_false hE;have t0':(E != 0)=true:=by simpa using hE
  go_enter Tryz.func77,Tryz.ntmps77;go_wp2_with fail;refine(DH _ l _ hr).mono ?_;rintro e w1 ⟨rfl,rfl⟩;rw[<-hEE];have HEE:=hid hEE;clear hEE;go_wp2_with fail
  go_ret2
  exact⟨_,by rw[HEE.out];rfl,fun q=>absurd q HE.out,fun _=>rfl,aB _ _⟩
 ·have hok:=eH hE;have HO:=hid hok.1;have HLN:=hid (fun n i hn=>DJ (l:=l) (n:=n) (i:=i) hok.1 hok.2 hn);have hl2:=hok.1.2.1;have hl1:=hok.1.1;go_enter Tryz.func77,Tryz.ntmps77;go_wp2_with fail;refine(DH _ l _ hr).mono ?_;rintro e w1 ⟨rfl,rfl⟩;rw[hE];have HE:=hid hE;clear hE hok hr;go_wp2_with (at_make;refine mk2 Tryz.underlying139 SX rfl rfl _ _ rfl l.length rfl rfl ?_ ?_ ?_;(omega);(omega));have hA0:=Arr.new w1 143 (cD l.length (fun _=>(.int .i64 0,.int .u64 0)));rw[<-aHt HO.out] at hA0 ⊢
  have hB0:Below w1.heap.size w1 (w1.alloc (.cells (cD l.length (lH l 1 0)).toArray 143)):=bD (aB _ _) _;generalize w1.alloc (.cells (cD l.length (lH l 1 0)).toArray 143)=w0 at*
  have HLT:=hid (fun i (h:i<l.length)=>(jG HO.out h));go_wp2_with fail
  go_loopg [6,7,8,9,10] 20 (fun g s6 s7 s8 _s9 _s10 wr=>∃n V L N:Nat,1<=n/\n<=21/\g=21-n/\s8=.int .i64 (n:Int)/\s7=.int .i64 (L:Int)/\s6=.int .u64 (V:Int)/\tA N V L n/\Hid (N=iW l n 0)/\Arr wr w1.heap.size 143 (cD l.length (lH l n 0))/\Below w1.heap.size w1 wr)
  case atStart=>exact⟨1,0,0,0,by omega,by omega,rfl,rfl,rfl,rfl,.inl ⟨rfl,rfl,rfl⟩,hid (by unfold iW;rw[PA (fun x hx=>(HO.out.2.2 x hx).1)];rfl),hA0,hB0⟩
  case round=>
   obtain⟨n,V,L,N,hn1,hn2,hg,rfl,rfl,rfl,hLW,HN,hArr,hBel⟩:=hrel;have HG:=hid hg;clear hg
   by_cases hn:n<=20
   ·have t1:decide ((n:Int)<=20)=true:=decide_eq_true (by omega);go_wp2_with fail
    go_loopg [6,7,9,10] l.length (fun g s6 s7 s9 _s10 wx=>∃i V L N:Nat,i<=l.length/\g=l.length-i/\s9=.int .i64 (i:Int)/\s7=.int .i64 (L:Int)/\s6=.int .u64 (V:Int)/\tA N V L n/\Hid (N=iW l n i)/\Arr wx w1.heap.size 143 (cD l.length (lH l n i))/\Below w1.heap.size w1 wx)
    case atStart=>exact⟨0,V,L,N,by omega,rfl,rfl,rfl,rfl,hLW,HN,hArr,hBel⟩
    case round=>
     clear hArr hBel hLW HN;obtain⟨i,V,L,N,hi,hg,rfl,rfl,rfl,hLW,HN,hArr,hBel⟩:=hrel;have HG2:=hid hg;clear hg;have hNb:=HLN.out n i hn;rw[<-HN.out] at hNb;have hle:=aH3 hLW
     by_cases hlt:i<l.length
     ·have t2:decide ((i:Int)<(l.length:Int))=true:=decide_eq_true (by omega);obtain⟨b1,o1,rfl,hb1,hc1⟩:=hA (by omega);obtain⟨hx1,hx2,hx⟩:=HLT.out i hlt;have c1:=((lP hBel).1 b1 (o1+i) hb1).trans (hc1 i _ hx);have hgD:l.getD i 0=(bG l i:Int):=by rw[aV,hx];rfl
      have HLE:=hid (rfl:bG l i=bG l i);obtain⟨x,hxe⟩:∃x,x=bG l i:=⟨_,rfl⟩;rw[<-hxe] at c1 hgD hx1 hx2;have HX:=hid hxe;clear hxe hx HLE
      by_cases hxn:x=n
      ·subst hxn;have t3:decide ((x:Int)=(x:Int))=true:=decide_eq_true rfl;have t3':(!decide ((x:Int)=(x:Int)))=false:=by rw[t3];rfl
       have HW:=hid (aH0 (l:=l) HX.out.symm);have HP:=hid (aH1 hlt hgD);have HWP:=hid (aHx (l:=l) (n:=x) (i:=i) HX.out.symm);have d0:=hArr.cell (uR _ _ i hlt);have d1:=hArr.cell (uS _ _ i hlt);have f0:=hArr.free (i*2);have f1:=hArr.free (i*2+1);have hB2:∀u u',Below w1.heap.size w1 ((wr.setCell ⟨w1.heap.size,i*2,none⟩ u).setCell ⟨w1.heap.size,i*2+1,none⟩ u'):=fun u u'=>(hBel.setCell (p:=⟨w1.heap.size,i*2,none⟩) (aA _) u).setCell (p:=⟨w1.heap.size,i*2+1,none⟩) (aA _) u'
       rcases hLW with⟨hL,hV,hN0⟩|⟨hL1,hL2,hL3⟩
       ·have t4:decide ((L:Int)>0)=false:=decide_eq_false (by omega);have t5:decide (0<L)=false:=decide_eq_false (by omega);have t5':¬0<L:=by omega
        have hVW:fO l i=V:=by rw[<-HW.out,<-HN.out];omega
        have hwp:=HWP.out;rw[hVW] at hwp;have HWP2:=hid hwp;have HLW:=hid (show tA (N+1) V x x by rw[show V=N by omega];exact SY hn1);have HN2:=hid (show N+1=iW l x (i+1) by rw[HP.out,HN.out]);clear hwp HWP hVW hL hV hN0 HN HP HW HX hgD HLN;go_wp2_with fail;have hg2:=HG2.out
        go_roundg (l.length-(i+1))
        case measure=>omega
        case rel=>exact⟨i+1,V,x,N+1,by omega,rfl,by go_num,rfl,rfl,HLW.out,HN2,by rw[<-HWP2.out];exact(hArr.set _ _).set _ _,hB2 _ _⟩
       ·have t4:decide ((L:Int)>0)=true:=decide_eq_true (by omega);have t5:decide (0<L)=true:=decide_eq_true (by omega);have t5':0<L:=by omega
        obtain⟨U0,hU0⟩:∃U0,U0=V+1:=⟨_,rfl⟩;have m1:fU.wrap (U0:Int)=(U0:Int):=by rw[gF];omega
        have m1':(V:Int)+1=(U0:Int):=by omega
        have HU0:=hid (show U0*2^(x-L)=N by rw[hU0];exact hL3);have HNW:=hid (show fO l i=N by rw[<-HW.out,<-HN.out]);have HN2:=hid (show N+1=iW l x (i+1) by rw[HP.out,HN.out]);clear hL3 hU0 HN HP HW HX hgD HLN hle;go_wp2_with fail
        go_loopg [6,10] (x-L) (fun g s6 s10 wy=>∃k U:Nat,L<=k/\k<=x/\g=x-k/\s10=.int .i64 (k:Int)/\s6=.int .u64 (U:Int)/\Hid (U*2^(x-k)=N)/\wy=wr)
        case atStart=>exact⟨L,U0,aA _,hL2,rfl,rfl,rfl,HU0,rfl⟩
        case round=>
         obtain⟨k,U,hk1,hk2,hg,rfl,rfl,HU,rfl⟩:=hrel;have HG3:=hid hg;clear hg
         by_cases hkx:k<x
         ·have t6:decide ((k:Int)<(x:Int))=true:=decide_eq_true (by omega);obtain⟨U2,hU2⟩:∃U2,U2=2*U:=⟨_,rfl⟩;have HU2:=hid (show U2*2^(x-(k+1))=N by
           have e:=HU.out;rw[show x-k=x-(k+1)+1 by omega,nQ] at e;rw[hU2,<-e,oG 2 U,vH,oG 2])
          have hU2b:U2<=N:=by
           have e:=HU2.out;have:1<=2^(x-(k+1)):=xL (by decide);have:=aCp U2 this;omega
          have m2:fU.wrap (2*(U:Int))=(U2:Int):=by rw[gF];omega
          have m2':2*(U:Int)=(U2:Int):=by omega
          have m2'':2*(U:Int)%18446744073709551616=(U2:Int):=by omega
          clear hU2;go_wp2_with fail;have hg3:=HG3.out
          go_roundg (x-(k+1))
          case measure=>omega
          case rel=>exact⟨k+1,U2,by omega,by omega,rfl,by go_num,rfl,HU2,rfl⟩
         ·have t6:decide ((k:Int)<(x:Int))=false:=decide_eq_false (by omega);have hke:k=x:=by omega
          have hUN:U=N:=by
           have e:=HU.out;rw[show x-k=0 by omega] at e;omega
          have hwp:=HWP.out;rw[HNW.out,<-hUN] at hwp;have HWP2:=hid hwp;have HLW:=hid (show tA (N+1) U x x by rw[hUN];exact SY hn1);clear hwp HWP hUN HU HNW hke;go_wp2_with fail;have hg2:=HG2.out
          go_roundg (l.length-(i+1))
          case measure=>omega
          case rel=>exact⟨i+1,U,x,N+1,by omega,rfl,by go_num,rfl,rfl,HLW.out,HN2,by rw[<-HWP2.out];exact(hArr.set _ _).set _ _,hB2 _ _⟩
      ·have t3:decide ((x:Int)=(n:Int))=false:=decide_eq_false (by omega);have t3':(!decide ((x:Int)=(n:Int)))=true:=by rw[t3];rfl
       have hne:bG l i≠n:=by rw[<-HX.out];exact hxn
       have hP:=aHz (n:=n) hlt (by rw[hgD];omega);rw[aHw hne] at hArr;have HP:=hid hP;clear hP hgD hne;go_wp2_with fail;have hg2:=HG2.out
       go_roundg (l.length-(i+1))
       case measure=>omega
       case rel=>exact⟨i+1,V,L,N,by omega,rfl,by go_num,rfl,rfl,hLW,hid (by rw[HP.out];exact HN.out),hArr,hBel⟩
     ·have t2:decide ((i:Int)<(l.length:Int))=false:=decide_eq_false (by omega);have hie:i=l.length:=by omega
      subst hie;rw[aHu] at hArr;have hLW2:=aH2 hLW;have HN2:=hid (show 2*N=iW l (n+1) 0 by rw[aHy,<-HN.out]);obtain⟨N2,hN2⟩:∃N2,N2=2*N:=⟨_,rfl⟩;rw[<-hN2] at hLW2 HN2;clear hN2;go_wp2_with fail;have hg:=HG.out
      go_roundg (21-(n+1))
      case measure=>omega
      case rel=>exact⟨n+1,V,L,N2,by omega,by omega,rfl,by go_num,rfl,rfl,hLW2,HN2,hArr,hBel⟩
   ·have t1:decide ((n:Int)<=20)=false:=decide_eq_false (by omega);have hne:n=21:=by omega
    subst hne;rw[aHv HO.out] at hArr;go_wp2_with fail
    go_ret2
    exact⟨_,by rw[HE.out];rfl,fun _=>⟨w1.heap.size,aA _,rfl,hArr⟩,fun q=>absurd HE.out q,hBel⟩
theorem JW {ops:Array Oper} {o:Oper} {a:Act} {K:Act->World->Prop} {Q:Exit->Act->World->Prop} {E:Prop} {w:World} (hgd:o.guard=none) (s x:iM)
  (ho:o.op=.call {callee:=.builtin .append,args:=#[s,x],argTypes:=#[57,57]}) (base:Nat) (v:Value) (l:List Int) (hs:a.eval s=v) (hown:OwI w base v l)
  (sv:Value) (m:List Int) (hx:a.eval x=sv) (hsrc:pQ w sv m) (hroom:(l.length+m.length)*8<=140737488355328) (hbase:base<=w.heap.size)
  (h:∀v' w',OwI w' base v' (l++m)->Below base w w'->w.grownBy w' v.ownBlock->K (a.put o.dst v') w'):if nR o (yielded ops a.tmps)=true then lX Tryz.prog o a w K Q else E:=by
 have hw:nR o (yielded ops a.tmps)=true:=by simp[nR,hgd]
 rw[if_pos hw];obtain⟨v',w',hr,q1,q2,q3⟩:=RH o.type base v l hown sv m hsrc hroom hbase;unfold lX execOp;simp only[ho,resolve,invoke,builtin,Sem.run_bind,Sem.run_pure,Result.andThen_ok,List.map_toArray,pG,List.map_nil,hs,hx,hr];exact h v' w' q1 q2 q3
theorem kZ {w1 w2:World} {p1 p2 p3:Addr} {v1 v2 v3:Value} {B:Nat} {w0:World}
  (h:w1.cell? p1=some v1/\w1.cell? p2=some v2/\w1.cell? p3=some v3/\Below B w0 w1/\B<=w1.heap.size) (hb:Below w1.heap.size w1 w2):
  w2.cell? p1=some v1/\w2.cell? p2=some v2/\w2.cell? p3=some v3/\Below B w0 w2/\B<=w2.heap.size:=by
 obtain⟨h1,h2,h3,h6,h7⟩:=h;have k:∀{p:Addr} {v:Value},w1.cell? p=some v->w2.cell? p=some v:=fun{p} {v} hp=>(hb.cell (World.block_lt_of_cell? w1 p hp)).trans hp
 exact⟨k h1,k h2,k h3,h6.trans (hb.mono h7),aW h7 hb.size⟩
theorem CX {w1 w2:World} {b1 o1 b2 o2 b3 o3:Nat} {v1 v2 v3:Value} {B:Nat} {w0:World}
  (h:w1.cell? ⟨b1,o1,none⟩=some v1/\w1.cell? ⟨b2,o2,none⟩=some v2/\w1.cell? ⟨b3,o3,none⟩=some v3/\Below B w0 w1/\B<=w1.heap.size) (hb:Below B w1 w2) (k1:b1<B) (k2:b2<B) (k3:b3<B):
  w2.cell? ⟨b1,o1,none⟩=some v1/\w2.cell? ⟨b2,o2,none⟩=some v2/\w2.cell? ⟨b3,o3,none⟩=some v3/\Below B w0 w2/\B<=w2.heap.size:=by
 obtain⟨h1,h2,h3,h6,h7⟩:=h;exact⟨(hb.cell (p:=⟨b1,o1,none⟩) k1).trans h1,(hb.cell (p:=⟨b2,o2,none⟩) k2).trans h2,(hb.cell (p:=⟨b3,o3,none⟩) k3).trans h3,h6.trans hb,aW h7 hb.size⟩
theorem aIk {v n:Nat} (h:1<=n):0<(bI (aY v n)).length:=by rw[cN,cY];omega
theorem aIl {l syms:List Int} {k:Nat} {x:Int} (h:syms[k]? =some x):eR l (syms.take (k+1))=eR l (syms.take k)++aY (fO l x.toNat) (bG l x.toNat):=by
 rw[cQ,h];exact SI ..
theorem TO (v u:Value) (l syms:List Int) (w:World) (hr:RdI w v l) (hu:RdI w u syms) (hE:bL l=0) (hs:∀x∈syms,0<=x/\x<(l.length:Int)) (hn:syms.length<=10000):
  Calls Tryz.prog 60 #[v,u] w fun e w'=>e=.returned (.tuple #[eL (eR l syms),.int .i64 0])/\Below w.heap.size w w':=by
 have hok:=eH hE;have HLT:=hid (fun i (h:i<l.length)=>(jG hok.1 h));have HWB:=hid (fun i (h:i<l.length)=>(IG hok.1 hok.2 h));have hl2:=hok.1.2.1;have HS:=hid hs;have HCL:=hid (fun k=>rR hok.1 (syms.take k) (fun x hx=>hs x (List.mem_of_mem_take hx)));clear hs hok;have hA0:=Arr.new w 82 [.string ⟨#[]⟩,.int .i64 0];have hs0:(w.alloc (.cells #[.string ⟨#[]⟩,.int .i64 0] 82)).heap.size=w.heap.size+1:=by simp
 have hb0:Below w.heap.size w (w.alloc (.cells #[.string ⟨#[]⟩,.int .i64 0] 82)):=bD (aB _ _) _;change Arr (w.alloc (.cells #[.string ⟨#[]⟩,.int .i64 0] 82)) _ _ _ at hA0;go_enter Tryz.func60,Tryz.ntmps60;go_wp2_with fail;generalize w.alloc (.cells #[.string ⟨#[]⟩,.int .i64 0] 82)=w0 at*
 refine(SZ _ l _ (hr.below hb0)).mono ?_;rintro e w1 ⟨uw,rfl,hW,-,hb1⟩;obtain⟨bw,hbw,rfl,hArr⟩:=hW hE;rw[hE];have hu1:=(hu.below hb0).below hb1;have hA1:=hA0.below hb1 (by omega);have hB1:=hb0.trans (hb1.mono (by omega));have hs1:=hb1.size;obtain⟨a,ca,rfl,hca,hma,hA⟩:=hu1.open;unfold maxLen at hma;clear hu hu1 hr hA0 hb0 hb1 hW;go_wp2_with fail
 go_loopg [8,9] syms.length (fun g s8 s9 wr=>∃k:Nat,k<=syms.length/\g=syms.length-k/\s9=.int .i64 (k:Int)/\OwI wr w1.heap.size s8 (bI (eR l (syms.take k)))/\Below w1.heap.size w1 wr)
 case atStart=>exact⟨0,aU _,rfl,rfl,OwI.nil _ _,aB _ _⟩
 case round=>
  obtain⟨k,hk,hg,rfl,ho8,hbel⟩:=hrel;have HG:=hid hg;clear hg;have hsz:=hbel.size
  by_cases hlt:k<syms.length
  ·have t1:decide ((k:Int)<(syms.length:Int))=true:=decide_eq_true (by omega);obtain⟨b1,o1,rfl,hb1,hc1⟩:=hA (by omega);obtain⟨x,hx⟩:=dH hlt;have c1:=((lP hbel).1 b1 (o1+k) hb1).trans (hc1 k _ hx);have hxb:=HS.out x (cH hx);have HT:=hid (aIl (l:=l) hx);have hcl:=HCL.out k;rw[aX,gU hk] at hcl;obtain⟨y,rfl⟩:∃y:Nat,x=(y:Int):=⟨x.toNat,by omega⟩;rw[eG] at HT;have hyl:y<l.length:=by omega
   have hArr':=hArr.below hbel hArr.lt;have d0:=hArr'.cell (uR _ _ y hyl);have d1:=hArr'.cell (uS _ _ y hyl);obtain⟨hy1,hy2,_⟩:=HLT.out y hyl;have hwb:=HWB.out y hyl;unfold qP at d0 d1;obtain⟨n,hn⟩:∃n,n=bG l y:=⟨_,rfl⟩;obtain⟨W,hW⟩:∃W,W=fO l y:=⟨_,rfl⟩;rw[<-hn,<-hW] at d0 d1 HT hwb;rw[<-hn] at hy1 hy2;have hW64:W<18446744073709551616:=dR hwb (aW (jC (by decide) hy2) (by decide));have u1:decide ((y:Int)<0)=false:=decide_eq_false (by omega);have u2:decide ((y:Int)>=(l.length:Int))=false:=decide_eq_false (by omega)
   have u3:decide ((l.length:Int)<=(y:Int))=false:=decide_eq_false (by omega);have u4:decide (l.length<=y)=false:=decide_eq_false (by omega);clear hn hW hx hc1 hA hxb hwb;go_wp2_with fail;have hln:=aIk (v:=W) hy1;have hnl:(bI (aY W n)).length<=20:=by rw[cN,cY];exact hy2
   have hcl8:(bI (eR l (syms.take k))).length<=20*k:=by rw[cN];exact hcl
   have hS0:=kZ ⟨c1,d0,d1,hbel,hsz⟩ (aB wr.heap.size wr).drew;have hbw1:bw<w1.heap.size:=hArr.lt;have ho8d:OwI wr.drew w1.heap.size u8 (bI (eR l (syms.take k))):=ho8;have hsd:wr.drew.heap.size=wr.heap.size:=rfl;clear c1 d0 d1 hArr' ho8
   go_region_held3 (fun w'=>w'.cell? ⟨b1,o1+k,none⟩=some (.int .i64 (y:Int))/\w'.cell? ⟨bw,y*2,none⟩=some (.int .i64 (n:Int))/\w'.cell? ⟨bw,y*2+1,none⟩=some (.int .u64 (W:Int))/\Below w1.heap.size w1 w'/\w1.heap.size<=w'.heap.size)
    (first
     |with_reducible assumption
     |with_reducible exact kZ (by assumption) (by assumption)
     |with_reducible exact CX (by assumption) (by assumption) hb1 hbw1 hbw1)
    (first
     |(go_at_call 41;refine(uF W n _ hW64 (by omega)).mono ?_;rintro e w2 ⟨x2,rfl,ho2,hb2⟩)
     |(refine JW rfl _ _ rfl w1.heap.size u8 (bI (eR l (syms.take k))) rfl (OwI.below ho8d (by assumption) (aA _)) x2 (bI (aY W n)) rfl (OwI.src ho2) ?_ ?_ ?_;(omega);(have:=hb2.size;omega);intro v3 w3 p1 p2 p3))
   all_goals go_wp2_with fail
   all_goals
    have hg:=HG.out
    go_roundg (syms.length-(k+1))
    case measure=>omega
    case rel=>exact⟨k+1,by omega,rfl,by go_num,by rw[HT.out,gB];exact p1,hS0.2.2.2.1.trans ((hb2.mono (by omega)).trans p2)⟩
  ·have t1:decide ((k:Int)<(syms.length:Int))=false:=decide_eq_false (by omega);have hke:k=syms.length:=by omega
   subst hke;rw[kE] at ho8;have hcl:=HCL.out syms.length;rw[kE] at hcl;go_wp2_with fail;refine(uG _ (eR l syms) _ (OwI.rd ho8) (by omega)).mono ?_;rintro e w6 ⟨rfl,hb6⟩;have hA6:=(hA1.below hbel (by omega)).below hb6 (by omega);have hB6:Below w.heap.size w w6:=(hB1.trans (hbel.mono (by omega))).trans (hb6.mono (by omega));have d0:=hA6.cell (i:=0) rfl;have d1:=hA6.cell (i:=1) rfl;have f0:=hA6.free 0;have f1:=hA6.free 1;clear hA1 hb6 ho8 hbel hB1 hArr;generalize hmm:eR l syms=m at*
   have HM:=hid hmm;clear hmm;go_wp2_with fail;have z0:Arr ((w6.setCell ⟨w.heap.size,0,none⟩ (.string (mkS (aD m)))).setCell ⟨w.heap.size,1,none⟩ (.int .i64 (m.length:Int))) w.heap.size 82 [.string (mkS (aD m)),.int .i64 (m.length:Int)]:=(hA6.set 0 _).set 1 _;refine bodyPost_ret (qH rfl _ _ w.heap.size _ _ (0,0) _ rfl z0 Tryz.underlying82 rfl mF) rfl ?_;exact⟨by rw[HM.out];rfl,(hB6.setCell (p:=⟨w.heap.size,0,none⟩) (aA _) _).setCell (p:=⟨w.heap.size,1,none⟩) (aA _) _⟩
end
end Go.Proofs.YtmcogmmncfihhaaGreatDoor
