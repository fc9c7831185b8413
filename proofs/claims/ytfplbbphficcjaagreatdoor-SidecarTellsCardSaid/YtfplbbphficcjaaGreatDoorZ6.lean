/-
  Texts put together (part 6): the walks and the plain laws on which the statement stands.
-/
import Derived.Deep.Cut
import Derived.Laws.IdiomCopy
import Derived.Lib.BytesEntry
import Derived.Lib.ConvBytes
import Derived.Laws.ResultCell
import Derived.Deep.AppendLies
import Derived.Test.YtfplbbphficcjaaGreatDoorZ2
set_option maxRecDepth 100000
set_option maxHeartbeats 12800000
set_option linter.unusedVariables false
set_option linter.unusedSimpArgs false
open Go.Proofs.Tryz
open Go.Proofs.Tryz renaming prog->pG
open And renaming intro->tK
open Go renaming cell_kept->yQ,grownBy_putObj'->kV,heap_setCell_other->kF,run_takeDeferred->sE,wpList_plain->yK
open Go.Fence renaming wide->cZ
open Go.KeepsOthers renaming setCell->kJ
open Go.Lib renaming bytesWorld_size->aLj
open Go.Op renaming bytesLess->sF
open Go.Oper renaming wp->nC
open Go.Result renaming andThen->lW
open Go.RowKit.Below renaming refl->aH
open Go.World renaming cell?_of_block->rW,cell?_setCell_other->lI,cell?_setCell_same->rX,cell?_setCells_out->bGb,frozen?_setCell->IG,grownBy_alloc->II,size_alloc->fP
open List renaming append_assoc->bU,cons_append->fF,drop_eq_getElem_cons->pF,ext_getElem?->lH,getD->jD,getElem?_append_left->nE,getElem?_append_right->rY,getElem?_eq_getElem->aN,getElem?_eq_some_iff->eF,getElem?_take_of_lt->pW,getElem_take->WP,length_append->aL,length_cons->aU,length_drop->bA,length_take->aQ,map_congr_left->vH,pairwise_iff_getElem->DH,take_add_one->cG,take_append_drop->kH
open Nat renaming eq_zero_or_pos->jE,le_refl->aD,le_succ->tJ,le_trans->aR,lt_of_lt_of_le->fB,lt_or_ge->cF,min_eq_left->jF,zero_le->aO
open Option renaming toList_some->rD
open UInt8 renaming toNat_inj->tH
namespace Go.Proofs.YtfplbbphficcjaaGreatDoor
section
open Go.RowKit
def ByA (w:World) (g:Nat) (l:List UInt8):Prop:=g<w.heap.size/\(∀j b,l[j]? =some b->w.cell? ⟨g,j,none⟩=some (.int .u8 (b.toNat:Int)))/\∀j,j<l.length->w.frozen? ⟨g,j,none⟩=false
theorem ByA.kept {w w':World} {g:Nat} {l:List UInt8} {row:Option Nat} (h:ByA w g l) (d:w.grownBy w' row) (A:some g≠row):ByA w' g l:=
 ⟨fB h.1 d.size,fun j b e=>by rw[rW (d.block g h.1 A)];exact h.2.1 j b e,fun j e=>by rw[World.frozen?_of_block (d.block g h.1 A)];exact h.2.2 j e⟩
theorem ByA.below {w w':World} {B g:Nat} {l:List UInt8} (h:ByA w g l) (d:Below B w w') (A:g<B):ByA w' g l:=
 ⟨fB h.1 d.size,fun j b e=>by rw[d.cell (p:=⟨g,j,none⟩) A];exact h.2.1 j b e,fun j e=>by rw[d.frozen (p:=⟨g,j,none⟩) A];exact h.2.2 j e⟩
theorem ByA.set {w:World} {g:Nat} {l:List UInt8} (h:ByA w g l) (i:Nat) (b:UInt8):ByA (w.setCell ⟨g,i,none⟩ (.int .u8 (b.toNat:Int))) g (l.set i b):=by
 refine⟨by simpa using h.1,fun j c d=>?_,fun j d=>by rw[IG];exact h.2.2 j (by simpa using d)⟩;obtain⟨A,D⟩:=eF.1 d;rw[List.length_set] at A
 by_cases e:i=j
 ·subst e;rw[List.getElem_set_self] at D;subst D;exact rX _ _ _ (h.2.1 i _ (aN A))
 ·rw[lI _ _ _ _ (fun F=>e (by grind))]
  grind [ByA]
theorem ZY:(pG.info? 5).map (·.size)=some 1:=by kernel_rfl
theorem ZZ {L:Array Oper} {rest:List Oper} {o:Oper} {a:Act} {Q:Exit->Act->World->Prop} {w:World} (a0:o.guard=none) (d s:Operand)
  (M:o.op=.call {callee:=.builtin .copy,args:=#[d,s],argTypes:=#[61,61]}) (g:Nat) (l:List UInt8) (i:Nat) (hA:ByA w g l) (hi:i<l.length)
  (dp:Option Addr) (dLen dCap sCap:Nat) (hd:a.eval d=.slice dp dLen dCap) (hs:a.eval s=.slice (some ⟨g,0,none⟩) i sCap) (hdl:dLen=l.length-1) (hdp:1<l.length->dp=some ⟨g,1,none⟩)
  (h:∀w',ByA w' g (l.take 1++l.take i++l.drop (i+1))->w.grownBy w' (some g)->wpList pG L Q rest (a.put o.dst (goInt i)) w'):
  wpList pG L Q (o::rest) a w:=by
 refine yK a0 fun K hK=>?_
 replace h:=fun w' q1 q2=>hK _ _ (h w' q1 q2)
 rcases jE i with O|O
 ·subst O;have H:=run_copy_none (P:=pG) w 61 61 o.type 5 dp (some ⟨g,0,none⟩) dLen dCap 0 sCap underlying61 ZY (Nat.zero_min _);unfold nC;simp[execOp,M,resolve,invoke,builtin,hd,hs,H,lW];refine h w ?_ ⟨rfl,rfl,rfl,aD _,fun _ _ _=>rfl⟩;rw[List.take_zero,List.append_nil,kH];exact hA
 ·have a1:=hdp (by omega);subst a1;have D:(l.take i).length=i:=by rw[aQ];omega
  have H:=run_copy_cells (P:=pG) w 61 61 o.type 5 g 1 dLen dCap ⟨g,0,none⟩ i sCap (fG (l.take i)) underlying61 ZY (by rw[vO,D];exact(jF (by omega)).symm)
   (fun j v A=>by
    unfold fG at A;rw[List.getElem?_map] at A
    cases F:(l.take i)[j]? with
    |none=>rw[F] at A;simp at A
    |some b=>
     rw[F] at A;simp at A;subst A;have e:(⟨g,0,none⟩:Addr).add j=⟨g,j,none⟩:=by unfold Addr.add;split<;>simp_all
     rw[e];have a2:j<i:=by have:=(eF.1 F).1;omega
     rw[pW a2] at F;exact hA.2.1 j b F)
   (fun j A=>by
    rw[vO,D] at A;rw[hA.2.1 (1+j) _ (aN (by omega))];rfl)
   (fun j A=>by rw[vO,D] at A;exact hA.2.2 (1+j) (by omega))
   (fun v hv=>by obtain⟨b,_,rfl⟩:=List.mem_map.1 hv;rfl)
  rw[vO,D] at H;unfold nC;simp[execOp,M,resolve,invoke,builtin,hd,hs,H,lW];have T:∀(I:List Value) (o:Nat) (w:World),w.grownBy (w.setCells g o I) (some g):=by
   intro I
   induction I with
   |nil=>intro o w;exact⟨rfl,rfl,rfl,aD _,fun _ _ _=>rfl⟩
   |cons v I ih=>
    intro o w;have G:=ih (o+1) (w.setCell ⟨g,o,none⟩ v);refine⟨G.os,G.tape,G.output,aR (by simp) G.size,fun k J U=>?_⟩;rw[World.setCells,G.block k (by simpa using J) U];exact kF _ _ _ _ (fun e=>U (by rw[e]))
  have a3:(l.take 1++l.take i++l.drop (i+1)).length=l.length:=by simp only[aL,aQ,bA];omega
  refine h _ ⟨fB hA.1 (T _ _ _).size,fun j b A=>?_,fun j A=>?_⟩ (T _ _ _)
  ·rcases jE j with V|V
   ·subst V;rw[bGb g _ _ _ _ (fun _ _=>.inl (by simp))];refine hA.2.1 0 b ?_;rw[<-A,bU,nE (by rw[aQ];omega),pW (by omega)]
   ·rcases cF j (i+1) with q|q
    ·have Y:j-1<(fG (l.take i)).length:=by rw[vO,D];omega
     have Z:=World.cell?_setCells_in g (fG (l.take i)) 1 w (fun k J=>by
      rw[vO,D] at J;rw[hA.2.1 (1+k) _ (aN (by omega))];rfl) (j-1) Y
     rw[show 1+(j-1)=j by omega] at Z;rw[Z];have e:(l.take i)[j-1]? =some b:=by
      rw[<-A,bU,rY (by rw[aQ];omega),aQ,show min 1 l.length=1 by omega,nE (by rw[D];omega)]
     have:=IZ e;rw[aN Y] at this;exact this
    ·rw[bGb g _ _ _ _ (fun _ _=>.inr (by rw[vO,D];simp;omega))];refine hA.2.1 j b ?_;have e3:i+1+(j-(l.take 1++l.take i).length)=j:=by simp only[aL,aQ];omega
     rw[<-A,rY (by simp only[aL,aQ];omega),List.getElem?_drop,e3]
  ·rw[World.frozen?_setCells];rw[a3] at A;exact hA.2.2 j A
theorem aOa {l:List UInt8} {i:Nat} (d:i<l.length):gC l i=l[i]::(l.take i++l.drop (i+1)):=by grind [pF,gC]
theorem aAa {l:List UInt8} {i:Nat} (d:i<l.length):(l.take 1++l.take i++l.drop (i+1)).set 0 l[i]=gC l i:=by
 rw[aOa d]
 cases l with
 |nil=>simp at d
 |cons b l=>simp
theorem qS {w w':World} {g:Nat} (h:w.grownBy w' (some g)) (k:Nat) (v:Value):w.grownBy (w'.setCell ⟨g,k,none⟩ v) (some g):=
 ⟨h.os,h.tape,h.output,by simpa using h.size,fun i A d=>(kF _ _ _ _ (fun e=>d (by rw[e]))).trans (h.block i A d)⟩
theorem aAb {w0 w:World} {g n cap d:Nat} {l:List UInt8} (h:w.cell? ⟨d,0,none⟩=some (.slice (some ⟨g,0,none⟩) n cap)/\ByA w g l/\w0.grownBy w (some g)):w.drew.cell? ⟨d,0,none⟩=some (.slice (some ⟨g,0,none⟩) n cap)/\ByA w.drew g l/\w0.grownBy w.drew (some g):=
 ⟨h.1,h.2.1,qP h.2.2⟩
theorem aAc (g cap i:Nat) (l:List UInt8) (w:World) (T:ByA w g l) (D:i<l.length) (hl:l.length<=1000) (a8:l.length<=cap) (a2:cap<=maxLen):
  Calls pG 197 #[.agg #[.slice (some ⟨g,0,none⟩) l.length cap],.int .i64 (i:Int)] w fun e w'=>e=.returned (.int .u8 (l[i].toNat:Int))/\ByA w' g (gC l i)/\w.grownBy w' (some g):=by
 unfold maxLen at a2;obtain⟨b,I⟩:∃b,b=l[i]:=⟨_,rfl⟩;have J:=hid I;have c1:=T.2.1 i b (by rw[I];exact aN D);rw[<-I];have a9:=T.1;have L:ByA (w.alloc (.cells #[.slice (some ⟨g,0,none⟩) l.length cap] 289)) g l:=T.kept (row:=none) (II _ _ _) (by simp);have M:w.grownBy (w.alloc (.cells #[.slice (some ⟨g,0,none⟩) l.length cap] 289)) (some g):=II _ _ _;have O:=bX w (.slice (some ⟨g,0,none⟩) l.length cap) 289;have h:w.heap.size<(w.alloc (.cells #[.slice (some ⟨g,0,none⟩) l.length cap] 289)).heap.size:=by simp
 have b0:1<=l.length:=by omega
 have b5:1<=cap:=by omega
 have b6:=b.toNat_lt;clear I;go_enter func197,ntmps197;have b1:i<=cap:=by omega
 have b2:(i:Int)<=(cap:Int):=by omega
 have b3:(1:Int)<=(l.length:Int):=by omega
 have b4:(1:Int)<=(cap:Int):=by omega
 go_upto_region 2 with fail;generalize w.alloc (.cells #[.slice (some ⟨g,0,none⟩) l.length cap] 289)=A at*
 by_cases a3:cap=1
 ·subst a3;have b7:l.length=1:=by omega
  have a4:i=0:=by omega
  subst a4
  go_still_tail 7,(by kernel_rfl)
  change wpList _ _ _ _ _ A.drew;obtain⟨U,V,Y⟩:=aAb ⟨O,L,M⟩
  replace h:w.heap.size<A.drew.heap.size:=h
  clear O L M;generalize A.drew=w2 at*
  refine ZZ rfl _ _ rfl g l 0 V D _ _ _ _ rfl rfl (by omega) (fun h1=>?_) ?_
  ·exfalso;omega
  intro w3 d F;have Z:some w.heap.size≠some g:=by simp;omega
  have a0:=U;rw[<-rW (F.block _ h Z)] at a0;have a5:(l.take 1++l.take 0++l.drop (0+1)).length=l.length:=by simp only[aL,aQ,bA];omega
  have G:0<(l.take 1++l.take 0++l.drop (0+1)).length:=by omega
  have a6:=d.2.1 0 _ (aN G);have a7:=d.2.2 0 G;have H:=d.set 0 b;have a1:=qS (eU Y F) 0 (.int .u8 (b.toNat:Int));rw[J.out,aAa D,<-J.out] at H;go_wp2_with fail;go_ret;exact⟨rfl,H,a1⟩
 ·go_still_tail 7,(by kernel_rfl)
  change wpList _ _ _ _ _ A.drew;obtain⟨U,V,Y⟩:=aAb ⟨O,L,M⟩
  replace h:w.heap.size<A.drew.heap.size:=h
  clear O L M;generalize A.drew=w2 at*
  refine ZZ rfl _ _ rfl g l i V D _ _ _ _ rfl rfl rfl (fun h1=>rfl) ?_;intro w3 d F;have Z:some w.heap.size≠some g:=by simp;omega
  have a0:=U;rw[<-rW (F.block _ h Z)] at a0;have a5:(l.take 1++l.take i++l.drop (i+1)).length=l.length:=by simp only[aL,aQ,bA];omega
  have G:0<(l.take 1++l.take i++l.drop (i+1)).length:=by omega
  have a6:=d.2.1 0 _ (aN G);have a7:=d.2.2 0 G;have H:=d.set 0 b;have a1:=qS (eU Y F) 0 (.int .u8 (b.toNat:Int));rw[J.out,aAa D,<-J.out] at H;go_wp2_with fail;go_ret;exact⟨rfl,H,a1⟩
def uI (f:Nat->Bool):List Value:=(List.range 256).map (fun d=>Value.bool (f d))
theorem PY (f:Nat->Bool) (i:Nat) (h:i<256):(uI f)[i]? =some (.bool (f i)):=by simp[uI,h]
theorem aOb (f e:Nat->Bool) (i:Nat) (v:Bool) (h:∀d,d<256->e d=if d=i then v else f d):(uI f).set i (.bool v)=uI e:=by
 apply lH
 grind [uI,PY]
theorem aAd (a:ByteArray) (w:World) (hs:a.size<=1000000000) (I:a.data.toList.Nodup):
  Calls pG 196 #[.string a] w fun e w'=>e=.returned (.bool true)/\Below w.heap.size w w':=by
 have J:=hid I;clear I;have L:a.data.toList.length=a.size:=by simp
 have A:=hid L;clear L;go_enter func196,ntmps196;go_wp2_with fail
 go_loopg [2,4,7] a.size (fun V _s2 _s4 Y wr=>∃k:Nat,k<=a.size/\V=a.size-k/\Y=.int .i64 k/\Arr wr w.heap.size 280 (uI (fun d=>(a.data.toList.take k).any (fun b=>b.toNat==d)))/\Below w.heap.size w wr)
 case atStart=>
  refine⟨0,aO _,rfl,rfl,?_,(aH _ _).alloc (aD _) _⟩;have z:Tryz.zeroCells280=(uI (fun _=>false)).toArray:=by kernel_rfl
  rw[z]
  simpa using Arr.new w 280 (uI (fun _=>false))
 case round=>
 obtain⟨k,hk,D,rfl,F,M⟩:=hrel;have Z:=hid D;clear D
 by_cases G:k<a.size
 ·have H:=a[k].toNat_lt;have a0:a[k].toNat<256:=H;have a2:(a[k].toNat:Int)<256:=by omega
  have a1:(a.data.toList.take k).any (fun b=>b.toNat==a[k].toNat)=false:=by
   rw[<-Bool.not_eq_true,List.any_eq_true];rintro⟨b,H,e⟩
   replace e:=beq_iff_eq.1 e
   have e2:b=a[k]:=tH.1 e;subst e2;obtain⟨j,hj,O⟩:=List.getElem_of_mem H;rw[aQ] at hj;rw[WP] at O;have p1:=PE J.out (i:=j) (by rw[A.out];omega);have p2:=PE J.out (i:=k) (by rw[A.out];exact G);rw[O] at p1;have p3:a.data.toList[k]'(by rw[A.out];exact G)=a[k]:=by simp;rfl
   rw[p3] at p2;omega
  have a3:=F.cell (i:=a[k].toNat) (by rw[PY _ _ a0,a1]);have a4:=F.free a[k].toNat;have T:=aOb (fun d=>(a.data.toList.take k).any (fun b=>b.toNat==d)) (fun d=>(a.data.toList.take (k+1)).any (fun b=>b.toNat==d)) a[k].toNat true (fun d _=>by
   rw[cG,fW a k G,rD];rw[List.any_append]
   by_cases h:d=a[k].toNat
   ·rw[aB h,h];simp
   ·rw[aA h];have:(a[k].toNat==d)=false:=by(rw[cB];exact fun e=>h e.symm)
    simp[this])
  have U:=F.set a[k].toNat (.bool true);rw[T] at U;clear T;go_wp2_with fail;have D:=Z.out
  go_roundg (a.size-(k+1))
  case measure=>omega
  case rel=>exact⟨k+1,by omega,rfl,by go_num,U,M.setCell (aD _) _⟩
 ·go_wp2_with fail;go_ret;exact⟨rfl,M⟩
structure Tel (w:World) (B C tb g cap:Nat) (l:List UInt8) (pv:Value) (ps:List Int):Prop where
 c0:w.cell? ⟨tb,0,none⟩=some (.slice (some ⟨g,0,none⟩) l.length cap)
 c1:w.cell? ⟨tb,1,none⟩=some pv
 fr:w.frozen? ⟨tb,1,none⟩=false
 by':ByA w g l
 own:OwI w C pv ps
 sep:B<=g/\B<=tb/\tb≠g/\g<C/\tb<C/\C<=w.heap.size
theorem EA (w:World) (row:Option Nat):w.grownBy w row:=⟨rfl,rfl,rfl,aD _,fun _ _ _=>rfl⟩
theorem OwI.kept {w w':World} {B:Nat} {v:Value} {l:List Int} {row:Option Nat} (h:OwI w B v l) (d:w.grownBy w' row) (A:∀b,row=some b->b<B):OwI w' B v l:=by
 refine Ow.kept h d ?_
 cases e:v.ownBlock with
 |none=>exact .inl rfl
 |some k=>
  right
  intro D;have:=A k D.symm;have:=(Ow.lt h k e).1;omega
theorem aOg (w:World) (e:TypeId) (s:ByteArray):Below w.heap.size w (Lib.bytesWorld w e s):=
 ⟨rfl,rfl,rfl,by rw[aLj];omega,fun k d=>Lib.bytesWorld_at_old w e s k d⟩
theorem PZ (w:World) (a:ByteArray) (h:a.size<=1000000):∃cap w',(convert 9 61 (.string a)).run pG w=.ok (.slice (some ⟨w.heap.size,0,none⟩) a.size cap) w'/\a.size<=cap/\cap<=maxLen/\ByA w' w.heap.size a.data.toList/\Below w.heap.size w w'/\w'.heap.size=w.heap.size+1:=by
 refine⟨grownCap w a.size 0 5,Lib.bytesWorld w 5 a,Lib.run_convert_string_bytes w _ _ _ a underlying9 underlying61 underlying5,grownCap_ge _ _ _ _,grownCap_le_maxLen _ _ _ _ (by unfold maxLen;omega),⟨?_,?_,?_⟩,aOg _ _ _,aLj _ _ _⟩
 ·rw[aLj];omega
 ·intro j b d;have e:j<a.size:=by simpa using(eF.1 d).1
  rw[Lib.bytesWorld_cell w _ a j e,List.getD_eq_getElem?_getD,d];rfl
 ·intro j d;have e:j<a.size:=by simpa using d
  have A:j<(Lib.bytesCells w 5 a).size:=by
   unfold Lib.bytesCells;rw[Array.size_append,Array.size_map];have:a.data.size=a.size:=rfl;omega
  simp only[World.frozen?,Lib.bytesWorld_at_new];simp;omega
theorem EB {P:Program} {D:Func} {p u:Tmp} {e:TypeId} (h:D.results=#[.cell p e,.tmp u]) (tmps:Array Value) (w:World) (g:Nat) (t:TypeId) (A:Array Value) (F:Nat×Nat) (d:TypeDesc)
  (G:tmps.getD p undef=.pointer (some ⟨g,0,none⟩)) (H:w.heap[g]? =some (.cells A t F))
  (I:P.underlying e=some d) (J:(match d with|.struct _|.array _ _=>true|_=>false)=true) (L:(P.info? e).map (·.size)=some A.size):
  (results D tmps).run P w=.ok (.tuple #[.agg A,tmps.getD u undef]) w:=by
 rw[results_cell_tmp h,G];simp[asAddr,lW,run_loadVar_row w g t e A F d H I J L]
theorem aOk {P:Program} {d:Array Oper} {rest:List Oper} {o:Oper} {a:Act} {Q:Exit->Act->World->Prop} {w:World} {t e A:Nat} {z:Value} (E:ElT P t e A z) (F:o.guard=none) (l c:Operand)
  (G:o.op=.makeSlice t l c) (n:Nat) (H:a.eval l=.int .i64 0) (I:a.eval c=.int .i64 (n:Int)) (J:n*A<=140737488355328)
  (h:∀w',Ow w' w.heap.size e (.slice (some ⟨w.heap.size,0,none⟩) 0 n) []->Below w.heap.size w w'->w'.heap.size=w.heap.size+1->wpList P d Q rest (a.put o.dst (.slice (some ⟨w.heap.size,0,none⟩) 0 n)) w'):wpList P d Q (o::rest) a w:=by
 refine yK F fun K L=>?_
 obtain⟨i,M,O,T,Y⟩:=E.info;have U:=E.pos;have Z:n<=140737488355328:=aR (Nat.le_mul_of_pos_right _ U) J;have V:(i.bytes:Int)*(n:Int)<=281474976710656:=by grind
 have D:=run_make (P:=P) w t e i z E.under M O .i64 .i64 0 (n:Int) (by omega) (by omega) V (by omega);rw[T,Nat.mul_one,Int.toNat_natCast,E.cells,show madeCells #[z] n=gW z n from by rw[gW,<-toList_madeCells_one]] at D;unfold nC;simp[execOp,G,H,I,D,lW];exact L _ _ (h _ (World.ownsRow_made w _ n (aD _) (by unfold maxLen;omega) (by simp[gW])) ((aH _ _).alloc (aD _) _) (by simp))
theorem OwB.kept {w w':World} {B:Nat} {v:Value} {l:List UInt8} {row:Option Nat} (h:OwB w B v l) (d:w.grownBy w' row) (A:∀b,row=some b->b<B):OwB w' B v l:=by
 refine Ow.kept h d ?_
 cases e:v.ownBlock with
 |none=>exact .inl rfl
 |some k=>
  right
  intro D;have:=A k D.symm;have:=(Ow.lt h k e).1;omega
theorem aOl (a:ByteArray) (v:Value) (l:List Int) (w:World) (ha:a.size<=1000) (hl:l.length<=1000000) (V:a.data.toList.Nodup) (Y:RdI w v l) (h:∀x∈l,0<=x/\x<(a.size:Int)):
  Calls pG 181 #[.string a,v] w fun e w'=>e=.returned (.tuple #[.string (mkS (unL a.data.toList l)),.int .i64 0])/\Below w.heap.size w w':=by
 obtain⟨ad,ca,rfl,d8,b4,Z⟩:=Y.open;unfold maxLen at b4;have HN:=hid V;have HX:=hid h;have a0:a.data.toList.length=a.size:=by simp
 have b5:=hid a0;clear V h Y a0;go_enter func181,ntmps181;go_wp2_with fail;refine(aAd a _ (by omega) HN.out).mono ?_;rintro e d ⟨rfl,a1⟩;have b6:=a1.size;go_wp2_with fail;obtain⟨cap,D,b7,b8,b9,c0,c2,a2⟩:=PZ d a (by omega);rw[b7];have c3:=c0.kept (row:=none) (II D (.cells #[.slice (some ⟨d.heap.size,0,none⟩) a.size cap] 289) none) (by simp);have a3:=bX D (.slice (some ⟨d.heap.size,0,none⟩) a.size cap) 289;have c4:Below w.heap.size w (D.alloc (.cells #[.slice (some ⟨d.heap.size,0,none⟩) a.size cap] 289)):=(a1.trans (c2.mono b6)).alloc (by omega) _
 have c5:(D.alloc (.cells #[.slice (some ⟨d.heap.size,0,none⟩) a.size cap] 289)).heap.size=d.heap.size+1+1:=by simp[a2]
 rw[a2] at a3;go_wp2_with (at_make;generalize D.alloc (.cells #[.slice (some ⟨d.heap.size,0,none⟩) a.size cap] 289)=w3 at*;refine aOk yU rfl _ _ rfl l.length rfl rfl (by omega) ?_;intro L a4 M d9);have c6:OwB L (d.heap.size+1+1) (.slice (some ⟨d.heap.size+1+1,0,none⟩) 0 l.length) []:=by rw[c5] at a4;exact a4
 have c7:=c3.below M (by omega);have c8:L.cell? ⟨d.heap.size+1,0,none⟩=some (.slice (some ⟨d.heap.size,0,none⟩) a.size cap):=by
  rw[M.cell (p:=⟨d.heap.size+1,0,none⟩) (by show d.heap.size+1<w3.heap.size;omega)];exact a3
 have c9:Below w.heap.size w L:=c4.trans (M.mono (by omega))
 go_loopg [7,9,21] l.length (fun gh s7 _s9 d0 wr=>∃k:Nat,k<=l.length/\gh=l.length-k/\d0=.int .i64 k/\OwB wr (d.heap.size+1+1) s7 (unL a.data.toList (l.take k))/\ByA wr d.heap.size (unA a.data.toList (l.take k))/\wr.cell? ⟨d.heap.size+1,0,none⟩=some (.slice (some ⟨d.heap.size,0,none⟩) a.size cap)/\Below w.heap.size w wr/\d.heap.size+1+1<=wr.heap.size)
 case atStart=>exact⟨0,aO _,rfl,rfl,by simpa [unL] using c6,by simpa [unA] using c7,c8,c9,by omega⟩
 case round=>
 obtain⟨k,hk,O,rfl,T,a5,d1,G,e0⟩:=hrel;have HG:=hid O;clear O
 by_cases d2:k<l.length
 ·obtain⟨b0,o0,rfl,a6,a7⟩:=Z (by omega);obtain⟨x,h⟩:=eG d2;have c1:=(G.cell (p:=⟨b0,o0+k,none⟩) a6).trans (a7 k x h);have d3:=HX.out x (List.mem_of_getElem? h);obtain⟨i,rfl⟩:∃i:Nat,x=(i:Int):=⟨x.toNat,by omega⟩;obtain⟨A,F⟩:∃A,A=unA a.data.toList (l.take k):=⟨_,rfl⟩;have a8:A.length=a.size:=by rw[F,(YM _ _).length_eq];exact b5.out
  have d4:=hid (show(unL a.data.toList (l.take k)).length=k by rw[sL,aQ];omega);have hi:i<A.length:=by omega
  have e1:=hid (show unL a.data.toList (l.take (k+1))=unL a.data.toList (l.take k)++[A[i]] by
   rw[cG,h,rD,PH,<-F];simp[jD,aN hi])
  have e2:=hid (show unA a.data.toList (l.take (k+1))=gC A i by
   rw[cG,h,rD,PI,<-F];rfl)
  rw[<-F] at a5;have t1:decide ((i:Int)<0)=false:=aE (by omega);have t2:decide (a.size<=i)=false:=aE (by omega);have t3:decide ((a.size:Int)<=(i:Int))=false:=aE (by omega);have e3:=fB a6 G.size;have U:=hid a8;clear a7 Z h d3 F a8;go_wp2_with fail;have a9:=aAc d.heap.size cap i A wr a5 hi (by rw[U.out];exact ha) (by rw[U.out];exact b8) b9;rw[U.out] at a9;refine a9.mono ?_;rintro e H ⟨rfl,b1,I⟩;rw[<-e2.out] at b1;have e4:=(A[i]).toNat_lt;have d5:=T.kept I (fun b e=>by simp at e;omega);have b2:=d1
  rw[<-rW (I.block (d.heap.size+1) (by omega) (by simp))] at b2;have d6:Below w.heap.size w H:=G.grown I (by omega) (fun k e=>by simp at e;omega);have e5:=I.size;go_wp2_with (at_builtin;refine DX rfl _ _ rfl (d.heap.size+1+1) _ _ rfl (d5.alloc _) H.heap.size A[i] rfl ?_ ?_ ?_ ?_;(exact bX _ _ _);(rw[d4.out];omega);(simp;omega);intro v' w7 b3 J _);rw[<-e1.out] at b3;have O:=HG.out;have d7:=J.size;simp only[fP] at d7
  go_roundg (l.length-(k+1))
  case measure=>omega
  case rel=>
   refine⟨k+1,by omega,rfl,by go_num,b3,?_,?_,(d6.alloc (by omega) _).trans (J.mono (by omega)),by omega⟩
   ·exact(b1.kept (row:=none) (II H _ none) (by simp)).below J (by omega)
   ·rw[J.cell (p:=⟨d.heap.size+1,0,none⟩) (by show d.heap.size+1<d.heap.size+1+1;omega),rW (Below.heap_alloc H _ (d.heap.size+1) (by omega))];exact b2
 ·have e6:k=l.length:=by omega
  rw[List.take_of_length_le (by omega)] at T;have e7:=mP T.rd;go_wp2_with fail
  go_ret2
  exact⟨rfl,G⟩
theorem aOn:∀(r:List Int) (k:Nat) (l:List Int),(∀x∈r,x=0)->dM k (r++l)=dM (k+r.length) l:=by
 intro r
 induction r with
 |nil=>intro k l _;rfl
 |cons x r d=>
  intro k l h;rw[fF,dM,aB (h x (by simp)),d (k+1) l (fun y e=>h y (by simp[e])),aU]
  congr 1;omega
theorem aAi {l:List Int} (A:∀x∈l,0<=x):(gR 0 l=l.length->dM 0 l=dig (gR 0 l))/\(∀x,l[gR 0 l]? =some x->dM 0 l=dig (gR 0 l)++[x+1]++dM 0 (l.drop (gR 0 l+1))):=by
 have d:∀x∈l.take (gR 0 l),x=0:=fun x h=>by
  have:=DW 0 l x h
  grind
 have e:=aOn (l.take (gR 0 l)) 0 (l.drop (gR 0 l)) d;rw[kH,aQ,jF (BK 0 l),Nat.zero_add] at e
 grind [List.drop_of_length_le,eF,BL,pF,dM,gR,dig]
end
section
open Go.RowKit Go.Shelf
attribute [local go_sem] Oper.semAt_some
def hor (l:List (Nat×Bool)):Nat:=l.foldl (fun n x=>2*n+(if x.2 then 2 else 1)) 0
theorem aAk (l:List (Nat×Bool)) (x:Nat×Bool):hor (l++[x])=2*hor l+(if x.2 then 2 else 1):=by simp[hor]
theorem aAl (d:List Bool):∀k,k<=d.length->hor (sP (bk d) k)=num ((d.drop (d.length-k)).map bv):=by
 intro k
 induction k with
 |zero=>intro _;simp[sP,hor,num]
 |succ k h=>
  intro D;have A:d.length-(k+1)<d.length:=by omega
  rw[QD,aAk,h (by omega),pF A,List.map_cons,num,show d.length-(k+1)+1=d.length-k by omega];have e:(bk d k).2=d[d.length-(k+1)]:=by
   unfold bk
   grind
  rw[e]
  cases d[d.length-(k+1)]
  ·simp[bv];omega
  ·simp[bv];omega
theorem aOz:∀(l:List Int) (k:Nat),num (l.drop k)<=num l:=by
 intro l
 induction l with
 |nil=>intro k;simp
 |cons d l e=>
  intro k
  cases k with
  |zero=>simp
  |succ k=>rw[List.drop_succ_cons,num];have:=e k;omega
theorem aO0 (d:List Bool):iR (fun x=> !(x==0)&& !(x==1)) (d.map bv)= -1:=by grind [sK,iR,bv]
theorem aO1 (n:Nat) (hn:3<=n) (a:Option Addr) (cap:Nat) (d:List Bool) (b1:d.length<=1000000) (w:World) (G:RdI w (.slice a d.length cap) (d.map bv)) (hI:EC w.heap.size w (.slice a d.length cap) d):
  CallsIn cZ n pG 195 #[.slice a d.length cap] w fun e W'=>e=.returned (.tuple #[.int .i64 (qT (d.map bv)),.int .i64 (oB (d.map bv))])/\Below w.heap.size w W':=by
 have h1:1<=n:=by omega
 have a1:cZ.round=none:=rfl;have a7:∀W,Below w.heap.size w W->Calls pG 178 #[.slice a d.length cap,.func (.func 204) #[] #[]] W fun e w'=>e=.returned (.bool false)/\w'=W:=fun W hW=>
  (zC 204 #[] (fun x=> !(x==0)&& !(x==1)) (.slice a d.length cap) (d.map bv) W (G.below hW) (enters_of func204 (by kernel_rfl) rfl) (fun W _ x _=>aN5 x W)).mono fun e w' ⟨h1,h2⟩=>by
  rw[aO0] at h1;exact⟨h1,h2⟩
 refine callsIn_of_wp_marks func195 rfl trivial ?_ a1;simp only[ntmps195,List.size_toArray,aU,List.length_nil,Nat.reduceAdd,Nat.reduceSub,Array.replicate_succ,Array.replicate_zero,List.push_toArray,List.append_toArray,List.nil_append,fF]
 gi_wp2_with fail
 have a8:Below w.heap.size w ((w.alloc (.cells #[.int .i64 0] 3)).alloc (.cells #[.int .i64 0] 29)):=((aH _ w).alloc (aD _) _).alloc (by simp) _;refine⟨trivial,(callsIn_wide.2 (a7 _ a8)).mono ?_⟩;rintro e w' ⟨rfl,rfl⟩
 gi_wp2_with fail
 refine⟨trivial,(aOy cZ (n-1) trivial a1 a d.length cap _).mono ?_⟩;rintro e w' ⟨rfl,rfl⟩;have bR:=Boxed.new w 3 (.int .i64 0);have bE:=Boxed.new (w.alloc (.cells #[.int .i64 0] 3)) 29 (.int .i64 0);have bN:=Boxed.new ((w.alloc (.cells #[.int .i64 0] 3)).alloc (.cells #[.int .i64 0] 29)) 55 (.slice a d.length cap);rw[fP] at bE;rw[fP,fP] at bN;have a9:=a8.alloc (o:=.cells #[.slice a d.length cap] 55) (by simp;omega)
 gi_wp2_with fail
 refine wpIn_rangeFunc_ownG a1 h1 (gf:=206) (lb:=#[.pointer (some ⟨w.heap.size+1+1,0,none⟩)]) rfl trivial (enters_of func206 (by kernel_rfl) rfl)
  (aOx cZ (n-1) trivial a1 (by omega) (w.heap.size+1+1) w.heap.size _ d b1 _ (by simp) (by simp;omega) bN.cell (hI.below a9)) JW (QE (by simp;omega) (by simp)) (aH _ _) (fun _=>rfl)
  (fun H W=>(hor H<=1099511627776/\(W.cell? ⟨w.heap.size,0,none⟩=some (.int .i64 (hor H:Int))/\W.frozen? ⟨w.heap.size,0,none⟩=false)/\(W.cell? ⟨w.heap.size+1,0,none⟩=some (.int .i64 0)/\W.frozen? ⟨w.heap.size+1,0,none⟩=false))/\Below w.heap.size w W)
  (fun c H W=>(c=.ret/\1099511627776<hor H/\W.cell? ⟨w.heap.size,0,none⟩=some (.int .i64 0)/\W.cell? ⟨w.heap.size+1,0,none⟩=some (.int .i64 4))/\Below w.heap.size w W)
  (OwnFrom.and (Own.from (fun s A B row F T G=>⟨F.1,⟨yQ F.2.1.1 T G,(frozen_kept F.2.1.1 T G).trans F.2.1.2⟩,yQ F.2.2.1 T G,(frozen_kept F.2.2.1 T G).trans F.2.2.2⟩) _) (ownFrom_below (aD _) (by simp;omega)))
  (fun c=>OwnFrom.and (Own.from (fun s A B row F T G=>⟨F.1,F.2.1,yQ F.2.2.1 T G,yQ F.2.2.2 T G⟩) _) (ownFrom_below (aD _) (by simp;omega)))
  ⟨⟨by simp[hor],⟨((bR.alloc _).alloc _).cell,((bR.alloc _).alloc _).frozen⟩,(bE.alloc _).cell,(bE.alloc _).frozen⟩,a9⟩
  (fun x=>{tmps:=#[.slice a d.length cap,undef,.pointer (some ⟨w.heap.size,0,none⟩),.pointer (some ⟨w.heap.size+1,0,none⟩),undef,.int .i64 (bv x.2),.slice a d.length cap,.bool false,.slice a d.length cap,.func (.func 206) #[] #[.pointer (some ⟨w.heap.size+1+1,0,none⟩)],.int .i64 (x.1:Int),.int .i64 (bv x.2),undef,undef,undef,undef,undef,undef,undef,undef],defers:=[]}) ?assign ?body ?done ?stop
 case assign=>
  intro l x W K L;unfold JV
  gi_wp2
  exact L
 case body=>
  rintro l H ⟨i,b⟩ W ⟨⟨Y,⟨I,hf⟩,M,a3⟩,O⟩ _;obtain⟨h,hh⟩:∃h,h=hor H:=⟨_,rfl⟩;have F:=aAk H (i,b);rw[<-hh] at Y I F;have U:=hid F;have b0:w.heap.size+1+1≠w.heap.size:=by omega
  clear hh F a7 G;have Z:(⟨w.heap.size+1,0,none⟩:Addr)≠⟨w.heap.size,0,none⟩:=fun e=>by have:=congrArg Addr.block e;simp at this
  have J:(⟨w.heap.size,0,none⟩:Addr)≠⟨w.heap.size+1,0,none⟩:=fun e=>Z e.symm
  cases b
  ·have a4:bv false=0:=rfl;dsimp only
   rw[a4]
   by_cases b2:1099511627776<2*h+1
   ·have t1:decide ((1099511627776:Int)<2*(h:Int)+1)=true:=aG (by omega);have t2:(1099511627776:Int)<2*(h:Int)+1:=by omega
    gi_wp2
    refine⟨(((kJ W _ _).trans (kJ _ _ _)).trans (kJ _ _ _)).from _,⟨rfl,by rw[U.out,aA (by decide)];omega,?_,?_⟩,
     ((O.setCell (p:=⟨w.heap.size,0,none⟩) (aD _) _).setCell (p:=⟨w.heap.size,0,none⟩) (aD _) _).setCell (p:=⟨w.heap.size+1,0,none⟩) (tJ _) _⟩
    ·rw[lI _ _ _ _ Z];exact rX _ _ _ (rX _ _ _ I)
    ·refine rX (u:=.int .i64 0) _ _ _ ?_;rw[lI _ _ _ _ J,lI _ _ _ _ J];exact M
   ·have t1:decide ((1099511627776:Int)<2*(h:Int)+1)=false:=aE (by omega);have t2:2*(h:Int)+1<=(1099511627776:Int):=by omega
    gi_wp2
    refine⟨(kJ W _ _).from _,⟨(aH w.heap.size W).setCell (p:=⟨w.heap.size,0,none⟩) (aD _) _,kF _ _ _ _ b0⟩,⟨by rw[U.out,aA (by decide)];omega,⟨?_,?_⟩,?_,?_⟩,O.setCell (p:=⟨w.heap.size,0,none⟩) (aD _) _⟩
    ·have e:(hor (H++[(i,false)]):Int)=2*(h:Int)+1:=by rw[U.out,aA (by decide)];omega
     rw[e];exact rX _ _ _ I
    ·rw[IG];exact hf
    ·rw[lI _ _ _ _ J];exact M
    ·rw[IG];exact a3
  ·have a4:bv true=1:=rfl;dsimp only
   rw[a4]
   by_cases b2:1099511627776<2*h+2
   ·have t1:decide ((1099511627776:Int)<2*(h:Int)+1+1)=true:=aG (by omega);have t2:(1099511627776:Int)<2*(h:Int)+1+1:=by omega
    gi_wp2
    refine⟨(((kJ W _ _).trans (kJ _ _ _)).trans (kJ _ _ _)).from _,⟨rfl,by rw[U.out,aB trivial];omega,?_,?_⟩,
     ((O.setCell (p:=⟨w.heap.size,0,none⟩) (aD _) _).setCell (p:=⟨w.heap.size,0,none⟩) (aD _) _).setCell (p:=⟨w.heap.size+1,0,none⟩) (tJ _) _⟩
    ·rw[lI _ _ _ _ Z];exact rX _ _ _ (rX _ _ _ I)
    ·refine rX (u:=.int .i64 0) _ _ _ ?_;rw[lI _ _ _ _ J,lI _ _ _ _ J];exact M
   ·have t1:decide ((1099511627776:Int)<2*(h:Int)+1+1)=false:=aE (by omega);have t2:2*(h:Int)+1+1<=(1099511627776:Int):=by omega
    gi_wp2
    refine⟨(kJ W _ _).from _,⟨(aH w.heap.size W).setCell (p:=⟨w.heap.size,0,none⟩) (aD _) _,kF _ _ _ _ b0⟩,⟨by rw[U.out,aB trivial];omega,⟨?_,?_⟩,?_,?_⟩,O.setCell (p:=⟨w.heap.size,0,none⟩) (aD _) _⟩
    ·have e:(hor (H++[(i,true)]):Int)=2*(h:Int)+1+1:=by rw[U.out,aB trivial];omega
     rw[e];exact rX _ _ _ I
    ·rw[IG];exact hf
    ·rw[lI _ _ _ _ J];exact M
    ·rw[IG];exact a3
 case done=>
  rintro D ys W hD rfl ⟨⟨Y,⟨I,hf⟩,M,a3⟩,O⟩ L;rw[aAl d _ (aD _),Nat.sub_self,List.drop_zero] at Y I;have hv:qT (d.map bv)=(num (d.map bv):Int):=by unfold qT;rw[aB Y]
  have he:oB (d.map bv)=0:=by unfold oB;rw[aB Y]
  have a0:=hid (tK hv he);clear hv he
  gi_wp2
  have J:(⟨w.heap.size,0,none⟩:Addr)≠⟨w.heap.size+1,0,none⟩:=fun e=>by have:=congrArg Addr.block e;simp at this
  have Z:(⟨w.heap.size+1,0,none⟩:Addr)≠⟨w.heap.size,0,none⟩:=fun e=>J e.symm
  obtain⟨V,hV⟩:∃V,V=num (d.map bv):=⟨_,rfl⟩;have a2:=((kJ W ⟨w.heap.size,0,none⟩ (.int .i64 (num (d.map bv):Int))).trans (kJ _ ⟨w.heap.size+1,0,none⟩ (.int .i64 0))).same D _ L rfl;refine⟨by simp,.inl ⟨_,_,rfl,sE a2,?_⟩⟩;have b3:((W.setCell ⟨w.heap.size,0,none⟩ (.int .i64 (num (d.map bv):Int))).setCell ⟨w.heap.size+1,0,none⟩ (.int .i64 0)).cell? ⟨w.heap.size,0,none⟩=some (.int .i64 (num (d.map bv):Int)):=by
   rw[lI _ _ _ _ Z];exact rX _ _ _ I
  have b4:((W.setCell ⟨w.heap.size,0,none⟩ (.int .i64 (num (d.map bv):Int))).setCell ⟨w.heap.size+1,0,none⟩ (.int .i64 0)).cell? ⟨w.heap.size+1,0,none⟩=some (.int .i64 0):=by
   refine rX (u:=.int .i64 0) _ _ _ ?_;rw[lI _ _ _ _ J];exact M
  have a5:=yQ b3 (kV _ D (.deferred none)) (fun r e=>by cases e;exact⟨_,a2,rfl⟩);have a6:=yQ b4 (kV _ D (.deferred none)) (fun r e=>by cases e;exact⟨_,a2,rfl⟩);refine⟨.tuple #[.int .i64 (num (d.map bv):Int),.int .i64 0],?_,by rw[a0.out.1,a0.out.2],((O.setCell (p:=⟨w.heap.size,0,none⟩) (aD _) _).setCell (p:=⟨w.heap.size+1,0,none⟩) (tJ _) _).trans (belowK_b (w:=w) (aD _) _ D _ _ (by simp at hD;omega) a2 rfl rfl)⟩;simp[results,f195,go_sem,a5,a6]
 case stop=>
  rintro D c H W hD ⟨k,hk,rfl⟩ ⟨⟨rfl,b5,I,M⟩,O⟩ L;rw[aAl d _ hk] at b5;have b6:num ((d.drop (d.length-k)).map bv)<=num (d.map bv):=by rw[List.map_drop];exact aOz _ _
  have hv:qT (d.map bv)=0:=by unfold qT;rw[aA (by omega)]
  have he:oB (d.map bv)=4:=by unfold oB;rw[aA (by omega)]
  have a0:=hid (tK hv he);clear hv he
  gi_wp2
  refine⟨by simp,.inl ⟨_,_,rfl,sE L,?_⟩⟩;have a5:=yQ I (kV _ D (.deferred none)) (fun r e=>by cases e;exact⟨_,L,rfl⟩);have a6:=yQ M (kV _ D (.deferred none)) (fun r e=>by cases e;exact⟨_,L,rfl⟩);refine⟨.tuple #[.int .i64 0,.int .i64 4],?_,by rw[a0.out.1,a0.out.2],O.trans (belowK_b (w:=w) (aD _) W D _ _ (by simp at hD;omega) L rfl rfl)⟩;simp[results,f195,go_sem,a5,a6]
theorem aO2 (v:Value) (d:List Int) (w:World) (D:RdI w v d) (F:d.length<=1000000) (H:∀x∈d,x=0\/x=1):
  Calls pG 195 #[v] w fun e w'=>e=.returned (.tuple #[.int .i64 (qT d),.int .i64 (oB d)])/\Below w.heap.size w w':=by
 obtain⟨h,rfl⟩:∃h:List Bool,d=h.map bv:=by
  refine⟨d.map (fun x=>decide (x=1)),?_⟩;rw[List.map_map];rw[vH (g:=id) (fun x I=>by rcases H x I with rfl|rfl<;>rfl),List.map_id]
 obtain⟨a,cap,rfl,J,O,G⟩:=D.open;rw[List.length_map] at D F G J ⊢;refine callsIn_wide.1 (aO1 3 (aD _) a cap h F w D ?_);rcases jE h.length with A|A
 ·exact .inl ⟨a,cap,by rw[A],List.eq_nil_of_length_eq_zero A⟩
 ·obtain⟨b,off,rfl,L,M⟩:=G A;exact .inr ⟨b,off,cap,rfl,L,fun j T=>M j _ (by grind)⟩
end
section
open Go.RowKit
theorem aAy (s:ByteArray) (k:Nat) (w:World) (h:s.size<=1000000) (A:k<=s.size):
  Calls pG 91 #[.string s,.int .i64 (k:Int)] w fun e w'=>e=.returned (.string (mkS (rot s k)))/\∃m,w'=w.drewN m:=by
 have e:=QI s k;have d:=hid e;clear e;go_enter func91,ntmps91;go_wp2
 go_quiet (fail)
 go_wp2;go_ret;exact⟨yV d.out,_,rfl⟩
theorem aQa (s:ByteArray) (w:World) (hn:s.size<=1000000)
  (O:∀w,Calls pG 90 #[.string s] w fun e w'=>∃v o,e=.returned v/\Ord (cQ s) s.size s.size o/\OwI w' w.heap.size v (iY s.size o)/\Below w.heap.size w w'):
  Calls pG 75 #[.string s] w fun e w'=>
   ∃o,Ord (cQ s) s.size s.size o/\e=.returned (.tuple #[.string (mkS (eM s o s.size)),.int .i64 ((gX o s.size:Nat):Int)])/\Below w.heap.size w w':=by
 have a5:=hid O;clear O;go_enter func75,ntmps75;go_wp2_with fail;refine(a5.out _).mono ?_;rintro e T ⟨v,o,rfl,U,V,Y⟩;obtain⟨a,cap,rfl,a6,a7,J⟩:=V.rd.open;rw[qE] at a6 J ⊢;unfold maxLen at a7;have Z:=hid U;have HA:=hid J;clear U J V;go_wp2_with fail
 go_loopg [5,6,7,8] s.size (fun gh s5 s6 s7 _s8 wr=>∃k:Nat,k<=s.size/\gh=s.size-k/\s7=.int .i64 k/\s6=.int .i64 ((gX o k:Nat):Int)/\s5=.string (mkS (eM s o k))/\Below T.heap.size T wr)
 case atStart=>exact⟨0,aO _,rfl,rfl,rfl,rfl,aH _ _⟩
 case round=>
  obtain⟨k,hk,D,rfl,rfl,rfl,A⟩:=hrel;have HG:=hid D;clear D
  by_cases a0:k<s.size
  ·obtain⟨b,off,rfl,a8,hc⟩:=HA.out (by omega);have a9:=Z.out.rng k a0;obtain⟨h,a1⟩:∃h,h=(o k).toNat:=⟨_,rfl⟩;have L:o k=(h:Int):=by omega
   have b0:h<s.size:=by omega
   have F:=(A.cell (p:=⟨b,off+k,none⟩) a8).trans (hc k _ (BP _ _ _ a0));rw[L] at F;have EK:=hid L;have b1:=hid a1;clear L a1 a9 hc;go_wp2_with fail;refine(aPt s h _ hn (by omega)).mono ?_;rintro e w2 ⟨rfl,a2⟩;obtain⟨t,G⟩:∃t,t=mkS (rot s h):=⟨_,rfl⟩;rw[<-G];have b5:t.size=s.size:=by rw[G,cS,EE _ _ (by omega)]
   obtain⟨d,M⟩:∃d,d=s.size-1:=⟨_,rfl⟩;have b2:d<s.size:=by omega
   have b3:d<t.size:=by omega
   have ed:(s.size:Int)-1=(d:Int):=by omega
   obtain⟨C,H⟩:∃C,C=mkS [s.data.toList.getD ((h+d)%s.size) 0]:=⟨_,rfl⟩;have b6:t.extract d s.size=C:=by
    have h1:=QH s h d b0 b2;have h2:=JA t d b3;rw[show d+1=s.size by omega] at h2;rw[h2,H,show t.data.toList=rot s h by rw[G];rfl,jD,h1];rfl
   have b7:C.size=1:=by rw[H];rfl
   obtain⟨S,I⟩:∃S,S=mkS (eM s o k):=⟨_,rfl⟩;rw[<-I];have b8:S.size<=1000000:=by rw[I,cS,xJ];omega
   have a3:mkS (eM s o (k+1))=S++C:=by
    rw[I,H,sI,QJ,<-b1.out,<-M]
   have HN:=hid a3;have HD:=hid M;have a4:=A.trans (a2.mono A.size);have b9:=(a2.cell (p:=⟨b,off+k,none⟩) (World.block_lt_of_cell? wr _ F)).trans F;have c0:d<=s.size:=by omega
   clear A G M H I a3 F
   by_cases h0:h=0
   ·have t1:((h:Int)==0)=true:=by rw[beq_iff_eq];omega
    go_wp2_with fail;have D:=HG.out
    go_roundg (s.size-(k+1))
    case measure=>omega
    case rel=>
     refine⟨k+1,by omega,rfl,by go_num,?_,by rw[HN.out],a4⟩;unfold gX;rw[aB (by rw[EK.out];omega)]
   ·have t1:((h:Int)==0)=false:=by rw[cB];omega
    go_wp2_with fail;have D:=HG.out
    go_roundg (s.size-(k+1))
    case measure=>omega
    case rel=>
     refine⟨k+1,by omega,rfl,by go_num,?_,by rw[HN.out],a4⟩;show _=Value.int .i64 (((if o k=0 then k else gX o k:Nat)):Int);rw[aA (by rw[EK.out];omega)]
  ·have b4:k=s.size:=by omega
   subst b4;go_wp2_with fail
   go_ret2
   exact⟨o,Z.out,rfl,Y.trans (A.mono Y.size)⟩
theorem aQb:∀(t:Nat) (x y:List UInt8) (p q:UInt8),(∀u,u<t->x[u]? =y[u]?)->x[t]? =some p->y[t]? =some q->p.toNat<q.toNat->sF x y=true:=by
 intro t
 induction t with
 |zero=>
  intro x y p q _ d e A
  cases x with
  |nil=>simp at d
  |cons a x=>
   cases y with
   |nil=>simp at e
   |cons b y=>
    simp at d e;subst d;subst e;simp[sF,UInt8.lt_iff_toNat_lt,A]
 |succ t F=>
  intro x y p q h d e A
  cases x with
  |nil=>simp at d
  |cons a x=>
   cases y with
   |nil=>simp at e
   |cons b y=>
    have D:=h 0 (by omega);simp at D d e;subst D;have:=F x y p q (fun u G=>by grind) d e A;simp[sF,this]
theorem aQc (x:List UInt8):sF x x=false:=by
 induction x with
 |nil=>rfl
 |cons a x d=>simp[sF,d]
theorem EF (s:ByteArray) {k i:Nat} (d:k<s.size) (e:i<s.size):∃b,(rot s k)[i]? =some b/\b.toNat=cQ s (k+i):=⟨_,QH s k i d e,rfl⟩
theorem aAz (s:ByteArray) {a b i:Nat} (d:a<s.size) (e:b<s.size) (A:i<s.size) (h:cQ s (a+i)=cQ s (b+i)):(rot s a)[i]? =(rot s b)[i]? :=by grind [EF,tH,cQ,rot]
theorem aQd (s:ByteArray) {a b:Nat} (d:a<s.size) (e:b<s.size) (h:eqm (cQ s) s.size a b):rot s a=rot s b:=by
 apply lH
 grind [aAz,EE,eqm,cQ,rot]
theorem aA0 (s:ByteArray) {a b:Nat} (d:a<s.size) (e:b<s.size) (h:ltm (cQ s) s.size a b):sF (rot s a) (rot s b)=true:=by
 obtain⟨t,A,D,F⟩:=h
 grind [EF,aQb,aAz,ltm,cQ,rot]
theorem aQe {s:ByteArray} {o d:Nat->Int} {n:Nat} (h:∀k,k<n->o k=d k):eM s o n=eM s d n:=by grind [eM,vH]
theorem aQf {o d:Nat->Int}:∀{n:Nat},(∀k,k<n->o k=d k)->gX o n=gX d n:=by
 intro n
 induction n with
 |zero=>intro _;rfl
 |succ n e=>intro h;unfold gX;rw[h n (by omega),e (fun k A=>h k (by omega))]
end
section
theorem aQg:∀(x y:List UInt8),sF x y=true->sF y x=false:=by
 intro x
 induction x with
 |nil=>
  intro y h
  cases y with
  |nil=>rfl
  |cons b y=>rfl
 |cons a x d=>
  intro y h
  cases y with
  |nil=>simp[sF] at h
  |cons b y=>
   simp only[sF,Bool.or_eq_true,Bool.and_eq_true,decide_eq_true_eq,beq_iff_eq,Bool.or_eq_false_iff,Bool.and_eq_false_iff,decide_eq_false_iff_not] at h ⊢;rcases h with h|⟨e,A⟩
   ·grind
   ·grind
theorem aQh (s:ByteArray) {a b:Nat} (d:a<s.size) (e:b<s.size):sF (rot s a) (rot s b)=true↔ltm (cQ s) s.size a b:=by grind [zA,cQ,aQd,aQc,aQg,aA0,rot,ltm]
def qF (L:List Int) (j:Nat) (k:Int):List Int:=L.take j++k::L.drop j
theorem QL (L:List Int) (j:Nat) (k:Int):(qF L j k).length=L.length+1:=by grind [qF]
theorem QM {R:Int->Int->Prop} {L:List Int} {j:Nat} {k:Int} (h:L.Pairwise R) (d:∀x∈L.take j,R x k) (e:∀x∈L.drop j,R k x):(qF L j k).Pairwise R:=by grind [qF,List.take_sublist,List.pairwise_cons,List.drop_sublist,kH]
theorem QN {L:List Int} {j:Nat} {k:Nat} (h:∀x∈L,0<=x/\x<(k:Int)):∀x∈qF L j k,0<=x/\x<((k+1:Nat):Int):=by grind [qF]
theorem aQi {c:Nat->Nat} {n:Nat} {L:List Int} (h:L.Pairwise (bef c n)) {j:Nat} {y k:Int} (H:0<j) (d:L[j-1]? =some y) (e:bef c n y k):∀x∈L.take j,bef c n x k:=by
 intro x A;obtain⟨i,D,rfl⟩:=List.mem_iff_getElem.1 A;rw[aQ] at D;rw[WP];obtain⟨F,G⟩:=eF.1 d;rcases cF i (j-1) with p|p
 ·have:=DH.1 h i (j-1) (by omega) F p;rw[G] at this;exact(BJ c n).tr _ _ _ this e
 grind
theorem aQj {c:Nat->Nat} {n:Nat} {L:List Int} (d:L.length=n) (e:∀x∈L,0<=x/\x<(n:Int)) (h:L.Pairwise (bef c n)):Ord c n n (fun k=>L.getD k 0):=by
 subst d;refine⟨fun k F=>e _ (by grind),fun i j _ A D=>?_⟩;have:=DH.1 h i j (by omega) D A
 grind
end
end Go.Proofs.YtfplbbphficcjaaGreatDoor
