/-
  Texts put together (part 7): the walks and the plain laws on which the statement stands.
-/
import Derived.Deep.Cut
import Derived.Laws.IdiomCopy
import Derived.Lib.BytesEntry
import Derived.Lib.ConvBytes
import Derived.Laws.ResultCell
import Derived.Deep.CutBlock
import Derived.Defers
import Derived.Recover
import Derived.Test.YtfckbfofgeilgaaGreatDoorZ2
import Derived.Test.YtfckbfofgeilgaaGreatDoorZ3
set_option maxRecDepth 100000
set_option maxHeartbeats 12800000
set_option linter.unusedVariables false
set_option linter.unusedSimpArgs false
open Go.Proofs.Tryz
open Go.Proofs.Tryz renaming prog->pG
open Go renaming Operand->iF,Program->fO,heap_setCell_other->kF,run_loadVar_row->WR,wpList_plain->yK
open Go.IntKind renaming i64->aJ,u64->eZ,wrap_i64->aM,wrap_u64->fC,wrap_u8->sG
open Go.Lib renaming bytesWorld_size->aLj
open Go.Oper renaming wp->nC
open Go.Result renaming andThen->lW
open Go.RowKit.Below renaming refl->aH
open Go.World renaming cell?_of_block->rW,cell?_setCells_out->bGb,grownBy_alloc->II
open Int renaming tdiv_eq_ediv_of_nonneg->IK,tmod_eq_emod_of_nonneg->mL,toNat_natCast->fL
open List renaming append_assoc->bU,getD_eq_getElem?_getD->bV,getElem?_append_left->nE,getElem?_append_right->rY,getElem?_drop->jR,getElem?_eq_getElem->aN,getElem?_eq_some_iff->eF,getElem?_take_of_lt->pW,length_append->aL,length_drop->bA,length_take->aQ,take_add_one->cG,take_of_length_le->cD
open Nat renaming eq_zero_or_pos->jE,le_refl->aD,le_trans->aR,lt_of_lt_of_le->fB,pow_le_pow_right->nF,zero_le->aO
open Option renaming toList_some->rD
open UInt8 renaming ofNat->eA
namespace Go.Proofs.YtfckbfofgeilgaaGreatDoor
section
open Go.RowKit
def ByA (w:World) (g:Nat) (l:List UInt8):Prop:=g<w.heap.size/\(∀j b,l[j]? =some b->w.cell? ⟨g,j,none⟩=some (.int .u8 (b.toNat:Int)))/\∀j,j<l.length->w.frozen? ⟨g,j,none⟩=false
theorem ByA.kept {w w':World} {g:Nat} {l:List UInt8} {row:Option Nat} (h:ByA w g l) (d:w.grownBy w' row) (A:some g≠row):ByA w' g l:=
 ⟨fB h.1 d.size,fun j b e=>by rw[rW (d.block g h.1 A)];exact h.2.1 j b e,fun j e=>by rw[World.frozen?_of_block (d.block g h.1 A)];exact h.2.2 j e⟩
theorem ByA.below {w w':World} {B g:Nat} {l:List UInt8} (h:ByA w g l) (d:Below B w w') (A:g<B):ByA w' g l:=
 ⟨fB h.1 d.size,fun j b e=>by rw[d.cell (p:=⟨g,j,none⟩) A];exact h.2.1 j b e,fun j e=>by rw[d.frozen (p:=⟨g,j,none⟩) A];exact h.2.2 j e⟩
theorem ByA.set {w:World} {g:Nat} {l:List UInt8} (h:ByA w g l) (i:Nat) (b:UInt8):ByA (w.setCell ⟨g,i,none⟩ (.int .u8 (b.toNat:Int))) g (l.set i b):=by
 refine⟨by simpa using h.1,fun j c d=>?_,fun j d=>by rw[World.frozen?_setCell];exact h.2.2 j (by simpa using d)⟩;obtain⟨A,D⟩:=eF.1 d;rw[List.length_set] at A
 by_cases e:i=j
 ·subst e;rw[List.getElem_set_self] at D;subst D;exact World.cell?_setCell_same _ _ _ (h.2.1 i _ (aN A))
 ·rw[World.cell?_setCell_other _ _ _ _ (fun F=>e (by grind))]
  grind [ByA]
theorem ZY:(pG.info? 5).map (·.size)=some 1:=by kernel_rfl
theorem ZZ {M:Array Oper} {rest:List Oper} {o:Oper} {a:Act} {Q:Exit->Act->World->Prop} {w:World} (a1:o.guard=none) (d s:iF)
  (O:o.op=.call {callee:=.builtin .copy,args:=#[d,s],argTypes:=#[84,84]}) (g:Nat) (l:List UInt8) (i:Nat) (hA:ByA w g l) (hi:i<l.length)
  (dp:Option Addr) (dLen dCap sCap:Nat) (hd:a.eval d=.slice dp dLen dCap) (hs:a.eval s=.slice (some ⟨g,0,none⟩) i sCap) (hdl:dLen=l.length-1) (hdp:1<l.length->dp=some ⟨g,1,none⟩)
  (h:∀w',ByA w' g (l.take 1++l.take i++l.drop (i+1))->w.grownBy w' (some g)->wpList pG M Q rest (a.put o.dst (goInt i)) w'):
  wpList pG M Q (o::rest) a w:=by
 refine yK a1 fun K hK=>?_
 replace h:=fun w' q1 q2=>hK _ _ (h w' q1 q2)
 rcases jE i with R|R
 ·subst R;have I:=run_copy_none (P:=pG) w 84 84 o.type 5 dp (some ⟨g,0,none⟩) dLen dCap 0 sCap underlying84 ZY (Nat.zero_min _);unfold nC;simp[execOp,O,resolve,invoke,builtin,hd,hs,I,lW];refine h w ?_ ⟨rfl,rfl,rfl,aD _,fun _ _ _=>rfl⟩;rw[List.take_zero,List.append_nil,List.take_append_drop];exact hA
 ·have a2:=hdp (by omega);subst a2;have D:(l.take i).length=i:=by rw[aQ];omega
  have I:=run_copy_cells (P:=pG) w 84 84 o.type 5 g 1 dLen dCap ⟨g,0,none⟩ i sCap (fG (l.take i)) underlying84 ZY (by rw[vO,D];exact(Nat.min_eq_left (by omega)).symm)
   (fun j v A=>by
    unfold fG at A;rw[List.getElem?_map] at A
    cases F:(l.take i)[j]? with
    |none=>rw[F] at A;simp at A
    |some b=>
     rw[F] at A;simp at A;subst A;have e:(⟨g,0,none⟩:Addr).add j=⟨g,j,none⟩:=by unfold Addr.add;split<;>simp_all
     rw[e];have a3:j<i:=by have:=(eF.1 F).1;omega
     rw[pW a3] at F;exact hA.2.1 j b F)
   (fun j A=>by
    rw[vO,D] at A;rw[hA.2.1 (1+j) _ (aN (by omega))];rfl)
   (fun j A=>by rw[vO,D] at A;exact hA.2.2 (1+j) (by omega))
   (fun v hv=>by obtain⟨b,_,rfl⟩:=List.mem_map.1 hv;rfl)
  rw[vO,D] at I;unfold nC;simp[execOp,O,resolve,invoke,builtin,hd,hs,I,lW];have U:∀(J:List Value) (o:Nat) (w:World),w.grownBy (w.setCells g o J) (some g):=by
   intro J
   induction J with
   |nil=>intro o w;exact⟨rfl,rfl,rfl,aD _,fun _ _ _=>rfl⟩
   |cons v J ih=>
    intro o w;have G:=ih (o+1) (w.setCell ⟨g,o,none⟩ v);refine⟨G.os,G.tape,G.output,aR (by simp) G.size,fun k L V=>?_⟩;rw[World.setCells,G.block k (by simpa using L) V];exact kF _ _ _ _ (fun e=>V (by rw[e]))
  have a4:(l.take 1++l.take i++l.drop (i+1)).length=l.length:=by simp only[aL,aQ,bA];omega
  refine h _ ⟨fB hA.1 (U _ _ _).size,fun j b A=>?_,fun j A=>?_⟩ (U _ _ _)
  ·rcases jE j with Y|Y
   ·subst Y;rw[bGb g _ _ _ _ (fun _ _=>.inl (by simp))];refine hA.2.1 0 b ?_;rw[<-A,bU,nE (by rw[aQ];omega),pW (by omega)]
   ·rcases Nat.lt_or_ge j (i+1) with q|q
    ·have Z:j-1<(fG (l.take i)).length:=by rw[vO,D];omega
     have a0:=World.cell?_setCells_in g (fG (l.take i)) 1 w (fun k L=>by
      rw[vO,D] at L;rw[hA.2.1 (1+k) _ (aN (by omega))];rfl) (j-1) Z
     rw[show 1+(j-1)=j by omega] at a0;rw[a0];have e:(l.take i)[j-1]? =some b:=by
      rw[<-A,bU,rY (by rw[aQ];omega),aQ,show min 1 l.length=1 by omega,nE (by rw[D];omega)]
     have:=IZ e;rw[aN Z] at this;exact this
    ·rw[bGb g _ _ _ _ (fun _ _=>.inr (by rw[vO,D];simp;omega))];refine hA.2.1 j b ?_;have e3:i+1+(j-(l.take 1++l.take i).length)=j:=by simp only[aL,aQ];omega
     rw[<-A,rY (by simp only[aL,aQ];omega),jR,e3]
  ·rw[World.frozen?_setCells];rw[a4] at A;exact hA.2.2 j A
theorem aOa {l:List UInt8} {i:Nat} (d:i<l.length):gC l i=l[i]::(l.take i++l.drop (i+1)):=by grind [List.drop_eq_getElem_cons,gC]
theorem aAa {l:List UInt8} {i:Nat} (d:i<l.length):(l.take 1++l.take i++l.drop (i+1)).set 0 l[i]=gC l i:=by
 rw[aOa d]
 cases l with
 |nil=>simp at d
 |cons b l=>simp
theorem qS {w w':World} {g:Nat} (h:w.grownBy w' (some g)) (k:Nat) (v:Value):w.grownBy (w'.setCell ⟨g,k,none⟩ v) (some g):=
 ⟨h.os,h.tape,h.output,by simpa using h.size,fun i A d=>(kF _ _ _ _ (fun e=>d (by rw[e]))).trans (h.block i A d)⟩
theorem aAb {w0 w:World} {g n cap d:Nat} {l:List UInt8} (h:w.cell? ⟨d,0,none⟩=some (.slice (some ⟨g,0,none⟩) n cap)/\ByA w g l/\w0.grownBy w (some g)):w.drew.cell? ⟨d,0,none⟩=some (.slice (some ⟨g,0,none⟩) n cap)/\ByA w.drew g l/\w0.grownBy w.drew (some g):=
 ⟨h.1,h.2.1,qP h.2.2⟩
theorem aAc (g cap i:Nat) (l:List UInt8) (w:World) (V:ByA w g l) (F:i<l.length) (hl:l.length<=1000) (b0:l.length<=cap) (a4:cap<=maxLen):
  Calls pG 249 #[.agg #[.slice (some ⟨g,0,none⟩) l.length cap],.int .i64 (i:Int)] w fun e w'=>e=.returned (.int .u8 (l[i].toNat:Int))/\ByA w' g (gC l i)/\w.grownBy w' (some g):=by
 unfold maxLen at a4;obtain⟨b,L⟩:=ex1 (l[i]);have M:=hid L;have c1:=V.2.1 i b (by rw[L];exact aN F);rw[<-L];have b5:=V.1;have O:ByA (w.alloc (.cells #[.slice (some ⟨g,0,none⟩) l.length cap] 381)) g l:=V.kept (row:=none) (II _ _ _) (by simp);have R:w.grownBy (w.alloc (.cells #[.slice (some ⟨g,0,none⟩) l.length cap] 381)) (some g):=II _ _ _;have U:=bX w (.slice (some ⟨g,0,none⟩) l.length cap) 381;have A:w.heap.size<(w.alloc (.cells #[.slice (some ⟨g,0,none⟩) l.length cap] 381)).heap.size:=by simp
 have b6:1<=l.length:=by omega
 have b7:1<=cap:=by omega
 have b8:=b.toNat_lt;clear L;go_enter func249,ntmps249;have b1:i<=cap:=by omega
 have b2:(i:Int)<=(cap:Int):=by omega
 have b3:(1:Int)<=(l.length:Int):=by omega
 have b4:(1:Int)<=(cap:Int):=by omega
 go_upto_region 2 with fail;generalize w.alloc (.cells #[.slice (some ⟨g,0,none⟩) l.length cap] 381)=D at*
 by_cases a5:cap=1
 ·subst a5;have b9:l.length=1:=by omega
  have a6:i=0:=by omega
  subst a6
  go_still_tail 7,(by kernel_rfl)
  change wpList _ _ _ _ _ D.drew;obtain⟨Y,Z,a0⟩:=aAb ⟨U,O,R⟩
  replace A:w.heap.size<D.drew.heap.size:=A
  clear U O R;generalize D.drew=w2 at*
  refine ZZ rfl _ _ rfl g l 0 Z F _ _ _ _ rfl rfl (by omega) (fun h1=>?_) ?_
  ·exfalso;omega
  intro w3 d G;have a1:some w.heap.size≠some g:=by simp;omega
  have a2:=Y;rw[<-rW (G.block _ A a1)] at a2;have a7:(l.take 1++l.take 0++l.drop (0+1)).length=l.length:=by simp only[aL,aQ,bA];omega
  have I:0<(l.take 1++l.take 0++l.drop (0+1)).length:=by omega
  have a8:=d.2.1 0 _ (aN I);have a9:=d.2.2 0 I;have J:=d.set 0 b;have a3:=qS (eU a0 G) 0 (.int .u8 (b.toNat:Int));rw[M.out,aAa F,<-M.out] at J;go_wp2_with fail;go_ret;exact⟨rfl,J,a3⟩
 ·go_still_tail 7,(by kernel_rfl)
  change wpList _ _ _ _ _ D.drew;obtain⟨Y,Z,a0⟩:=aAb ⟨U,O,R⟩
  replace A:w.heap.size<D.drew.heap.size:=A
  clear U O R;generalize D.drew=w2 at*
  refine ZZ rfl _ _ rfl g l i Z F _ _ _ _ rfl rfl rfl (fun h1=>rfl) ?_;intro w3 d G;have a1:some w.heap.size≠some g:=by simp;omega
  have a2:=Y;rw[<-rW (G.block _ A a1)] at a2;have a7:(l.take 1++l.take i++l.drop (i+1)).length=l.length:=by simp only[aL,aQ,bA];omega
  have I:0<(l.take 1++l.take i++l.drop (i+1)).length:=by omega
  have a8:=d.2.1 0 _ (aN I);have a9:=d.2.2 0 I;have J:=d.set 0 b;have a3:=qS (eU a0 G) 0 (.int .u8 (b.toNat:Int));rw[M.out,aAa F,<-M.out] at J;go_wp2_with fail;go_ret;exact⟨rfl,J,a3⟩
def uI (f:Nat->Bool):List Value:=(List.range 256).map (fun d=>Value.bool (f d))
theorem PY (f:Nat->Bool) (i:Nat) (h:i<256):(uI f)[i]? =some (.bool (f i)):=by simp[uI,h]
theorem aOb (f e:Nat->Bool) (i:Nat) (v:Bool) (h:∀d,d<256->e d=if d=i then v else f d):(uI f).set i (.bool v)=uI e:=by
 apply List.ext_getElem?
 grind [uI,PY]
theorem aAd (a:ByteArray) (w:World) (hs:a.size<=1000000000) (L:a.data.toList.Nodup):
  Calls pG 248 #[.string a] w fun e w'=>e=.returned (.bool true)/\Below w.heap.size w w':=by
 have M:=hid L;clear L;have O:=mV a;have D:=hid O;clear O;go_enter func248,ntmps248;go_wp2_with fail
 go_loopg [2,4,7] a.size (fun Z _s2 _s4 s7 wr=>∃k:Nat,k<=a.size/\Z=a.size-k/\s7=.int .i64 k/\Arr wr w.heap.size 371 (uI (fun d=>(a.data.toList.take k).any (fun b=>b.toNat==d)))/\Below w.heap.size w wr)
 case atStart=>
  refine⟨0,aO _,rfl,rfl,?_,(aH _ _).alloc (aD _) _⟩;have z:Tryz.zeroCells371=(uI (fun _=>false)).toArray:=by kernel_rfl
  rw[z]
  simpa using Arr.new w 371 (uI (fun _=>false))
 case round=>
 obtain⟨k,hk,F,rfl,G,R⟩:=hrel;have HG:=hid F;clear F
 by_cases I:k<a.size
 ·have J:=a[k].toNat_lt;have a0:a[k].toNat<256:=J;have a2:(a[k].toNat:Int)<256:=by omega
  have a1:(a.data.toList.take k).any (fun b=>b.toNat==a[k].toNat)=false:=by
   rw[<-Bool.not_eq_true,List.any_eq_true];rintro⟨b,J,e⟩
   replace e:=beq_iff_eq.1 e
   have e2:b=a[k]:=UInt8.toNat_inj.1 e;subst e2;obtain⟨j,hj,U⟩:=List.getElem_of_mem J;rw[aQ] at hj;rw[List.getElem_take] at U;have p1:=PE M.out (i:=j) (by rw[D.out];omega);have p2:=PE M.out (i:=k) (by rw[D.out];exact I);rw[U] at p1;have p3:a.data.toList[k]'(by rw[D.out];exact I)=a[k]:=by simp;rfl
   rw[p3] at p2;omega
  have a3:=G.cell (i:=a[k].toNat) (by rw[PY _ _ a0,a1]);have a4:=G.free a[k].toNat;have V:=aOb (fun d=>(a.data.toList.take k).any (fun b=>b.toNat==d)) (fun d=>(a.data.toList.take (k+1)).any (fun b=>b.toNat==d)) a[k].toNat true (fun d _=>by
   rw[cG,fW a k I,rD];rw[List.any_append]
   by_cases A:d=a[k].toNat
   ·rw[aB A,A];simp
   ·rw[aA A];have:(a[k].toNat==d)=false:=by(rw[cB];exact fun e=>A e.symm)
    simp[this])
  have Y:=G.set a[k].toNat (.bool true);rw[V] at Y;clear V;go_wp2_with fail;have F:=HG.out
  go_roundg (a.size-(k+1))
  ·exact⟨k+1,by omega,rfl,by go_num,Y,R.setCell (aD _) _⟩
  ·omega
 ·go_wp2_with fail;go_ret;exact⟨rfl,R⟩
structure Tel (w:World) (B C tb g cap:Nat) (l:List UInt8) (pv:Value) (ps:List Int):Prop where
 c0:w.cell? ⟨tb,0,none⟩=some (.slice (some ⟨g,0,none⟩) l.length cap)
 c1:w.cell? ⟨tb,1,none⟩=some pv
 fr:w.frozen? ⟨tb,1,none⟩=false
 by':ByA w g l
 own:OwI w C pv ps
 sep:B<=g/\B<=tb/\tb≠g/\g<C/\tb<C/\C<=w.heap.size
theorem EA (w:World) (row:Option Nat):w.grownBy w row:=⟨rfl,rfl,rfl,aD _,fun _ _ _=>rfl⟩
theorem OwI.kept {w w':World} {B:Nat} {v:Value} {l:List Int} {row:Option Nat} (h:OwI w B v l) (d:w.grownBy w' row) (A:∀b,row=some b->b<B):OwI w' B v l:=by
 refine Ow.kept h d ?_
 cases e:v.ownBlock with
 |none=>exact .inl rfl
 |some k=>
  right
  intro D;have:=A k D.symm;have:=(Ow.lt h k e).1;omega
theorem aOg (w:World) (e:TypeId) (s:ByteArray):Below w.heap.size w (Lib.bytesWorld w e s):=
 ⟨rfl,rfl,rfl,by rw[aLj];omega,fun k d=>Lib.bytesWorld_at_old w e s k d⟩
theorem PZ (w:World) (a:ByteArray) (A:a.size<=1000000):∃cap w',(convert 9 84 (.string a)).run pG w=.ok (.slice (some ⟨w.heap.size,0,none⟩) a.size cap) w'/\a.size<=cap/\cap<=maxLen/\ByA w' w.heap.size a.data.toList/\Below w.heap.size w w'/\w'.heap.size=w.heap.size+1:=by
 refine⟨grownCap w a.size 0 5,Lib.bytesWorld w 5 a,Lib.run_convert_string_bytes w _ _ _ a underlying9 underlying84 underlying5,grownCap_ge _ _ _ _,grownCap_le_maxLen _ _ _ _ (by unfold maxLen;omega),⟨?_,?_,?_⟩,aOg _ _ _,aLj _ _ _⟩
 ·rw[aLj];omega
 ·intro j b d;have e:j<a.size:=by simpa using(eF.1 d).1
  rw[Lib.bytesWorld_cell w _ a j e,bV,d];rfl
 ·intro j d;have e:j<a.size:=by simpa using d
  have D:j<(Lib.bytesCells w 5 a).size:=by
   unfold Lib.bytesCells;rw[Array.size_append,Array.size_map];have:a.data.size=a.size:=rfl;omega
  simp only[World.frozen?,Lib.bytesWorld_at_new];simp;omega
theorem EB {P:fO} {D:Func} {p u:Tmp} {e:TypeId} (h:D.results=#[.cell p e,.tmp u]) (tmps:Array Value) (w:World) (g:Nat) (t:TypeId) (A:Array Value) (F:Nat×Nat) (d:TypeDesc)
  (G:tmps.getD p undef=.pointer (some ⟨g,0,none⟩)) (I:w.heap[g]? =some (.cells A t F))
  (J:P.underlying e=some d) (L:(match d with|.struct _|.array _ _=>true|_=>false)=true) (M:(P.info? e).map (·.size)=some A.size):
  (results D tmps).run P w=.ok (.tuple #[.agg A,tmps.getD u undef]) w:=by
 rw[results_cell_tmp h,G];simp[asAddr,lW,WR w g t e A F d I J L M]
theorem aOk {P:fO} {d:Array Oper} {rest:List Oper} {o:Oper} {a:Act} {Q:Exit->Act->World->Prop} {w:World} {t e A:Nat} {z:Value} (E:ElT P t e A z) (F:o.guard=none) (l c:iF)
  (G:o.op=.makeSlice t l c) (n:Nat) (I:a.eval l=.int .i64 0) (J:a.eval c=.int .i64 (n:Int)) (L:n*A<=140737488355328)
  (h:∀w',Ow w' w.heap.size e (.slice (some ⟨w.heap.size,0,none⟩) 0 n) []->Below w.heap.size w w'->w'.heap.size=w.heap.size+1->wpList P d Q rest (a.put o.dst (.slice (some ⟨w.heap.size,0,none⟩) 0 n)) w'):wpList P d Q (o::rest) a w:=by
 refine yK F fun K M=>?_
 obtain⟨i,O,R,U,Z⟩:=E.info;have V:=E.pos;have hn:n<=140737488355328:=aR (Nat.le_mul_of_pos_right _ V) L;have Y:(i.bytes:Int)*(n:Int)<=281474976710656:=by grind
 have D:=run_make (P:=P) w t e i z E.under O R .i64 .i64 0 (n:Int) (by omega) (by omega) Y (by omega);rw[U,Nat.mul_one,fL,E.cells,show madeCells #[z] n=gW z n from by rw[gW,<-toList_madeCells_one]] at D;unfold nC;simp[execOp,G,I,J,D,lW];exact M _ _ (h _ (World.ownsRow_made w _ n (aD _) (by unfold maxLen;omega) (by simp[gW])) ((aH _ _).alloc (aD _) _) (by simp))
theorem OwB.kept {w w':World} {B:Nat} {v:Value} {l:List UInt8} {row:Option Nat} (h:OwB w B v l) (d:w.grownBy w' row) (A:∀b,row=some b->b<B):OwB w' B v l:=by
 refine Ow.kept h d ?_
 cases e:v.ownBlock with
 |none=>exact .inl rfl
 |some k=>
  right
  intro D;have:=A k D.symm;have:=(Ow.lt h k e).1;omega
theorem aOl (a:ByteArray) (v:Value) (l:List Int) (w:World) (ha:a.size<=1000) (hl:l.length<=1000000) (Z:a.data.toList.Nodup) (hr:RdI w v l) (D:∀x∈l,0<=x/\x<(a.size:Int)):
  Calls pG 233 #[.string a,v] w fun e w'=>e=.returned (.tuple #[.string (mkS (unL a.data.toList l)),.int .i64 0])/\Below w.heap.size w w':=by
 obtain⟨ad,ca,rfl,d8,b4,hA⟩:=hr.open;unfold maxLen at b4;have HN:=hid Z;have HX:=hid D;have a0:=mV a;have b5:=hid a0;clear Z D hr a0;go_enter func233,ntmps233;go_wp2_with fail;refine(aAd a _ (by omega) HN.out).mono ?_;rintro e d ⟨rfl,a1⟩;have b6:=a1.size;go_wp2_with fail;obtain⟨cap,F,b7,b8,b9,c0,c2,a2⟩:=PZ d a (by omega);rw[b7];have c3:=c0.kept (row:=none) (II F (.cells #[.slice (some ⟨d.heap.size,0,none⟩) a.size cap] 381) none) (by simp);have a3:=bX F (.slice (some ⟨d.heap.size,0,none⟩) a.size cap) 381
 have c4:Below w.heap.size w (F.alloc (.cells #[.slice (some ⟨d.heap.size,0,none⟩) a.size cap] 381)):=(a1.trans (c2.mono b6)).alloc (by omega) _;have c5:(F.alloc (.cells #[.slice (some ⟨d.heap.size,0,none⟩) a.size cap] 381)).heap.size=d.heap.size+1+1:=by simp[a2]
 rw[a2] at a3;go_wp2_with (at_make;generalize F.alloc (.cells #[.slice (some ⟨d.heap.size,0,none⟩) a.size cap] 381)=w3 at*;refine aOk yU rfl _ _ rfl l.length rfl rfl (by omega) ?_;intro O a4 R d9);have c6:OwB O (d.heap.size+1+1) (.slice (some ⟨d.heap.size+1+1,0,none⟩) 0 l.length) []:=by rw[c5] at a4;exact a4
 have c7:=c3.below R (by omega);have c8:O.cell? ⟨d.heap.size+1,0,none⟩=some (.slice (some ⟨d.heap.size,0,none⟩) a.size cap):=by
  rw[R.cell (p:=⟨d.heap.size+1,0,none⟩) (by show d.heap.size+1<w3.heap.size;omega)];exact a3
 have c9:Below w.heap.size w O:=c4.trans (R.mono (by omega))
 go_loopg [7,9,21] l.length (fun gh s7 _s9 d0 wr=>∃k:Nat,k<=l.length/\gh=l.length-k/\d0=.int .i64 k/\OwB wr (d.heap.size+1+1) s7 (unL a.data.toList (l.take k))/\ByA wr d.heap.size (unA a.data.toList (l.take k))/\wr.cell? ⟨d.heap.size+1,0,none⟩=some (.slice (some ⟨d.heap.size,0,none⟩) a.size cap)/\Below w.heap.size w wr/\d.heap.size+1+1<=wr.heap.size)
 case atStart=>exact⟨0,aO _,rfl,rfl,by simpa [unL] using c6,by simpa [unA] using c7,c8,c9,by omega⟩
 case round=>
 obtain⟨k,hk,U,rfl,V,a5,d1,I,e0⟩:=hrel;have HG:=hid U;clear U
 by_cases d2:k<l.length
 ·obtain⟨b0,o0,rfl,a6,a7⟩:=hA (by omega);obtain⟨x,D⟩:=eG d2;have c1:=(I.cell (p:=⟨b0,o0+k,none⟩) a6).trans (a7 k x D);have d3:=HX.out x (List.mem_of_getElem? D);obtain⟨i,rfl⟩:∃i:Nat,x=(i:Int):=⟨x.toNat,by omega⟩;obtain⟨A,G⟩:=ex1 (unA a.data.toList (l.take k));have a8:A.length=a.size:=by rw[G,(YM _ _).length_eq];exact b5.out
  have d4:=hid (show(unL a.data.toList (l.take k)).length=k by rw[sL,aQ];omega);have hi:i<A.length:=by omega
  have e1:=hid (show unL a.data.toList (l.take (k+1))=unL a.data.toList (l.take k)++[A[i]] by
   rw[cG,D,rD,PH,<-G];simp[List.getD,aN hi])
  have e2:=hid (show unA a.data.toList (l.take (k+1))=gC A i by
   rw[cG,D,rD,PI,<-G];rfl)
  rw[<-G] at a5;have t1:decide ((i:Int)<0)=false:=aE (by omega);have t2:decide (a.size<=i)=false:=aE (by omega);have t3:decide ((a.size:Int)<=(i:Int))=false:=aE (by omega);have e3:=fB a6 I.size;have Y:=hid a8;clear a7 hA D d3 G a8;go_wp2_with fail;have a9:=aAc d.heap.size cap i A wr a5 hi (by rw[Y.out];exact ha) (by rw[Y.out];exact b8) b9;rw[Y.out] at a9;refine a9.mono ?_;rintro e J ⟨rfl,b1,L⟩;rw[<-e2.out] at b1;have e4:=(A[i]).toNat_lt;have d5:=V.kept L (fun b e=>by simp at e;omega);have b2:=d1
  rw[<-rW (L.block (d.heap.size+1) (by omega) (by simp))] at b2;have d6:Below w.heap.size w J:=I.grown L (by omega) (fun k e=>by simp at e;omega);have e5:=L.size;go_wp2_with (at_builtin;refine DX rfl _ _ rfl (d.heap.size+1+1) _ _ rfl (d5.alloc _) J.heap.size A[i] rfl ?_ ?_ ?_ ?_;(exact bX _ _ _);(rw[d4.out];omega);(simp;omega);intro v' w7 b3 M _);rw[<-e1.out] at b3;have U:=HG.out;have d7:=M.size;simp only[World.size_alloc] at d7
  go_roundg (l.length-(k+1))
  ·
   refine⟨k+1,by omega,rfl,by go_num,b3,?_,?_,(d6.alloc (by omega) _).trans (M.mono (by omega)),by omega⟩
   ·exact(b1.kept (row:=none) (II J _ none) (by simp)).below M (by omega)
   ·rw[M.cell (p:=⟨d.heap.size+1,0,none⟩) (by show d.heap.size+1<d.heap.size+1+1;omega),rW (Below.heap_alloc J _ (d.heap.size+1) (by omega))];exact b2
  ·omega
 ·have e6:k=l.length:=by omega
  rw[cD (by omega)] at V;have e7:=mP V.rd;go_wp2_with fail
  go_ret2
  exact⟨rfl,I⟩
def bI (l:List Bool):List Int:=l.map (fun b=>(b.toNat:Int))
theorem cX (l:List Bool):(bI l).length=l.length:=List.length_map ..
theorem iT (l m:List Bool):bI (l++m)=bI l++bI m:=List.map_append ..
theorem aV4 {l:List Bool} {k:Nat} {b:Bool} (h:l[k]? =some b):(bI l)[k]? =some (b.toNat:Int):=by simp[bI,h]
theorem aV5 (l:List Bool) (k:Nat):(bI l).take k=bI (l.take k):=List.map_take.symm
theorem aV6 (s:List UInt8) (k:Nat) (h:k<8*s.length):(eR s).take (k+1)=(eR s).take k++[dO s k]:=by
 rw[cG,wA,aB h];rfl
theorem aEb (v n k:Nat) (h:k<n):(aT v n).take (k+1)=(aT v n).take k++[v.testBit (n-1-k)]:=by
 rw[cG,KI _ _ _ h];rfl
theorem aEc (s:ByteArray) (i:Nat) (w:World) (F:i<8*s.size) (G:s.size<=140737488355328):
  Calls pG 75 #[.string s,.int .i64 (i:Int)] w fun e w'=>e=.returned (.int .i64 ((dO s.data.toList i).toNat:Int))/\w'=w:=by
 have d:i/8<s.size:=by omega
 have I:(i:Int).tdiv 8=((i/8:Nat):Int):=by rw[IK (by omega)];omega
 have J:(i:Int).tmod 8=((i%8:Nat):Int):=by rw[mL (by omega)];omega
 have L:aJ.wrap (7-((i%8:Nat):Int))=((7-i%8:Nat):Int):=by rw[aM];omega
 have A:=fW s (i/8) d;have M:=FA s[i/8].toNat (7-i%8);have D:dO s.data.toList i=s[i/8].toNat.testBit (7-i%8):=by unfold dO;rw[bV,A];rfl
 rw[D];have O:=s[i/8].toNat_lt;go_enter func75,ntmps75;go_wp2_with fail;go_ret;exact⟨rfl,rfl⟩
theorem aEd (s:ByteArray) (w:World) (Z:s.size<=1000000):
  Calls pG 29 #[.string s] w fun e w'=>∃v,e=.returned v/\OwI w' w.heap.size v (bI (eR s.data.toList))/\Below w.heap.size w w':=by
 have A:=hid (mV s);go_enter func29,ntmps29;go_wp2_with fail
 go_loopg [3,4] (8*s.size) (fun g J L wr=>∃k:Nat,k<=8*s.size/\g=8*s.size-k/\L=.int .i64 k/\OwI wr w.heap.size J (bI ((eR s.data.toList).take k))/\Below w.heap.size w wr)
 case atStart=>exact⟨0,aO _,rfl,rfl,OwI.nil _ _,aH _ _⟩
 case round=>
  obtain⟨k,hk,D,rfl,F,d⟩:=hrel;have M:=hid D;clear D;have m1:aJ.wrap (8*(s.size:Int))=8*(s.size:Int):=by rw[aM];omega
  by_cases G:k<8*s.size
  ·have O:decide ((k:Int)<8*(s.size:Int))=true:=aG (by omega);have R:(bI ((eR s.data.toList).take k)).length=k:=by rw[cX,aQ,qU,A.out];omega
   have a0:=d.size;have U:=hid (aV6 s.data.toList k (by rw[A.out];exact G));go_wp2_with fail;refine(aEc s k _ G (by omega)).mono ?_;rintro e I ⟨rfl,rfl⟩;go_wp2_with (at_builtin;refine gK rfl _ _ rfl w.heap.size _ _ rfl (F.alloc _) I.heap.size ((dO s.data.toList k).toNat:Int) rfl ?_ ?_ ?_ ?_;(exact bX _ _ _);(rw[R];omega);(simp;omega);intro v' I V Y a1);have D:=M.out
   go_roundg (8*s.size-(k+1))
   ·
    refine⟨k+1,by omega,rfl,by go_num,?_,(d.alloc d.size _).trans Y⟩;rw[U.out,iT];exact V
   ·omega
  ·have O:decide ((k:Int)<8*(s.size:Int))=false:=aE (by omega);go_wp2_with fail;go_ret;refine⟨_,rfl,?_,d⟩;rw[cD (by rw[qU,A.out];omega)] at F;exact F
theorem wK (v n:Nat) (w:World) (_hv:v<18446744073709551616) (hn:n<=64):
  Calls pG 28 #[.int .u64 (v:Int),.int .i64 (n:Int)] w fun e w'=>∃u,e=.returned u/\OwI w' w.heap.size u (bI (aT v n))/\Below w.heap.size w w':=by
 go_enter func28,ntmps28;go_wp2_with fail;have m1:aJ.wrap ((n:Int)-1)=(n:Int)-1:=by rw[aM];omega
 go_loopg [5,6] n (fun g I J wr=>∃k:Nat,k<=n/\g=n-k/\J=.int .i64 ((n:Int)-1-(k:Int))/\OwI wr w.heap.size I (bI ((aT v n).take k))/\Below w.heap.size w wr)
 case atStart=>exact⟨0,aO _,rfl,by go_num,OwI.nil _ _,aH _ _⟩
 case round=>
  obtain⟨k,hk,D,rfl,F,d⟩:=hrel;have L:=hid D;clear D
  by_cases M:k<n
  ·have O:decide ((n:Int)-1-(k:Int)>=0)=true:=aG (by omega);have R:decide (0<=(n:Int)-1-(k:Int))=true:=aG (by omega);obtain⟨j,A⟩:∃j:Nat,j=n-1-k:=⟨_,rfl⟩;have G:(n:Int)-1-(k:Int)=(j:Int):=by omega
   have U:(bI ((aT v n).take k)).length=k:=by rw[cX,aQ,dV];omega
   have a0:=d.size;have V:=hid (aEb v n k M);have e4:=FA v j;have eb:((v.testBit j).toNat:Int)<2:=by cases v.testBit j<;>decide
   have e6:wrap64 ((v.testBit j).toNat:Int)=((v.testBit j).toNat:Int):=by unfold wrap64;omega
   rw[G];have e7:min j 64=j:=by omega
   have Y:=hid A;clear A G;go_wp2_with (at_builtin;refine gK rfl _ _ rfl w.heap.size _ _ rfl (F.alloc _) wr.heap.size ((v.testBit j).toNat:Int) rfl ?_ ?_ ?_ ?_;(exact bX _ _ _);(rw[U];omega);(simp;omega);intro v' w1 Z hB a1);have D:=L.out
   go_roundg (n-(k+1))
   ·
    have A:=Y.out;refine⟨k+1,by omega,rfl,by go_num,?_,(d.alloc d.size _).trans hB⟩;rw[V.out,iT,<-A];exact Z
   ·omega
  ·have O:decide ((n:Int)-1-(k:Int)>=0)=false:=aE (by omega);have R:decide (0<=(n:Int)-1-(k:Int))=false:=aE (by omega);go_wp2_with fail;go_ret;refine⟨_,rfl,?_,d⟩;rw[cD (by rw[dV];omega)] at F;exact F
theorem aEe {s:List UInt8} {a k:Nat} (h:a+k<8*s.length):seg s a (k+1)=seg s a k++[dO s (a+k)]:=by grind [seg,cG,wA,dO]
theorem aEf (s:List UInt8) (a:Nat):seg s a 0=[]:=by simp[seg]
def xU (b:Bool):Nat:=if b then 128 else 0
theorem SV (s:ByteArray) (i:Nat) (w:World) (O:i<8*s.size) (R:s.size<=140737488355328):
  Calls pG 168 #[.string s,.int .i64 (i:Int)] w fun e w'=>e=.returned (.int .u8 (xU (dO s.data.toList i):Nat))/\w'=w:=by
 have J:i/8<s.size:=by omega
 have U:(i:Int).tdiv 8=((i/8:Nat):Int):=by rw[IK (by omega)];omega
 have L:(i:Int).tmod 8=((i%8:Nat):Int):=by rw[mL (by omega)];omega
 have d:=fW s (i/8) J;have M:=s[i/8].toNat_lt;have A:i%8<8:=Nat.mod_lt _ (by decide);have D:=aV3 s[i/8].toNat (i%8) M A;have F:dO s.data.toList i=s[i/8].toNat.testBit (7-i%8):=by unfold dO;rw[bV,d];rfl
 have G:((xU (dO s.data.toList i):Nat):Int)=if s[i/8].toNat.testBit (7-i%8)=true then 128 else 0:=by rw[F];unfold xU;split<;>rfl
 rw[sG,<-G] at D;clear F G d;generalize xU (dO s.data.toList i)=t at*
 obtain⟨k,I⟩:=ex1 (i%8);rw[<-I] at L D A;clear I;have V:min k 8=k:=by omega
 go_enter func168,ntmps168;go_wp2_with fail;go_ret;exact⟨rfl,rfl⟩
theorem uQ (s:ByteArray) (p:Int) (n:Nat) (w:World) (hs:s.size<=1000000) (hn:n<=64) (a6: -9223372036854775808<=p) (a7:p<=9223372036854775807):
  Calls pG 149 #[.string s,.int .i64 p,.int .i64 (n:Int)] w fun e w'=>e=.returned (.tuple #[.int .u64 (aK s.data.toList p n:Nat),.int .i64 (aP s.size p n)])/\w'=w:=by
 have F:=mV s;have n1:decide ((n:Int)<0)=false:=aE (by omega);have n2:decide ((n:Int)>64)=false:=aE (by omega);have n3:decide (64<(n:Int))=false:=aE (by omega);have m1:aJ.wrap (8*(s.size:Int))=8*(s.size:Int):=by rw[aM];omega
 have m2:aJ.wrap (8*(s.size:Int)-(n:Int))=8*(s.size:Int)-(n:Int):=by rw[aM];omega
 by_cases I:p<0
 ·have A:aP s.size p n=1:=by unfold aP;rw[aB I]
  have D:aK s.data.toList p n=0:=by unfold aK;rw[F,A,aA (by decide)]
  rw[A,D];have t1:decide (p<0)=true:=aG I;clear F A D;go_enter func149,ntmps149;go_wp2_with fail
  go_ret2
  exact⟨rfl,rfl⟩
 ·have t1:decide (p<0)=false:=aE I
  by_cases G:8*(s.size:Int)-(n:Int)<p
  ·have A:aP s.size p n=2:=by unfold aP;rw[aA I,aB G]
   have D:aK s.data.toList p n=0:=by unfold aK;rw[F,A,aA (by decide)]
   rw[A,D];have t2:decide (8*(s.size:Int)-(n:Int)<p)=true:=aG G;have t3:decide (p>8*(s.size:Int)-(n:Int))=true:=aG G;clear F A D;go_enter func149,ntmps149;go_wp2_with fail
   go_ret2
   exact⟨rfl,rfl⟩
  ·have A:aP s.size p n=0:=by unfold aP;rw[aA I,aA G]
   obtain⟨a,rfl⟩:∃a:Nat,p=(a:Int):=⟨p.toNat,by omega⟩;have a8:a+n<=8*s.size:=by omega
   have D:aK s.data.toList (a:Int) n=dG (seg s.data.toList a n):=by unfold aK;rw[F,A,aB rfl,fL]
   rw[A,D];have t2:decide (8*(s.size:Int)-(n:Int)<(a:Int))=false:=aE G;have t3:decide ((a:Int)>8*(s.size:Int)-(n:Int))=false:=aE G;have Y:=hid F;clear F A D G;go_enter func149,ntmps149;go_wp2_with fail
   go_loopg [6,8,29] n (fun g s8 _s x9 wr=>∃k v:Nat,k<=n/\g=n-k/\x9=.int .i64 (k:Int)/\s8=.int .u64 (v:Int)/\v=dG (seg s.data.toList a k)/\wr=w)
   case atStart=>exact⟨0,0,by omega,rfl,rfl,rfl,by rw[aEf];rfl,rfl⟩
   case round=>
    obtain⟨k,v,hk,M,rfl,rfl,J,rfl⟩:=hrel;have HG:=hid M;clear M
    by_cases a9:k<n
    ·have t4:decide ((k:Int)<(n:Int))=true:=aG (by omega);have Z:=wC (seg s.data.toList a k);rw[BT (by rw[Y.out];omega),<-J] at Z;have h2:2^k<=2^63:=nF (by decide) (by omega);have a0:(2:Nat)^63=9223372036854775808:=by decide
     rw[a0] at h2;have a3:v<9223372036854775808:=by omega
     clear a0 h2 Z;have a1:=aEe (s:=s.data.toList) (a:=a) (k:=k) (by rw[Y.out];omega);obtain⟨q,hq⟩:∃q:Nat,q=a+k:=⟨_,rfl⟩;obtain⟨b,L⟩:∃b:Nat,b=(dO s.data.toList q).toNat:=⟨_,rfl⟩;have b0:b<2:=by rw[L];cases dO s.data.toList q<;>decide
     have O:=hid (show 2*v+b=dG (seg s.data.toList a (k+1)) by rw[a1,wB,<-J,<-hq,<-L]);have a4:q<8*s.size:=by omega
     have m3:aJ.wrap ((a:Int)+(k:Int))=(q:Int):=by rw[aM];omega
     obtain⟨d,R⟩:∃d:Nat,d=2*v:=⟨_,rfl⟩;have m4:eZ.wrap ((v:Int)*2)=(d:Int):=by rw[fC];omega
     have m5:eZ.wrap (b:Int)=(b:Int):=by rw[fC];omega
     obtain⟨t,U⟩:∃t:Nat,t=xU (dO s.data.toList q):=⟨_,rfl⟩;have m7:(t:Int)/128=(b:Int):=by rw[U,L];cases dO s.data.toList q<;>rfl
     have HT:=hid U;obtain⟨v2,V⟩:∃v2:Nat,v2=d+b:=⟨_,rfl⟩;have m6:bits .or .u64 (d:Int) (b:Int)=(v2:Int):=by
      have:=SU v (dO s.data.toList q) (by omega);rw[m4,<-L] at this;rw[this,V,R]
     have a5:=hid (show v2=dG (seg s.data.toList a (k+1)) by rw[<-O.out,V,R]);clear a1 J hq L R V a3 U;go_wp2_with fail;refine(SV s q _ a4 (by omega)).mono ?_;rintro e w1 ⟨rfl,rfl⟩;rw[<-HT.out];go_wp2_with fail;have M:=HG.out
     go_roundg (n-(k+1))
     ·exact⟨k+1,v2,by omega,rfl,by go_num,rfl,a5.out,rfl⟩
     ·omega
    ·have t4:decide ((k:Int)<(n:Int))=false:=aE (by omega);have a2:k=n:=by omega
     have O:=hid (show(v:Int)=((dG (seg s.data.toList a n):Nat):Int) by rw[J,a2]);clear J a2;go_wp2_with fail
     go_ret2
     exact⟨by rw[O.out];rfl,rfl⟩
def uR (l:List Bool):Nat->Nat
 |0=>0
 |k+1=>2*uR l k+(l.getD k false).toNat
theorem aEg (l:List Bool):∀k,uR l k<2^k
 |0=>by simp[uR]
 |k+1=>by
  have:=aEg l k;have d:(l.getD k false).toNat<2:=by cases l.getD k false<;>decide
  grind [uR]
theorem aV7 (l:List Bool):uR l 8=xN l:=rfl
theorem aV8 (l:List Bool) (j:Nat) (h:j<(l.length+7)/8):(aI l).take (j+1)=(aI l).take j++[zG (l.drop (8*j))]:=by grind [cG,aI,List.getElem?_range,zG]
theorem FB {e:Array Oper} {rest:List Oper} {o:Oper} {a:Act} {Q:Exit->Act->World->Prop} {w:World} (A:o.guard=none) (s x:iF)
  (D:o.op=.call {callee:=.builtin .append,args:=#[s,x],argTypes:=#[84,84]}) (base:Nat) (v:Value) (l:List UInt8) (hs:a.eval s=v) (hown:OwB w base v l)
  (g:Nat) (b:UInt8) (hx:a.eval x=.slice (some ⟨g,0,none⟩) 1 1) (hc:w.cell? ⟨g,0,none⟩=some (.int .u8 (b.toNat:Int))) (hroom:(l.length+1)*1<=140737488355328) (hbase:base<=w.heap.size)
  (h:∀d w',OwB w' base d (l++[b])->Below base w w'->w.grownBy w' v.ownBlock->wpList pG e Q rest (a.put o.dst d) w'):wpList pG e Q (o::rest) a w:=
 tM yU A s x D base v _ hs hown g _ hx hc rfl (by simpa using hroom) hbase (fun d w' F G I=>h d w' (by unfold OwB;rw[IY];exact F) G I)
theorem rQ:(pG.info? 69).map (·.size)=some 2:=by kernel_rfl
theorem CF (v:Value) (l:List Bool) (w:World) (hr:RdI w v (bI l)) (hl:l.length<=1000000):
  Calls pG 31 #[v] w fun e w'=>e=.returned (.agg #[.string (mkS (aI l)),.int .i64 (l.length:Int)])/\Below w.heap.size w w':=by
 obtain⟨a,ca,rfl,a6,a7,U⟩:=hr.open;rw[cX] at a6 U;simp only[cX];unfold maxLen at a7;clear hr;have HA:=hid U;clear U;go_enter func31,ntmps31;go_wp2_with fail;have hR:=Arr.new w 69 [.string {data:=#[]},.int .i64 0];have a8:Below w.heap.size w (w.alloc (.cells #[.string {data:=#[]},.int .i64 0] 69)):=bD (aH _ _) _;change Arr (w.alloc (.cells #[.string {data:=#[]},.int .i64 0] 69)) _ _ _ at hR;generalize w.alloc (.cells #[.string {data:=#[]},.int .i64 0] 69)=w0 at*
 go_loopg [3,4,5,6] ((l.length+7)/8) (fun g s3 s4 _s5 _s6 wr=>∃j i:Nat,i=8*j/\j<=(l.length+7)/8/\g=(l.length+7)/8-j/\s4=.int .i64 (i:Int)/\OwB wr (w.heap.size+1) s3 ((aI l).take j)/\Arr wr w.heap.size 69 [.string {data:=#[]},.int .i64 0]/\Below w.heap.size w wr)
 case atStart=>exact⟨0,0,rfl,aO _,rfl,rfl,Ow.nil _ _ _,hR,a8⟩
 case round=>
  obtain⟨j,i,G,hj,V,rfl,Y,A,I⟩:=hrel;have HG:=hid V;clear V;have b4:=I.size;have b5:=A.lt;have Z:((aI l).take j).length=j:=by rw[aQ,iJ];omega
  have HS:=hid (aV8 l j);obtain⟨L,hL⟩:=ex1 (l.drop i);have HL:=hid hL;have HI:=hid G;have a9:=hid Z
  by_cases b6:i<l.length
  ·have t1:decide ((i:Int)<(l.length:Int))=true:=aG (by omega);clear hL G Z;go_wp2_with fail
   go_loopg [5,6] 8 (fun g s5 s6 wx=>∃k n:Nat,n=uR L k/\k<=8/\g=8-k/\s6=.int .i64 (k:Int)/\s5=.int .i64 (n:Int)/\wx=wr)
   case atStart=>exact⟨0,0,rfl,by omega,rfl,rfl,rfl,rfl⟩
   case round=>
    obtain⟨k,n,hn,hk,J,rfl,rfl,rfl⟩:=hrel;have a0:=hid J;clear J;have a1:=aEg L k;rw[<-hn] at a1;have hp:2^k<=256:=aR (nF (by decide) hk) (by decide);have b7:n<256:=by omega
    have HN:=hid hn;clear hn a1 hp
    by_cases b8:k<8
    ·have t2:decide ((k:Int)<8)=true:=aG (by omega);obtain⟨d,M⟩:∃d:Nat,d=2*n:=⟨_,rfl⟩;obtain⟨q,O⟩:∃q:Nat,q=i+k:=⟨_,rfl⟩;have b9:q<2000000:=by omega
     have hs:=hid (show uR L (k+1)=2*uR L k+(L.getD k false).toNat from rfl)
     by_cases b0:q<l.length
     ·have t3:decide ((q:Int)<(l.length:Int))=true:=aG (by omega);obtain⟨b1,o1,rfl,b2,a2⟩:=HA.out (by omega);have a3:(bI l)[q]? =some ((L.getD k false).toNat:Int):=by
       refine aV4 ?_;rw[HL.out,bV,jR,<-O,aN b0];rfl
      have c1:wr.cell? ⟨b1,o1+q,none⟩=some (.int .i64 ((L.getD k false).toNat:Int)):=by rw[I.cell (p:=⟨b1,o1+q,none⟩) b2];exact a2 _ _ a3
      obtain⟨D,R⟩:∃D:Nat,D=(L.getD k false).toNat:=⟨_,rfl⟩;have c0:D<2:=by rw[R];cases L.getD k false<;>decide
      rw[<-R] at c1;obtain⟨F,a4⟩:∃F:Nat,F=d+D:=⟨_,rfl⟩;have m1:aJ.wrap (2*(n:Int))=(d:Int):=by rw[aM];omega
      have m2:aJ.wrap ((i:Int)+(k:Int))=(q:Int):=by rw[aM];omega
      have m3:aJ.wrap ((d:Int)+(D:Int))=(F:Int):=by rw[aM];omega
      have HE:=hid (show F=uR L (k+1) by rw[hs.out,<-HN.out,<-R,a4,M]);clear a2 a3 R a4 M O;go_wp2_with fail;have J:=a0.out
      go_roundg (8-(k+1))
      ·exact⟨k+1,F,HE.out,by omega,rfl,by go_num,rfl,rfl⟩
      ·omega
     ·have t3:decide ((q:Int)<(l.length:Int))=false:=aE (by omega);have HE:=hid (show d=uR L (k+1) by
       rw[hs.out,<-HN.out,HL.out,bV,jR,<-O,List.getElem?_eq_none (by omega),M];rfl)
      have m1:aJ.wrap (2*(n:Int))=(d:Int):=by rw[aM];omega
      have m2:aJ.wrap ((i:Int)+(k:Int))=(q:Int):=by rw[aM];omega
      clear M O;go_wp2_with fail;have J:=a0.out
      go_roundg (8-(k+1))
      ·exact⟨k+1,d,HE.out,by omega,rfl,by go_num,rfl,rfl⟩
      ·omega
    ·have t2:decide ((k:Int)<8)=false:=aE (by omega);have m4:IntKind.u8.wrap (n:Int)=(n:Int):=by rw[sG];omega
     have hv:zG (l.drop (8*j))=eA n:=by
      unfold zG;rw[<-HI.out,<-HL.out,<-aV7,<-show k=8 by omega,<-HN.out]
     have e1:((eA n).toNat:Int)=(n:Int):=by rw[UInt8.toNat_ofNat',Nat.mod_eq_of_lt (by omega)]
     have HV:=hid hv;clear hv;go_wp2_with (at_builtin;refine FB rfl _ _ rfl (w.heap.size+1) _ _ rfl (Ow.alloc Y _) wr.heap.size (eA n) rfl ?_ ?_ ?_ ?_;(rw[e1];exact bX _ _ _);(rw[a9.out];omega);(simp;omega);intro v' w3 b3 hB c2);have V:=HG.out;have G:=HI.out
     go_roundg ((l.length+7)/8-(j+1))
     ·
      refine⟨j+1,i+8,by omega,by omega,rfl,by go_num,?_,(A.alloc _).below hB (Nat.lt_succ_self _),(bD I _).trans (hB.mono (by omega))⟩;rw[HS.out (by omega),HV.out];exact b3
     ·omega
  ·have t1:decide ((i:Int)<(l.length:Int))=false:=aE (by omega);have a5:(aI l).take j=aI l:=cD (by rw[iJ];omega);rw[a5] at Y;clear a5 Z hL G;have c3:=mP Y.rd;have r0:=A.free 0;have r1:=A.free 1;have r2:=A.cell (i:=0) rfl;have r3:=A.cell (i:=1) rfl;go_wp2_with fail;refine bodyPost_ret (results_cell_row rfl _ _ w.heap.size _ _ (0,0) _ rfl ((A.set 0 _).set 1 _) underlying69 rfl rQ) rfl ?_;exact⟨rfl,(I.setCell (p:=⟨w.heap.size,0,none⟩) (aD _) _).setCell (p:=⟨w.heap.size,1,none⟩) (aD _) _⟩
def WrS (w:World) (p B:Nat) (l:List Bool):Prop:=∃v,Arr w p 999983 [v,.int .i64 (l.length:Int)]/\OwB w B v (aI l)
theorem OwB.open {w:World} {B:Nat} {v:Value} {l:List UInt8} (h:OwB w B v l):∃a c,v=.slice a l.length c/\l.length<=c/\c<=maxLen:=by
 have d:=h.rd;obtain⟨a,c,e,A,D,_⟩:=d
 grind
theorem OwB.openN {w:World} {B:Nat} {v:Value} {l:List UInt8} (h:OwB w B v l):∃a n c,v=.slice a n c/\Hid (n=l.length)/\n<=c/\c<=maxLen:=by
 obtain⟨a,c,e,d,A⟩:=h.open
 grind [hid,OwB]
end
section
open Go.RowKit Go
theorem SW (v j:Nat) (d:v<18446744073709551616):bits .and .u64 ((v:Int)/2^j) 1=((v.testBit j).toNat:Int):=by
 rw[CE,show(1:Int)=((1:Nat):Int) from rfl,u64_and_nat _ _ (Nat.lt_of_le_of_lt (Nat.div_le_self _ _) d) (by decide),nat_mask1,aEa]
theorem LR {x:Int} (d: -9223372036854775808<=x) (e:x<=9223372036854775807):wrap64 x=x:=by unfold wrap64;omega
theorem WrS.below {w w':World} {p B:Nat} {l:List Bool} (h:WrS w p B l) (d:Below w.heap.size w w'):WrS w' p B l:=by
 obtain⟨v,e,A⟩:=h;exact⟨v,e.below d e.lt,Ow.below A d (aD _)⟩
theorem WrS.alloc {w:World} {p B:Nat} {l:List Bool} (h:WrS w p B l) (o:Obj):WrS (w.alloc o) p B l:=by
 obtain⟨v,d,e⟩:=h;exact⟨v,d.alloc o,Ow.alloc e o⟩
theorem WrS.lt {w:World} {p B:Nat} {l:List Bool} (h:WrS w p B l):p<w.heap.size:=by
 obtain⟨v,d,_⟩:=h;exact d.lt
end
section
open Go.RowKit Go Go.Shelf
def fT (l:List Bool):Value:=.agg #[.string (mkS (aI l)),.int .i64 (l.length:Int)]
theorem uS {P:fO} {D:Func} {p u:Tmp} {e:TypeId} (h:D.results=#[.cell p e,.tmp u]) (tmps:Array Value) (w:World) (g:Nat) (t:TypeId) (A:Array Value) (F:Nat×Nat) (d:TypeDesc)
  (G:tmps.getD p undef=.pointer (some ⟨g,0,none⟩)) (I:w.heap[g]? =some (.cells A t F))
  (J:P.underlying e=some d) (L:(match d with|.struct _|.array _ _=>true|_=>false)=true) (M:(P.info? e).map (·.size)=some A.size):
  (results D tmps).run P w=.ok (.tuple #[.agg A,tmps.getD u undef]) w:=by
 rw[results_cell_tmp h,G];simp[asAddr,lW,WR w g t e A F d I J L M]
def xV (w:World) (v:Value) (d:List (List Bool)):Prop:=
 ∃a cap,v=.slice a d.length cap/\d.length<=cap/\cap<=maxLen/\
  (0<d.length->∃b off,a=some ⟨b,off,none⟩/\b<w.heap.size/\∀j l,d[j]? =some l->w.cell? ⟨b,off+j*2,none⟩=some (.string (mkS (aI l)))/\w.cell? ⟨b,off+j*2+1,none⟩=some (.int .i64 (l.length:Int)))
theorem xV.below {w w':World} {v:Value} {l:List (List Bool)} (h:xV w v l) (d:Below w.heap.size w w'):xV w' v l:=by
 obtain⟨a,cap,rfl,e,A,D⟩:=h;refine⟨a,cap,rfl,e,A,fun h=>?_⟩;obtain⟨b,off,rfl,F,G⟩:=D h;exact⟨b,off,rfl,fB F d.size,fun j p I=>by grind [pJ,xV]⟩
end
end Go.Proofs.YtfckbfofgeilgaaGreatDoor
