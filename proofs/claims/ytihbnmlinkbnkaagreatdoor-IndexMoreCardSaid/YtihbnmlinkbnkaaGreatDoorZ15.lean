/-
  Texts put together (part 15): the walks and the plain laws on which the statement stands.
-/
import Derived.Deep.Cut
import Derived.Laws.IdiomCopy
import Derived.Lib.BytesEntry
import Derived.Lib.ConvBytes
import Derived.Test.YtihbnmlinkbnkaaGreatDoorZ10
import Derived.Test.YtihbnmlinkbnkaaGreatDoorZ11
set_option maxRecDepth 100000
set_option maxHeartbeats 12800000
set_option linter.unusedVariables false
set_option linter.unusedSimpArgs false
open Go.Proofs.Tryz
open Go.Proofs.Tryz renaming prog->pG
open Go renaming Operand->iF,heap_setCell_other->kF
open Go.Addr renaming add->gP
open Go.Calls renaming quiet_of->WV
open Go.Instr renaming sliceAt->vN
open Go.IntKind renaming i64->aJ,wrap_i64->aM
open Go.Op renaming bytesLess->sF
open Go.Oper renaming wp->nC
open Go.Region renaming wanted->qL
open Go.Result renaming andThen->lW
open Go.RowKit.Below renaming refl->aH
open Go.Value renaming int->bQ
open Go.World renaming cell?_of_block->rW,cell?_setCells_out->bGb,grownBy_alloc->II
open List renaming append_assoc->bU,drop_eq_getElem_cons->pF,drop_of_length_le->sB,getD->jD,getElem?_append_left->nE,getElem?_append_right->rY,getElem?_concat_length->IV,getElem?_drop->jR,getElem?_eq_getElem->aN,getElem?_eq_some_iff->eF,getElem?_map->eQ,getElem?_take_of_lt->pW,length_append->aL,length_cons->aU,length_drop->bA,length_eraseIdx->XP,length_map->aS,length_nil->aV,length_take->aQ,mem_map->eK,take_add_one->cG
open Nat renaming eq_zero_or_pos->jE,le_refl->aD,le_trans->aR,lt_of_lt_of_le->fB,zero_le->aO
open Option renaming toList_some->rD
namespace Go.Proofs.YtihbnmlinkbnkaaGreatDoor
section
open Go.RowKit
def ByA (w:World) (g:Nat) (l:List UInt8):Prop:=g<w.heap.size/\(∀j b,l[j]? =some b->w.cell? ⟨g,j,none⟩=some (.int .u8 (b.toNat:Int)))/\∀j,j<l.length->w.frozen? ⟨g,j,none⟩=false
theorem ByA.kept {w w':World} {g:Nat} {l:List UInt8} {row:Option Nat} (h:ByA w g l) (d:w.grownBy w' row) (F:some g≠row):ByA w' g l:=
 ⟨fB h.1 d.size,fun j b A=>by rw[rW (d.block g h.1 F)];exact h.2.1 j b A,fun j A=>by rw[World.frozen?_of_block (d.block g h.1 F)];exact h.2.2 j A⟩
theorem ByA.below {w w':World} {B g:Nat} {l:List UInt8} (h:ByA w g l) (d:Below B w w') (F:g<B):ByA w' g l:=
 ⟨fB h.1 d.size,fun j b A=>by rw[d.cell (p:=⟨g,j,none⟩) F];exact h.2.1 j b A,fun j A=>by rw[d.frozen (p:=⟨g,j,none⟩) F];exact h.2.2 j A⟩
theorem ByA.set {w:World} {g:Nat} {l:List UInt8} (h:ByA w g l) (i:Nat) (b:UInt8):ByA (w.setCell ⟨g,i,none⟩ (.int .u8 (b.toNat:Int))) g (l.set i b):=by
 refine⟨by simpa using h.1,fun j c d=>?_,fun j d=>by rw[World.frozen?_setCell];exact h.2.2 j (by simpa using d)⟩;obtain⟨A,F⟩:=eF.1 d;rw[List.length_set] at A
 by_cases e:i=j
 ·subst e;rw[List.getElem_set_self] at F;subst F;exact World.cell?_setCell_same _ _ _ (h.2.1 i _ (aN A))
 ·rw[World.cell?_setCell_other _ _ _ _ (fun G=>e (by grind))]
  grind [ByA]
theorem ZY:(pG.info? 5).map (·.size)=some 1:=by kernel_rfl
theorem ZZ {M:Array Oper} {rest:List Oper} {o:Oper} {a:Act} {Q:Exit->Act->World->Prop} {w:World} (a2:o.guard=none) (d s:iF)
  (O:o.op=.call {callee:=.builtin .copy,args:=#[d,s],argTypes:=#[48,48]}) (g:Nat) (l:List UInt8) (i:Nat) (hA:ByA w g l) (hi:i<l.length)
  (dp:Option Addr) (dLen dCap sCap:Nat) (hd:a.eval d=.slice dp dLen dCap) (hs:a.eval s=.slice (some ⟨g,0,none⟩) i sCap) (hdl:dLen=l.length-1) (hdp:1<l.length->dp=some ⟨g,1,none⟩)
  (h:∀w',ByA w' g (l.take 1++l.take i++l.drop (i+1))->w.grownBy w' (some g)->wpList pG M Q rest (a.put o.dst (goInt i)) w'):
  wpList pG M Q (o::rest) a w:=by
 refine wpList_plain a2 fun K hK=>?_
 replace h:=fun w' q1 q2=>hK _ _ (h w' q1 q2)
 rcases jE i with U|U
 ·subst U;have I:=run_copy_none (P:=pG) w 48 48 o.type 5 dp (some ⟨g,0,none⟩) dLen dCap 0 sCap underlying48 ZY (Nat.zero_min _);unfold nC;simp[execOp,O,resolve,invoke,builtin,hd,hs,I,lW];refine h w ?_ ⟨rfl,rfl,rfl,aD _,fun _ _ _=>rfl⟩;rw[List.take_zero,List.append_nil,List.take_append_drop];exact hA
 ·have a3:=hdp (by omega);subst a3;have F:(l.take i).length=i:=by rw[aQ];omega
  have I:=run_copy_cells (P:=pG) w 48 48 o.type 5 g 1 dLen dCap ⟨g,0,none⟩ i sCap (fG (l.take i)) underlying48 ZY (by rw[vO,F];exact(Nat.min_eq_left (by omega)).symm)
   (fun j v A=>by
    unfold fG at A;rw[eQ] at A
    cases G:(l.take i)[j]? with
    |none=>rw[G] at A;simp at A
    |some b=>
     rw[G] at A;simp at A;subst A;have e:(⟨g,0,none⟩:Addr).add j=⟨g,j,none⟩:=by unfold gP;split<;>simp_all
     rw[e];have a4:j<i:=by have:=(eF.1 G).1;omega
     rw[pW a4] at G;exact hA.2.1 j b G)
   (fun j A=>by
    rw[vO,F] at A;rw[hA.2.1 (1+j) _ (aN (by omega))];rfl)
   (fun j A=>by rw[vO,F] at A;exact hA.2.2 (1+j) (by omega))
   (fun v hv=>by obtain⟨b,_,rfl⟩:=eK.1 hv;rfl)
  rw[vO,F] at I;unfold nC;simp[execOp,O,resolve,invoke,builtin,hd,hs,I,lW];have V:∀(J:List Value) (o:Nat) (w:World),w.grownBy (w.setCells g o J) (some g):=by
   intro J
   induction J with
   |nil=>intro o w;exact⟨rfl,rfl,rfl,aD _,fun _ _ _=>rfl⟩
   |cons v J ih=>
    intro o w;have H:=ih (o+1) (w.setCell ⟨g,o,none⟩ v);refine⟨H.os,H.tape,H.output,aR (by simp) H.size,fun k L Z=>?_⟩;rw[World.setCells,H.block k (by simpa using L) Z];exact kF _ _ _ _ (fun e=>Z (by rw[e]))
  have a5:(l.take 1++l.take i++l.drop (i+1)).length=l.length:=by simp only[aL,aQ,bA];omega
  refine h _ ⟨fB hA.1 (V _ _ _).size,fun j b A=>?_,fun j A=>?_⟩ (V _ _ _)
  ·rcases jE j with j0|j0
   ·subst j0;rw[bGb g _ _ _ _ (fun _ _=>.inl (by simp))];refine hA.2.1 0 b ?_;rw[<-A,bU,nE (by rw[aQ];omega),pW (by omega)]
   ·rcases Nat.lt_or_ge j (i+1) with q|q
    ·have a0:j-1<(fG (l.take i)).length:=by rw[vO,F];omega
     have a1:=World.cell?_setCells_in g (fG (l.take i)) 1 w (fun k L=>by
      rw[vO,F] at L;rw[hA.2.1 (1+k) _ (aN (by omega))];rfl) (j-1) a0
     rw[show 1+(j-1)=j by omega] at a1;rw[a1];have e:(l.take i)[j-1]? =some b:=by
      rw[<-A,bU,rY (by rw[aQ];omega),aQ,show min 1 l.length=1 by omega,nE (by rw[F];omega)]
     have:=IZ e;rw[aN a0] at this;exact this
    ·rw[bGb g _ _ _ _ (fun _ _=>.inr (by rw[vO,F];simp;omega))];refine hA.2.1 j b ?_;have e3:i+1+(j-(l.take 1++l.take i).length)=j:=by simp only[aL,aQ];omega
     rw[<-A,rY (by simp only[aL,aQ];omega),jR,e3]
  ·rw[World.frozen?_setCells];rw[a5] at A;exact hA.2.2 j A
theorem aOa {l:List UInt8} {i:Nat} (hi:i<l.length):gC l i=l[i]::(l.take i++l.drop (i+1)):=by grind [pF,gC]
theorem aAa {l:List UInt8} {i:Nat} (hi:i<l.length):(l.take 1++l.take i++l.drop (i+1)).set 0 l[i]=gC l i:=by
 rw[aOa hi]
 cases l with
 |nil=>simp at hi
 |cons b l=>simp
theorem qS {w w':World} {g:Nat} (h:w.grownBy w' (some g)) (k:Nat) (v:Value):w.grownBy (w'.setCell ⟨g,k,none⟩ v) (some g):=
 ⟨h.os,h.tape,h.output,by simpa using h.size,fun i hi d=>(kF _ _ _ _ (fun e=>d (by rw[e]))).trans (h.block i hi d)⟩
theorem aAb {w0 w:World} {g n cap bx:Nat} {l:List UInt8} (h:w.cell? ⟨bx,0,none⟩=some (.slice (some ⟨g,0,none⟩) n cap)/\ByA w g l/\w0.grownBy w (some g)):w.drew.cell? ⟨bx,0,none⟩=some (.slice (some ⟨g,0,none⟩) n cap)/\ByA w.drew g l/\w0.grownBy w.drew (some g):=
 ⟨h.1,h.2.1,qP h.2.2⟩
theorem aAc (g cap i:Nat) (l:List UInt8) (w:World) (U:ByA w g l) (hi:i<l.length) (hl:l.length<=1000) (b0:l.length<=cap) (a4:cap<=maxLen):
  Calls pG 264 #[.agg #[.slice (some ⟨g,0,none⟩) l.length cap],.int .i64 (i:Int)] w fun e w'=>e=.returned (.int .u8 (l[i].toNat:Int))/\ByA w' g (gC l i)/\w.grownBy w' (some g):=by
 unfold maxLen at a4;obtain⟨b,I⟩:∃b,b=l[i]:=⟨_,rfl⟩;have J:=hid I;have c1:=U.2.1 i b (by rw[I];exact aN hi);rw[<-I];have b5:=U.1;have L:ByA (w.alloc (.cells #[.slice (some ⟨g,0,none⟩) l.length cap] 251)) g l:=U.kept (row:=none) (II _ _ _) (by simp);have M:w.grownBy (w.alloc (.cells #[.slice (some ⟨g,0,none⟩) l.length cap] 251)) (some g):=II _ _ _;have O:=bX w (.slice (some ⟨g,0,none⟩) l.length cap) 251;have A:w.heap.size<(w.alloc (.cells #[.slice (some ⟨g,0,none⟩) l.length cap] 251)).heap.size:=by simp
 have b6:1<=l.length:=by omega
 have b7:1<=cap:=by omega
 have b8:=b.toNat_lt;clear I;go_enter func264,ntmps264;have b1:i<=cap:=by omega
 have b2:(i:Int)<=(cap:Int):=by omega
 have b3:(1:Int)<=(l.length:Int):=by omega
 have b4:(1:Int)<=(cap:Int):=by omega
 go_upto_region 2 with fail;generalize w.alloc (.cells #[.slice (some ⟨g,0,none⟩) l.length cap] 251)=w1 at*
 by_cases a5:cap=1
 ·subst a5;have b9:l.length=1:=by omega
  have a6:i=0:=by omega
  subst a6
  go_still_tail 7,(by kernel_rfl)
  change wpList _ _ _ _ _ w1.drew;obtain⟨V,Z,a0⟩:=aAb ⟨O,L,M⟩
  replace A:w.heap.size<w1.drew.heap.size:=A
  clear O L M;generalize w1.drew=w2 at*
  refine ZZ rfl _ _ rfl g l 0 Z hi _ _ _ _ rfl rfl (by omega) (fun h1=>?_) ?_
  ·exfalso;omega
  intro w3 d F;have a1:some w.heap.size≠some g:=by simp;omega
  have a2:=V;rw[<-rW (F.block _ A a1)] at a2;have a7:(l.take 1++l.take 0++l.drop (0+1)).length=l.length:=by simp only[aL,aQ,bA];omega
  have G:0<(l.take 1++l.take 0++l.drop (0+1)).length:=by omega
  have a8:=d.2.1 0 _ (aN G);have a9:=d.2.2 0 G;have H:=d.set 0 b;have a3:=qS (eU a0 F) 0 (.int .u8 (b.toNat:Int));rw[J.out,aAa hi,<-J.out] at H;go_wp2_with fail;go_ret;exact⟨rfl,H,a3⟩
 ·go_still_tail 7,(by kernel_rfl)
  change wpList _ _ _ _ _ w1.drew;obtain⟨V,Z,a0⟩:=aAb ⟨O,L,M⟩
  replace A:w.heap.size<w1.drew.heap.size:=A
  clear O L M;generalize w1.drew=w2 at*
  refine ZZ rfl _ _ rfl g l i Z hi _ _ _ _ rfl rfl rfl (fun h1=>rfl) ?_;intro w3 d F;have a1:some w.heap.size≠some g:=by simp;omega
  have a2:=V;rw[<-rW (F.block _ A a1)] at a2;have a7:(l.take 1++l.take i++l.drop (i+1)).length=l.length:=by simp only[aL,aQ,bA];omega
  have G:0<(l.take 1++l.take i++l.drop (i+1)).length:=by omega
  have a8:=d.2.1 0 _ (aN G);have a9:=d.2.2 0 G;have H:=d.set 0 b;have a3:=qS (eU a0 F) 0 (.int .u8 (b.toNat:Int));rw[J.out,aAa hi,<-J.out] at H;go_wp2_with fail;go_ret;exact⟨rfl,H,a3⟩
def uI (f:Nat->Bool):List Value:=(List.range 256).map (fun d=>Value.bool (f d))
theorem PY (f:Nat->Bool) (i:Nat) (h:i<256):(uI f)[i]? =some (.bool (f i)):=by simp[uI,h]
theorem aOb (f f':Nat->Bool) (i:Nat) (v:Bool) (h:∀d,d<256->f' d=if d=i then v else f d):(uI f).set i (.bool v)=uI f':=by
 apply List.ext_getElem?
 grind [uI,PY]
theorem aOc {l:List UInt8} {c:UInt8} (h:c∈l):Lib.indexByte l c=((plc l c:Nat):Int):=by
 induction l with
 |nil=>simp at h
 |cons b l d=>
  unfold Lib.indexByte plc;rw[List.findIdx_cons]
  by_cases e:b=c
  ·subst e;simp
  ·grind [plc]
theorem aOd (g cap:Nat) (l:List UInt8) (c:UInt8) (w:World) (A:ByA w g l) (F:c∈l):
  Calls pG 276 #[.slice (some ⟨g,0,none⟩) l.length cap,.int .u8 (c.toNat:Int)] w fun e w'=>e=.returned (.int .i64 ((plc l c:Nat):Int))/\w'=w:=by
 have d:=Lib.run_indexByteSlice (P:=pG) w g 0 l.length cap (l.map (fun b=>(b.toNat:Int))) (by simp) (fun i hi=>by
  rw[Nat.zero_add,A.2.1 i _ (aN hi)];simp[jD,aN hi]) (c.toNat:Int)
 have G:Lib.bytesOf (l.map (fun b=>(b.toNat:Int)))=l:=by
  unfold Lib.bytesOf;rw[List.map_map]
  conv=>rhs;rw[<-List.map_id l]
  exact List.map_congr_left (fun b _=>by simp)
 rw[G,show((c.toNat:Int).toNat.toUInt8)=c by simp,aOc F] at d;go_enter func276,ntmps276;go_wp2_with fail;rw[run_callFunc_extern func298 (by kernel_rfl) (by kernel_rfl) (by kernel_rfl) (e:=Extern.BytealgIndexByte.indexByte) (by kernel_rfl),d];simp only[lW];rw[Oper.upon_value];go_wp2;go_ret;exact⟨rfl,rfl⟩
theorem aAd (a:ByteArray) (w:World) (hs:a.size<=1000000000) (L:a.data.toList.Nodup):
  Calls pG 240 #[.string a] w fun e w'=>e=.returned (.bool true)/\Below w.heap.size w w':=by
 have M:=hid L;clear L;have O:a.data.toList.length=a.size:=by simp
 have F:=hid O;clear O;go_enter func240,ntmps240;go_wp2_with fail
 go_loopg [2,4,7] a.size (fun gh _s2 _s4 s7 wr=>∃k:Nat,k<=a.size/\gh=a.size-k/\s7=.int .i64 k/\Arr wr w.heap.size 186 (uI (fun d=>(a.data.toList.take k).any (fun b=>b.toNat==d)))/\Below w.heap.size w wr)
 case atStart=>
  refine⟨0,aO _,rfl,rfl,?_,(aH _ _).alloc (aD _) _⟩;have z:Tryz.zeroCells186=(uI (fun _=>false)).toArray:=by kernel_rfl
  rw[z]
  simpa using Arr.new w 186 (uI (fun _=>false))
 case round=>
 obtain⟨k,hk,G,rfl,H,U⟩:=hrel;have HG:=hid G;clear G
 by_cases I:k<a.size
 ·have J:=a[k].toNat_lt;have a1:a[k].toNat<256:=J;have a3:(a[k].toNat:Int)<256:=by omega
  have a2:(a.data.toList.take k).any (fun b=>b.toNat==a[k].toNat)=false:=by
   rw[<-Bool.not_eq_true,List.any_eq_true];rintro⟨b,J,e⟩
   replace e:=beq_iff_eq.1 e
   have e2:b=a[k]:=UInt8.toNat_inj.1 e;subst e2;obtain⟨j,hj,V⟩:=List.getElem_of_mem J;rw[aQ] at hj;rw[List.getElem_take] at V;have p1:=PE M.out (i:=j) (by rw[F.out];omega);have p2:=PE M.out (i:=k) (by rw[F.out];exact I);rw[V] at p1;have p3:a.data.toList[k]'(by rw[F.out];exact I)=a[k]:=by simp;rfl
   rw[p3] at p2;omega
  have a4:=H.cell (i:=a[k].toNat) (by rw[PY _ _ a1,a2]);have a5:=H.free a[k].toNat;have Z:=aOb (fun d=>(a.data.toList.take k).any (fun b=>b.toNat==d)) (fun d=>(a.data.toList.take (k+1)).any (fun b=>b.toNat==d)) a[k].toNat true (fun d _=>by
   rw[cG,fW a k I,rD];rw[List.any_append]
   by_cases A:d=a[k].toNat
   ·rw[aB A,A];simp
   ·rw[aA A];have:(a[k].toNat==d)=false:=by(rw[cB];exact fun e=>A e.symm)
    simp[this])
  have a0:=H.set a[k].toNat (.bool true);rw[Z] at a0;clear Z;go_wp2_with fail;have G:=HG.out
  go_roundg (a.size-(k+1))
  case measure=>omega
  case rel=>exact⟨k+1,by omega,rfl,by go_num,a0,U.setCell (aD _) _⟩
 ·go_wp2_with fail;go_ret;exact⟨rfl,U⟩
theorem uK {G:Array Oper} {o:Oper} {a:Act} {K:Act->World->Prop} {Q:Exit->Act->World->Prop} {E:Prop} {w:World} (J:o.guard=none) (s x:iF)
  (L:o.op=.call {callee:=.builtin .append,args:=#[s,x],argTypes:=#[26,26]}) (base:Nat) (v:Value) (l:List Int) (hs:a.eval s=v) (hown:OwI w base v l)
  (ad:Addr) (m c:Nat) (new:List Int) (hx:a.eval x=.slice (some ad) m c) (hl:new.length=m) (hnews:∀j y,new[j]? =some y->w.cell? (ad.add j)=some (.int .i64 y)) (hroom:(l.length+m)*8<=140737488355328) (hbase:base<=w.heap.size)
  (h:∀A w',OwI w' base A (l++new)->Below base w w'->w.grownBy w' v.ownBlock->K (a.put o.dst A) w'):if qL o (yielded G a.tmps)=true then nC pG o a w K Q else E:=by
 have M:qL o (yielded G a.tmps)=true:=by simp[qL,J]
 rw[aB M];obtain⟨i,hi,O,U,V⟩:=jL.info;have Z:(bQ .i64 0).cells.size=1:=by rw[jL.cells];rfl
 have H:w.ownsRow base 3 1 v l.length (l.map (bQ .i64)):=by have:=hown;unfold OwI Ow at this;rwa[aS] at this
 refine wp_append_own w s x _ L base 3 i _ 1 8 jL.under hi O U V Z (by decide) v l.length _ hs H ad m c (new.map (bQ .i64)) hx (by simp[hl]) ?_ ?_ (by simp only[maxLen];omega) hroom hbase (fun A w' q1 I _=>h A w' ?_ (rJ H I hbase) I)
 ·intro j u d;rw[eQ] at d
  cases F:new[j]? with
  |none=>rw[F] at d;simp at d
  |some y=>rw[F] at d;simp at d;subst d;exact hnews j y F
 ·intro u d;obtain⟨y,_,rfl⟩:=eK.1 d;rfl
 ·unfold OwI Ow;rw[List.map_append];rw[aL,aS,aS,hl];exact q1
theorem aA1 {d:Array Oper} {o:Oper} {a:Act} {K:Act->World->Prop} {Q:Exit->Act->World->Prop} {E:Prop} {w:World} (A:o.guard=none) (s x:iF)
  (F:o.op=.call {callee:=.builtin .append,args:=#[s,x],argTypes:=#[26,26]}) (base:Nat) (v:Value) (l:List Int) (hs:a.eval s=v) (hown:OwI w base v l)
  (hx:a.eval x=.slice none 0 0)
  (h:K (a.put o.dst v) w):if qL o (yielded d a.tmps)=true then nC pG o a w K Q else E:=by
 have G:qL o (yielded d a.tmps)=true:=by simp[qL,A]
 rw[aB G];obtain⟨i,hi,_,_,_⟩:=jL.info;have H:w.ownsRow base 3 1 v l.length (l.map (bQ .i64)):=by have:=hown;unfold OwI Ow at this;rwa[aS] at this
 have I:=run_append_owned_none (P:=pG) (w:=w) base _ o.type 3 i 1 jL.under hi v l.length _ H;unfold nC;simp[execOp,F,resolve,invoke,builtin,hs,hx,I,lW];exact h
theorem aA2 (b off j:Nat):(⟨b,off,none⟩:Addr).add j=⟨b,off+j,none⟩:=by unfold gP;split<;>simp_all
theorem EG {wr w:World} {b off:Nat} {L:List Int} (d:b<wr.heap.size) (F:∀j x,L[j]? =some x->wr.cell? ⟨b,off+j,none⟩=some (.int .i64 x)) (h:Below wr.heap.size wr w/\wr.heap.size<=w.heap.size) (n:Nat):
  (∀j y,(L.take n)[j]? =some y->w.cell? ((⟨b,off,none⟩:Addr).add j)=some (.int .i64 y))/\(∀j y,(L.drop n)[j]? =some y->w.cell? ((⟨b,off+n,none⟩:Addr).add j)=some (.int .i64 y)):=by
 refine⟨fun j y A=>?_,fun j y A=>?_⟩
 ·rw[aA2,h.1.cell (p:=⟨b,off+j,none⟩) d]
  grind
 ·rw[aA2,h.1.cell (p:=⟨b,off+n+j,none⟩) d]
  grind
theorem BR {B:Nat} {w0 w1 w2:World} (h:Below B w0 w1/\B<=w1.heap.size) (d:Below B w1 w2):Below B w0 w2/\B<=w2.heap.size:=⟨h.1.trans d,aR h.2 d.size⟩
theorem zE {B:Nat} {w0 w1:World} (h:Below B w0 w1/\B<=w1.heap.size) (o:Obj):Below B w0 (w1.alloc o)/\B<=(w1.alloc o).heap.size:=⟨h.1.alloc h.2 o,aR h.2 (by simp)⟩
theorem JY {B:Nat} {w0 w1:World} (h:Below B w0 w1) (d:B<=w1.heap.size) (n:Nat):Below B w0 (w1.drewN n).drew/\B<=(w1.drewN n).drew.heap.size:=⟨(kY h n).drew,d⟩
theorem JZ {B:Nat} {w0 w1:World} (h:Below B w0 w1) (d:B<=w1.heap.size) (n:Nat) (o:Obj):Below B w0 ((w1.drewN n).alloc o)/\B<=((w1.drewN n).alloc o).heap.size:=zE ⟨kY h n,d⟩ o
theorem KA {W w':World} {p:Addr} {v:Value} (A:W.grownBy w' none) (d:W.cell? p=some v):w'.cell? p=some v:=by
 rw[<-d];exact rW (w:=W) (A.block p.block (World.block_lt_of_cell? W p d) (by simp))
theorem xL {w:World} {g:Nat} {x:Int} (h:w.cell? ⟨g,0,none⟩=some (.int .i64 x)):∀j y,[x][j]? =some y->w.cell? ((⟨g,0,none⟩:Addr).add j)=some (.int .i64 y):=by
 intro j y d
 cases j with
 |zero=>simp at d;subst d;simpa [gP] using h
 |succ j=>simp at d
theorem aQk (s:ByteArray) (w:World) (hn:s.size<=1000000):
  Calls pG 208 #[.string s] w fun e w'=>∃v o,e=.returned v/\Ord (cQ s) s.size s.size o/\OwI w' w.heap.size v (iY s.size o)/\Below w.heap.size w w':=by
 go_enter func208,ntmps208;go_wp2_with fail
 go_loopg [3,4,5] s.size (fun gh s3 s4 _s5 wr=>∃(k:Nat) (L:List Int),k<=s.size/\gh=s.size-k/\s4=.int .i64 k/\OwI wr w.heap.size s3 L/\Hid (L.length=k/\(∀x∈L,0<=x/\x<(k:Int))/\L.Pairwise (bef (cQ s) s.size))/\(k=0->s3=.slice none 0 0)/\Below w.heap.size w wr)
 case atStart=>exact⟨0,[],aO _,rfl,rfl,OwI.nil _ _,hid ⟨rfl,fun x G=>by simp at G,List.Pairwise.nil⟩,fun _=>rfl,aH _ _⟩
 case round=>
  obtain⟨k,L,hk,J,rfl,a2,I,a9,H⟩:=hrel;have HG:=hid J;have c3:=hid a9;clear J a9
  by_cases c4:k<s.size
  ·obtain⟨va,cap,rfl,c5,c6,U⟩:=a2.rd.open;rw[I.out.1] at c5 U ⊢;unfold maxLen at c6;have HA:=hid U;have d4:=hid a2;clear U a2;obtain⟨d,rfl⟩:∃d:World,d=wr:=⟨_,rfl⟩;go_wp2_with fail
   go_loopg [5] k (fun gh s5 wr=>∃j:Nat,j<=k/\gh=j/\s5=.int .i64 j/\Hid (∀x∈L.drop j,bef (cQ s) s.size (k:Int) x)/\Below d.heap.size d wr)
   case atStart=>exact⟨k,aD _,rfl,rfl,hid (fun x G=>by rw[sB (by rw[I.out.1];exact aD _)] at G;simp at G),aH _ _⟩
   case round=>
    obtain⟨j,hj,J,rfl,HD,F⟩:=hrel;have c7:=hid J;clear J;rcases jE j with h0|h0
    ·have t1:decide (0<j)=false:=aE (by omega);have HT:=hid (show ∀x∈L.take j,bef (cQ s) s.size x (k:Int) from fun x G=>by rw[h0] at G;simp at G);have b0:=hid h0;clear h0;go_wp2_with fail
     go_quiet (fail)
     go_wp2_with fail;rcases jE k with a0|a0
     ·have b1:=c3.out a0;rw[Value.slice.injEq] at b1;obtain⟨rfl,_,rfl⟩:=b1;have d5:L=[]:=List.eq_nil_of_length_eq_zero (by rw[I.out.1];exact a0);subst a0;have c8:j=0:=b0.out;subst c8
      go_region_held3 (fun w'=>Below d.heap.size d w'/\d.heap.size<=w'.heap.size)
       (first
        |with_reducible assumption
        |with_reducible exact zE (by assumption) _
        |with_reducible exact BR (by assumption) (by assumption)
        |with_reducible exact JY F F.size _
        |with_reducible exact JZ F F.size _ _)
       (first
        |(refine aA1 rfl _ _ rfl d.heap.size (.slice none 0 0) [] rfl (OwI.nil _ _) rfl ?_)
        |(refine uK rfl _ _ rfl d.heap.size _ [] rfl (OwI.nil _ _) ⟨_,0,none⟩ 1 1 [((0:Nat):Int)] rfl rfl ?_ ?_ ?_ ?_;(first|exact xL (bX _ _ _)|exact xL (KA (by assumption) (by exact bX _ _ _)));(simp only[aV];omega);(exact(show Below d.heap.size d _/\d.heap.size<=_ by assumption).2);intro v2 w2 a3 a7 a4)
        |(refine aA1 rfl _ _ rfl d.heap.size _ ([]++[((0:Nat):Int)]) rfl (by assumption) rfl ?_))
      all_goals go_wp2_with fail
      all_goals
       have J:=HG.out
       go_roundg (s.size-(0+1))
       case measure=>omega
       case rel=>
        have V:Below d.heap.size d _/\d.heap.size<=_:=(show Below d.heap.size d w2/\d.heap.size<=w2.heap.size by assumption);refine⟨0+1,[((0:Nat):Int)],by omega,rfl,by go_num,?_,hid ⟨rfl,fun x G=>by simp at G;omega,List.pairwise_singleton _ _⟩,fun e=>by omega,H.trans (V.1.mono H.size)⟩;exact Ow.base a3 H.size
     ·obtain⟨b,off,rfl,Z,hc⟩:=HA.out a0;have HC:=hid hc;have M:=hid I.out.1;clear hc;have d6:(j:Int)<=(k:Int):=by omega
      have c9:j<=cap:=by omega
      have b2:¬cap=j:=by have:=b0.out;omega
      go_region_held3 (fun w'=>Below d.heap.size d w'/\d.heap.size<=w'.heap.size)
       (first
        |with_reducible assumption
        |with_reducible exact zE (by assumption) _
        |with_reducible exact BR (by assumption) (by assumption)
        |with_reducible exact JY F F.size _
        |with_reducible exact JZ F F.size _ _)
       (first
        |(refine uK rfl _ _ rfl d.heap.size (.slice none 0 0) [] rfl (OwI.nil _ _) ⟨b,off,none⟩ j cap (L.take j) rfl ?_ ?_ ?_ ?_ ?_;(rw[aQ,M.out];omega);(exact(EG Z HC.out (by assumption) j).1);(simp only[aV];omega);(exact(show Below d.heap.size d _/\d.heap.size<=_ by assumption).2);intro v1 w1 b3 b4 b5)
        |(refine uK rfl _ _ rfl d.heap.size _ ([]++L.take j) rfl (by first|assumption|exact OwI.alloc (by assumption) _) ⟨_,0,none⟩ 1 1 [(k:Int)] rfl rfl ?_ ?_ ?_ ?_;(first|exact xL (bX _ _ _)|exact xL (KA (by assumption) (by exact bX _ _ _)));(simp only[aL,aV,aQ];omega);(exact(show Below d.heap.size d _/\d.heap.size<=_ by assumption).2);intro v2 w2 a3 a7 a4)
        |(refine uK rfl _ _ rfl d.heap.size _ (([]++L.take j)++[(k:Int)]) rfl (by assumption) ⟨b,off+j,none⟩ (k-j) (cap-j) (L.drop j) rfl ?_ ?_ ?_ ?_ ?_;(rw[bA,M.out]);(exact(EG Z HC.out (by assumption) j).2);(simp only[aL,aV,aQ,aU];omega);(exact(show Below d.heap.size d _/\d.heap.size<=_ by assumption).2);intro v3 O a1 b6 b7))
      all_goals go_wp2_with fail
      all_goals
       have J:=HG.out
       go_roundg (s.size-(k+1))
       case measure=>omega
       case rel=>
        obtain⟨q1,q2,q3⟩:=I.out;have V:Below d.heap.size d _/\d.heap.size<=_:=(show Below d.heap.size d O/\d.heap.size<=O.heap.size by assumption);refine⟨k+1,qF L j k,by omega,rfl,by go_num,?_,hid ⟨by rw[QL,q1],QN q2,QM q3 HT.out HD.out⟩,fun e=>by omega,H.trans (V.1.mono H.size)⟩;have e:([]++L.take j++[(k:Int)])++L.drop j=qF L j k:=by simp[qF]
        rw[<-e];exact Ow.base a1 H.size
    ·have t1:decide (0<j)=true:=aG h0;obtain⟨b,off,rfl,Z,hc⟩:=HA.out (by omega);obtain⟨h1,h2,h3⟩:=I.out;have a5:j-1<L.length:=by omega
     have a8:L[j-1]? =some (L.getD (j-1) 0):=by simp[jD,aN a5]
     have d0:=h2 _ (List.mem_of_getElem? a8);obtain⟨y,hy⟩:∃y:Nat,L.getD (j-1) 0=(y:Int):=⟨(L.getD (j-1) 0).toNat,by omega⟩;have d1:y<k:=by omega
     have c1:=(F.cell (p:=⟨b,off+(j-1),none⟩) Z).trans (hc (j-1) _ a8);rw[hy] at c1;have HY:=hid hy;have s1:aJ.wrap ((j:Int)-1)=(j:Int)-1:=IntWalk.i64_in _ (by omega);have s2:((j:Int)-1).toNat=j-1:=by omega
     have s3:(0:Int)<=(j:Int)-1:=by omega
     have s4:(j:Int)-1<(k:Int):=by omega
     have s6:(1:Int)<=(j:Int):=by omega
     have s9:(j:Int)<=(k:Int):=by omega
     obtain⟨A,U⟩:∃A,A=mkS (rot s k):=⟨_,rfl⟩;obtain⟨B,hB⟩:∃B,B=mkS (rot s y):=⟨_,rfl⟩;have qa:∀W,Calls pG 209 #[.string s,.int .i64 (k:Int)] W fun e w'=>e=.returned (.string A)/\∃m,w'=W.drewN m:=fun W=>by rw[U];exact aAy s k W hn (by omega)
     have qb:∀W,Calls pG 209 #[.string s,.int .i64 (y:Int)] W fun e w'=>e=.returned (.string B)/\∃m,w'=W.drewN m:=fun W=>by rw[hB];exact aAy s y W hn (by omega)
     have QA:=hid qa;have QB:=hid qb;have b8:A.toList=rot s k:=by rw[ByteArray.toList_eq,U];rfl
     have b9:B.toList=rot s y:=by rw[ByteArray.toList_eq,hB];rfl
     have c0:sF A.toList B.toList=true↔ltm (cQ s) s.size k y:=by rw[b8,b9];exact aQh s c4 (by omega)
     have c2:=hid c0;have HC:=hid hc;clear qa qb b8 b9 c0 U hB hy d0 a8 h1 h2 h3 hc
     by_cases a6:sF A.toList B.toList=true
     ·go_wp2_with fail
      go_quiet (first|(go_at_call_of 209 (bQ .i64 (k:Int));refine WV (QA.out _))|(go_at_call_of 209 (bQ .i64 (y:Int));refine WV (QB.out _)))
      go_wp2_with fail;have a4:=c7.out
      go_roundg (j-1)
      case measure=>omega
      case rel=>
       refine⟨j-1,by omega,rfl,congrArg _ (by omega),hid (fun x G=>?_),kY F _⟩;rw[pF a5,List.mem_cons] at G;rcases G with rfl|G
       ·have e:L[j-1]=(y:Int):=by rw[<-HY.out];simp[jD,aN a5]
        rw[e];exact .inl (by simpa using c2.out.1 a6)
       ·rw[show j-1+1=j by omega] at G;exact HD.out x G
     ·have d2:sF A.toList B.toList=false:=by simpa using a6
      have M:=hid I.out.1;have c9:j<=cap:=by omega
      have HT:=hid (show ∀x∈L.take j,bef (cQ s) s.size x (k:Int) from aQi (y:=(y:Int)) I.out.2.2 h0 (by simp[<-HY.out,jD,aN a5]) (by
       rcases zA (cQ s) y k s.size with p|p|p
       ·exact .inl (by simpa using p)
       ·exact .inr ⟨by simpa using p,by omega⟩
       ·exact absurd (c2.out.2 p) a6))
      go_wp2_with fail
      go_quiet (first|(go_at_call_of 209 (bQ .i64 (k:Int));refine WV (QA.out _))|(go_at_call_of 209 (bQ .i64 (y:Int));refine WV (QB.out _)))
      clear a6 d2 c1 s1 s2 s3 s4 s6 d1;go_wp2_with fail;obtain⟨wq,d7⟩:∃wq:World,wq=wr:=⟨_,rfl⟩
      by_cases b2:cap=j
      ·obtain rfl:cap=j:=b2;obtain rfl:k=cap:=by omega
       go_region_held3 (fun w'=>Below d.heap.size d w'/\d.heap.size<=w'.heap.size)
        (first
         |with_reducible assumption
         |with_reducible exact zE (by assumption) _
         |with_reducible exact BR (by assumption) (by assumption)
         |with_reducible exact JY F F.size _
         |with_reducible exact JZ F F.size _ _)
        (first
         |(refine uK rfl _ _ rfl d.heap.size (.slice none 0 0) [] rfl (OwI.nil _ _) ⟨b,off,none⟩ k k (L.take k) rfl ?_ ?_ ?_ ?_ ?_;(rw[aQ,M.out];omega);(exact(EG Z HC.out (by assumption) k).1);(simp only[aV];omega);(exact(show Below d.heap.size d _/\d.heap.size<=_ by assumption).2);intro v1 w1 b3 b4 b5)
         |(refine uK rfl _ _ rfl d.heap.size _ ([]++L.take k) rfl (by first|assumption|exact OwI.alloc (by assumption) _) ⟨_,0,none⟩ 1 1 [(k:Int)] rfl rfl ?_ ?_ ?_ ?_;(first|exact xL (bX _ _ _)|exact xL (KA (by assumption) (by exact bX _ _ _)));(simp only[aL,aV,aQ];omega);(exact(show Below d.heap.size d _/\d.heap.size<=_ by assumption).2);intro v2 w2 a3 a7 a4)
         |(refine uK rfl _ _ rfl d.heap.size _ (([]++L.take k)++[(k:Int)]) rfl (by assumption) ⟨b,off,none⟩ 0 0 (L.drop k) rfl ?_ ?_ ?_ ?_ ?_;(rw[bA,M.out];omega);(intro j y hy;rw[sB (by rw[M.out];exact aD _)] at hy;simp at hy);(simp only[aL,aV,aQ,aU];omega);(exact(show Below d.heap.size d _/\d.heap.size<=_ by assumption).2);intro v3 O a1 b6 b7))
       all_goals go_wp2_with fail
       all_goals
        have J:=HG.out
        go_roundg (s.size-(k+1))
        case measure=>omega
        case rel=>
         obtain⟨q1,q2,q3⟩:=I.out;have V:Below d.heap.size d _/\d.heap.size<=_:=(show Below d.heap.size d O/\d.heap.size<=O.heap.size by assumption);refine⟨k+1,qF L k k,by omega,rfl,by go_num,?_,hid ⟨by rw[QL,q1],QN q2,QM q3 HT.out HD.out⟩,fun e=>by omega,H.trans (V.1.mono H.size)⟩;have e:([]++L.take k++[(k:Int)])++L.drop k=qF L k k:=by simp[qF]
         rw[<-e];exact Ow.base a1 H.size
      ·go_region_held3 (fun w'=>Below d.heap.size d w'/\d.heap.size<=w'.heap.size)
        (first
         |with_reducible assumption
         |with_reducible exact zE (by assumption) _
         |with_reducible exact BR (by assumption) (by assumption)
         |with_reducible exact JY F F.size _
         |with_reducible exact JZ F F.size _ _)
        (first
         |(refine uK rfl _ _ rfl d.heap.size (.slice none 0 0) [] rfl (OwI.nil _ _) ⟨b,off,none⟩ j cap (L.take j) rfl ?_ ?_ ?_ ?_ ?_;(rw[aQ,M.out];omega);(exact(EG Z HC.out (by assumption) j).1);(simp only[aV];omega);(exact(show Below d.heap.size d _/\d.heap.size<=_ by assumption).2);intro v1 w1 b3 b4 b5)
         |(refine uK rfl _ _ rfl d.heap.size _ ([]++L.take j) rfl (by first|assumption|exact OwI.alloc (by assumption) _) ⟨_,0,none⟩ 1 1 [(k:Int)] rfl rfl ?_ ?_ ?_ ?_;(first|exact xL (bX _ _ _)|exact xL (KA (by assumption) (by exact bX _ _ _)));(simp only[aL,aV,aQ];omega);(exact(show Below d.heap.size d _/\d.heap.size<=_ by assumption).2);intro v2 w2 a3 a7 a4)
         |(refine uK rfl _ _ rfl d.heap.size _ (([]++L.take j)++[(k:Int)]) rfl (by assumption) ⟨b,off+j,none⟩ (k-j) (cap-j) (L.drop j) rfl ?_ ?_ ?_ ?_ ?_;(rw[bA,M.out]);(exact(EG Z HC.out (by assumption) j).2);(simp only[aL,aV,aQ,aU];omega);(exact(show Below d.heap.size d _/\d.heap.size<=_ by assumption).2);intro v3 O a1 b6 b7))
       all_goals go_wp2_with fail
       all_goals
        have J:=HG.out
        go_roundg (s.size-(k+1))
        case measure=>omega
        case rel=>
         obtain⟨q1,q2,q3⟩:=I.out;have V:Below d.heap.size d _/\d.heap.size<=_:=(show Below d.heap.size d O/\d.heap.size<=O.heap.size by assumption);refine⟨k+1,qF L j k,by omega,rfl,by go_num,?_,hid ⟨by rw[QL,q1],QN q2,QM q3 HT.out HD.out⟩,fun e=>by omega,H.trans (V.1.mono H.size)⟩;have e:([]++L.take j++[(k:Int)])++L.drop j=qF L j k:=by simp[qF]
         rw[<-e];exact Ow.base a1 H.size
  ·have d3:k=s.size:=by omega
   subst d3;go_wp2_with fail;go_ret;obtain⟨h1,h2,h3⟩:=I.out;refine⟨_,_,rfl,aQj h1 h2 h3,?_,H⟩;have e:=aAp L;rw[h1] at e;rw[e];exact a2
end
section
open Go.RowKit Go Go.Shelf
theorem CJ:El2 pG 313 315 32 (.agg #[.int .i64 0,.slice none 0 0]):=El2.mk' (by kernel_rfl) underlying313 rfl (by decide)
theorem aFi {B:Nat} {w0 w1:World} (h:Below B w0 w1) (d:B<=w1.heap.size):Below B w0 w1.drew/\B<=w1.drew.heap.size:=⟨h.drew,d⟩
theorem aFj (v:Value) (l:List VV) (f:Nat->Int) (w:World) (J:nN w v l) (H:0<l.length) (_hl2:l.length<=1000) (L:∀(j:Nat) (q:VV),l[j]? =some q->q.1=bQ .i64 (f j)):
  Calls pG 252 #[v] w fun e w'=>e=.returned (.int .i64 (oD f l.length:Int))/\Below w.heap.size w w':=by
 obtain⟨a,ca,rfl,a3,a1,M⟩:=J.open;unfold maxLen at a1;obtain⟨b,off,rfl,O,U⟩:=M H;have V:=hid (show ∀j,j<l.length->w.cell? ⟨b,off+j*2,none⟩=some (.int .i64 (f j)) from fun j hj=>by
  have e:=aN hj;rw[(U j _ e).1,L j _ e])
 clear M U L J;go_enter func252,ntmps252;go_wp2_with fail
 go_loopg [3,4] (l.length-1) (fun g s3 s4 wr=>∃k m:Nat,1<=k/\k<=l.length/\g=l.length-k/\s4=.int .i64 (k:Int)/\s3=.int .i64 (m:Int)/\Hid (m=oD f k)/\m<l.length/\Below w.heap.size w wr)
 case atStart=>exact⟨1,0,aD _,H,by omega,rfl,rfl,hid (by unfold oD;split<;>rfl),H,aH _ _⟩
 case round=>
  obtain⟨k,m,a4,hk,G,rfl,rfl,Z,hm,F⟩:=hrel;have HG:=hid G;clear G
  by_cases a0:k<l.length
  ·have u1:decide ((k:Int)<(l.length:Int))=true:=aG (by omega);have c1:=(F.cell (p:=⟨b,off+k*2,none⟩) O).trans (V.out k a0);have c2:=(F.cell (p:=⟨b,off+m*2,none⟩) O).trans (V.out m hm);have d:oD f (k+1)=if f k<f m then k else m:=by rw[Z.out];rfl
   obtain⟨x,hx⟩:∃x,x=f k:=⟨_,rfl⟩;obtain⟨y,hy⟩:∃y,y=f m:=⟨_,rfl⟩;rw[<-hx] at c1 d;rw[<-hy] at c2 d;clear hx hy
   by_cases A:x<y
   ·have u2:decide (x<y)=true:=aG A;rw[aB A] at d;have I:=hid d.symm;clear d A;go_wp2_with fail
    go_quiet (fail)
    go_wp2_with fail;have G:=HG.out
    go_roundg (l.length-(k+1))
    case measure=>omega
    case rel=>exact⟨k+1,k,by omega,by omega,rfl,by go_num,rfl,I,a0,kY F _⟩
   ·have u2:decide (x<y)=false:=aE A;rw[aA A] at d;have I:=hid d.symm;clear d A;go_wp2_with fail
    go_quiet (fail)
    go_wp2_with fail;have G:=HG.out
    go_roundg (l.length-(k+1))
    case measure=>omega
    case rel=>exact⟨k+1,m,by omega,by omega,rfl,by go_num,rfl,I,hm,kY F _⟩
  ·have u1:decide ((k:Int)<(l.length:Int))=false:=aE (by omega);have a2:k=l.length:=by omega
   subst a2;go_wp2_with fail;go_ret;exact⟨by rw[<-Z.out];rfl,F⟩
theorem aFk {wr w:World} {b off cap:Nat} {l:List VV} (A:b<wr.heap.size) (F:∀j q,l[j]? =some q->wr.cell? ⟨b,off+j*2,none⟩=some q.1/\wr.cell? ⟨b,off+j*2+1,none⟩=some q.2) (h:Below wr.heap.size wr w/\wr.heap.size<=w.heap.size)
  (k:Nat) (I:k<=l.length) (J:k<=cap) (G:cap<=maxLen):nN w (.slice (some ⟨b,off,none⟩) k cap) (l.take k):=by
 have H:(l.take k).length=k:=by grind
 refine .inr ⟨b,off,cap,by rw[H],by omega,G,by omega,fun j q d=>?_⟩;have L:=(eF.1 d).1;rw[pW (by omega)] at d;rw[h.1.cell (p:=⟨b,off+j*2,none⟩) A,h.1.cell (p:=⟨b,off+j*2+1,none⟩) A];exact F j q d
theorem aXs {wr w:World} {b off cap:Nat} {l:List VV} (d:b<wr.heap.size) (F:∀j q,l[j]? =some q->wr.cell? ⟨b,off+j*2,none⟩=some q.1/\wr.cell? ⟨b,off+j*2+1,none⟩=some q.2) (h:Below wr.heap.size wr w/\wr.heap.size<=w.heap.size)
  (k:Nat) (G:l.length<=cap) (H:cap<=maxLen):nN w (.slice (some ⟨b,off+k*2,none⟩) (l.length-k) (cap-k)) (l.drop k):=by
 refine .inr ⟨b,off+k*2,cap-k,by simp,by grind,by omega,by omega,fun j q A=>?_⟩;rw[jR] at A;rw[h.1.cell (p:=⟨b,off+k*2+j*2,none⟩) d,h.1.cell (p:=⟨b,off+k*2+j*2+1,none⟩) d,show off+k*2+j*2=off+(k+j)*2 by omega];exact F _ q A
theorem aXt {wr w:World} {b off:Nat} (d:b<wr.heap.size) (h:Below wr.heap.size wr w/\wr.heap.size<=w.heap.size):nN w (.slice (some ⟨b,off,none⟩) 0 0) []:=by grind [nN]
theorem aFl (v:Value) (l:List VV) (i:Nat) (w:World) (V:nN w v l) (hi:i<l.length) (b6:l.length<=1000) (H:rA l):
  Calls pG 253 #[v,.int .i64 (i:Int)] w fun e w'=>∃Z,e=.returned Z/\OwP w' w.heap.size 315 Z (l.eraseIdx i)/\Below w.heap.size w w':=by
 obtain⟨a,A,rfl,a6,a0,hA⟩:=V.open;have I:=hid a0;unfold maxLen at a0;obtain⟨b,off,rfl,hb,hc⟩:=hA (by omega);have J:=hid hc;have G:=hid hb;have a1:=hid (H.sub (m:=l.take i) (fun q F=>List.mem_of_mem_take F));have a2:=hid (H.sub (m:=l.drop (i+1)) (fun q F=>List.mem_of_mem_drop F));have a3:i<=A:=by omega
 obtain⟨d,L⟩:∃d,d=i+1:=⟨_,rfl⟩;rw[<-L] at a2;have m1:aJ.wrap ((i:Int)+1)=(d:Int):=by rw[aM];omega
 have m2:(i:Int)+1=(d:Int):=by omega
 have m3:aJ.wrap (d:Int)=(d:Int):=by rw[aM];omega
 have b7:d<=l.length:=by omega
 have a7:(d:Int)<=(l.length:Int):=by omega
 have b8:(0:Int)<=(d:Int):=by omega
 have a8:¬d*2=0:=by omega
 have HE:=hid (show l.take i++l.drop d=l.eraseIdx i by rw[L,List.eraseIdx_eq_take_drop_succ]);clear L;have b9:(i:Int)<=(A:Int):=by omega
 have c0:(0:Int)<=(i:Int):=by omega
 have a4:i<=l.length:=by omega
 clear hA hc V H hi
 by_cases M:A=d
 ·have a5:l.length=d:=by omega
  have a9:=hid (show l.drop d=[] from sB (by omega));have b0:∀w,(vN 313 (.slice (some ⟨b,off,none⟩) l.length A) (some (.int .i64 (d:Int))) none none).run pG w=.ok (.slice (some ⟨b,off,none⟩) 0 0) w:=fun W=>by
   simp[go_sem,M,a5]
  clear M a5;go_enter func253,ntmps253;go_wp2_with fail
  go_region_held3 (fun w'=>Below w.heap.size w w'/\w.heap.size<=w'.heap.size)
   (first
    |with_reducible assumption
    |with_reducible exact zE (by assumption) _
    |with_reducible exact BR (by assumption) (by assumption)
    |with_reducible exact aFi (aH _ _) (aD _))
   (first
    |(refine MF CJ rfl _ _ rfl w.heap.size (.slice none 0 0) [] rfl (OwP.nil _ _ _) (.slice (some ⟨b,off,none⟩) i A) (l.take i) rfl ?_ ?_ ?_ ?_ ?_;(exact aFk G.out J.out (by assumption) i a4 a3 I.out);(exact a1.out);(simp only[aV,aQ];omega);(exact(show Below w.heap.size w _/\w.heap.size<=_ by assumption).2);intro v1 w1 b1 b2 b3)
    |(refine MF CJ rfl _ _ rfl w.heap.size _ ([]++l.take i) rfl (by assumption) (.slice (some ⟨b,off,none⟩) 0 0) [] rfl ?_ ?_ ?_ ?_ ?_;(exact aXt G.out (by assumption));(exact fun q F=>by simp at F);(simp only[aL,aV,aQ];omega);(exact(show Below w.heap.size w _/\w.heap.size<=_ by assumption).2);intro v2 w2 O b4 b5))
  all_goals
   go_wp2_with fail;go_ret;have U:Below w.heap.size w w2/\w.heap.size<=w2.heap.size:=by assumption
   refine⟨_,rfl,?_,U.1⟩;rw[<-HE.out,a9.out];exact O
 ·have b0:∀w,(vN 313 (.slice (some ⟨b,off,none⟩) l.length A) (some (.int .i64 (d:Int))) none none).run pG w=.ok (.slice (some ⟨b,off+d*2,none⟩) (l.length-d) (A-d)) w:=fun W=>by
   simp[go_sem,a7,M,gP,a8]
  go_enter func253,ntmps253;go_wp2_with fail
  go_region_held3 (fun w'=>Below w.heap.size w w'/\w.heap.size<=w'.heap.size)
   (first
    |with_reducible assumption
    |with_reducible exact zE (by assumption) _
    |with_reducible exact BR (by assumption) (by assumption)
    |with_reducible exact aFi (aH _ _) (aD _))
   (first
    |(refine MF CJ rfl _ _ rfl w.heap.size (.slice none 0 0) [] rfl (OwP.nil _ _ _) (.slice (some ⟨b,off,none⟩) i A) (l.take i) rfl ?_ ?_ ?_ ?_ ?_;(exact aFk G.out J.out (by assumption) i a4 a3 I.out);(exact a1.out);(simp only[aV,aQ];omega);(exact(show Below w.heap.size w _/\w.heap.size<=_ by assumption).2);intro v1 w1 b1 b2 b3)
    |(refine MF CJ rfl _ _ rfl w.heap.size _ ([]++l.take i) rfl (by assumption) (.slice (some ⟨b,off+d*2,none⟩) (l.length-d) (A-d)) (l.drop d) rfl ?_ ?_ ?_ ?_ ?_;(exact aXs G.out J.out (by assumption) d a6 I.out);(exact a2.out);(simp only[aL,aV,aQ,bA];omega);(exact(show Below w.heap.size w _/\w.heap.size<=_ by assumption).2);intro v2 w2 O b4 b5))
  all_goals
   go_wp2_with fail;go_ret;have U:Below w.heap.size w w2/\w.heap.size<=w2.heap.size:=by assumption
   refine⟨_,rfl,?_,U.1⟩;rw[<-HE.out];exact O
theorem uV {w:World} {B B' e d z F n G:Nat} {v A:Value} {H I:List Value} (h:w.ownsRow B e z v n H) (J:w.ownsRow B' d F A G I) (M:e≠d):v.ownBlock=none\/v.ownBlock≠A.ownBlock:=by
 rcases h.2 with⟨rfl,_⟩|⟨g,cap,O,rfl,_,U,_⟩
 ·exact .inl rfl
 ·right
  rcases J.2 with⟨rfl,_⟩|⟨L,V,Z,rfl,_,a0,_⟩
  ·intro e;cases e
  ·intro e;have e:some g=some L:=e
   grind
theorem MG {w:World} {B e d F G b:Nat} {A:Value} {l H:List Value} (h:Arr w b e l) (I:w.ownsRow B d F A G H) (L:e≠d):some b≠A.ownBlock:=by
 rcases I.2 with⟨rfl,_⟩|⟨J,M,O,rfl,_,U,_⟩
 ·intro e;cases e
 ·intro e;have e:some b=some J:=e
  grind [Arr]
theorem lD {w:World} {B e z n b:Nat} {v:Value} {d:List Value} (h:w.ownsRow B e z v n d) (A:b<B):v.ownBlock=none\/v.ownBlock≠some b:=by
 rcases hob:v.ownBlock with _|k
 ·exact .inl rfl
 ·have:=(h.lt k hob).1
  grind
def lvI (t:HT):List Int:=t.leaves.map (fun n:Nat=>((n:Nat):Int))
def TOK (w:World) (B d:Nat) (l:List VV) (r:cE):Prop:=
 l.length=r.length/\∀(j:Nat) (q:VV) (p:Int×HT),l[j]? =some q->r[j]? =some p->q.1=.int .i64 p.1/\OwI w B q.2 (lvI p.2)/\(q.2.ownBlock=none\/q.2.ownBlock≠some d)/\q.2.oneCell'=true
theorem TOK.nil (w:World) (B d:Nat):TOK w B d [] []:=by simp[TOK]
theorem TOK.map {w w':World} {B d A:Nat} {l:List VV} {r:cE} (h:TOK w B d l r) (k:∀(v:Value) (m:List Int),OwI w B v m->(v.ownBlock=none\/v.ownBlock≠some d)->OwI w' B v m/\(v.ownBlock=none\/v.ownBlock≠some A)):TOK w' B A l r:=
 ⟨h.1,fun j q p F G=>by
  obtain⟨H,I,J,L⟩:=h.2 j q p F G
  grind⟩
theorem TOK.below {w w':World} {B d:Nat} {l:List VV} {r:cE} (h:TOK w B d l r) (A:Below w.heap.size w w'):TOK w' B d l r:=h.map (fun _ _ F G=>⟨OwI.below F A (aD _),G⟩)
theorem TOK.alloc {w:World} {B d:Nat} {l:List VV} {r:cE} (h:TOK w B d l r) (o:Obj):TOK (w.alloc o) B d l r:=h.map (fun _ _ A F=>⟨OwI.alloc A o,F⟩)
theorem TOK.set {w:World} {B d:Nat} {l:List VV} {r:cE} (h:TOK w B d l r) (i:Nat) (x:Value):TOK (w.setCell ⟨d,i,none⟩ x) B d l r:=h.map (fun _ _ F A=>⟨Ow.kept F (gD w d i x) A,A⟩)
theorem TOK.snoc {w:World} {B A:Nat} {l:List VV} {r:cE} (h:TOK w B A l r) {q:VV} {p:Int×HT} (L:q.1=.int .i64 p.1) (M:OwI w B q.2 (lvI p.2)) (O:q.2.ownBlock=none\/q.2.ownBlock≠some A) (U:q.2.oneCell'=true):TOK w B A (l++[q]) (r++[p]):=by
 refine⟨by rw[aL,aL,h.1];rfl,fun j H I d F=>?_⟩
 by_cases G:j<l.length
 ·rw[nE G] at d;rw[nE (by rw[<-h.1];exact G)] at F;exact h.2 j H I d F
 ·have J:=(eF.1 d).1;rw[aL,List.length_singleton] at J;obtain rfl:j=l.length:=by omega
  rw[IV] at d;rw[h.1,IV] at F
  grind
theorem TOK.erase {w:World} {B F:Nat} {l:List VV} {r:cE} (h:TOK w B F l r) (i:Nat):TOK w B F (l.eraseIdx i) (r.eraseIdx i):=by
 refine⟨by rw[XP,XP,h.1],fun j q p A d=>?_⟩;rw[List.getElem?_eraseIdx] at A d;split at A
 ·next k=>rw[aB k] at d;exact h.2 _ _ _ A d
 ·next k=>rw[aA k] at d;exact h.2 _ _ _ A d
theorem TOK.one {w:World} {B A:Nat} {l:List VV} {r:cE} (h:TOK w B A l r):rA l:=fun q F=>by
 obtain⟨j,d⟩:=List.mem_iff_getElem?.1 F;have G:=(eF.1 d).1;obtain⟨H,_,_,I⟩:=h.2 j q _ d (aN (by rw[<-h.1];exact G));exact⟨by rw[H];rfl,I⟩
theorem TOK.fst {w:World} {B A:Nat} {l:List VV} {r:cE} (h:TOK w B A l r):∀(j:Nat) (q:VV),l[j]? =some q->q.1=bQ .i64 ((fun i=>(r.getD i (0,.leaf 0)).1) j):=fun j q d=>by
 have F:=(eF.1 d).1;have G:j<r.length:=by rw[<-h.1];exact F
 have H:r[j]? =some r[j]:=aN G;rw[(h.2 j q _ d H).1]
 grind
theorem aFm:∀{l:List Int},(∀x∈l,0<=x)->0<=l.sum/\∀x∈l,x<=l.sum
 |[],_=>⟨by simp,fun x d=>by simp at d⟩
 |y::l,h=>by
  obtain⟨A,F⟩:=aFm (l:=l) (fun x d=>h x (List.mem_cons_of_mem _ d))
  grind [List.mem_cons_self]
theorem aFn (d:List Int) (G:∀x∈d,1<=x) (t:Nat) (H:t<d.length):∀p∈bS d t,1<=p.1/\p.1<=d.sum:=fun p A=>by
 obtain⟨F,I⟩:=wE.all d G t H;have J:∀p∈bS d t,1<=p.1:=fun p A=>by rw[F.wt p A];exact HT.wt_pos p.2 (F.even p A)
 refine⟨J p A,?_⟩;rw[<-I];refine(aFm (fun x L=>?_)).2 _ (eK.2 ⟨p,A,rfl⟩)
 grind
theorem aFo {d:List Int} {k:Nat} {x:Int} (h:d[k]? =some x):bS (d.take (k+1)) 0=bS (d.take k) 0++[(x,.leaf k)]:=by grind [eF,aQ,cG,rD,bS]
end
end Go.Proofs.YtihbnmlinkbnkaaGreatDoor
