/-
  Texts put together (part 10): the walks and the plain laws on which the statement stands.
-/
import Derived.Deep.AppendLies
import Derived.Test.YtihbnmlinkbnkaaGreatDoorZ7
import Derived.Test.YtihbnmlinkbnkaaGreatDoorZ8
import Derived.Test.YtihbnmlinkbnkaaGreatDoorZ9
set_option maxRecDepth 100000
set_option maxHeartbeats 12800000
set_option linter.unusedVariables false
set_option linter.unusedSimpArgs false
open Go.Proofs.Tryz
open Go.Proofs.Tryz renaming prog->pG
open Go renaming run_underlying->wW
open Go.Instr renaming index->rE
open Go.IntKind renaming bits->IF,i64->aJ,signed->IE,u8->oQ,wrap_i64->aM
open Go.IntWalk renaming i64_in->yM
open Go.Op renaming bytesLess->sF
open Go.RowKit.Below renaming refl->aH
open Go.Value renaming int->bQ
open Go.World renaming size_alloc->fP
open List renaming append_nil->dI,ext_getElem?->lH,getD->jD,length_drop->bA,map_congr_left->vH,pairwise_iff_getElem->DH,range->eT,range_succ->wU,take_of_length_le->cD
open Nat renaming eq_zero_or_pos->jE,le_refl->aD,lt_or_ge->cF,mod_eq_of_lt->jT,zero_le->aO
open Option.some renaming inj->cC
open UInt8 renaming ofNat->eA
namespace Go.Proofs.YtihbnmlinkbnkaaGreatDoor
section
open Go.RowKit
theorem DX {A:Array Oper} {rest:List Oper} {o:Oper} {a:Act} {Q:Exit->Act->World->Prop} {w:World} (F:o.guard=none) (s x:Operand)
  (G:o.op=.call {callee:=.builtin .append,args:=#[s,x],argTypes:=#[48,48]}) (base:Nat) (v:Value) (l:List UInt8) (hs:a.eval s=v) (hown:OwB w base v l)
  (g:Nat) (b:UInt8) (hx:a.eval x=.slice (some ⟨g,0,none⟩) 1 1) (hc:w.cell? ⟨g,0,none⟩=some (.int .u8 (b.toNat:Int))) (hroom:(l.length+1)*1<=140737488355328) (hbase:base<=w.heap.size)
  (h:∀d w',OwB w' base d (l++[b])->Below base w w'->w.grownBy w' v.ownBlock->wpList pG A Q rest (a.put o.dst d) w'):wpList pG A Q (o::rest) a w:=
 tM yU F s x G base v _ hs hown g _ hx hc rfl (by simpa using hroom) hbase (fun d w' H I J=>h d w' (by unfold OwB;rw[IY];exact H) I J)
def sO (s:List UInt8) (k c:Nat):Bool:=dZ (s.take k) c
theorem ZS (s:List UInt8) (k:Nat) (b:UInt8) (h:s[k]? =some b) (c:Nat):sO s (k+1) c=if c=b.toNat then true else sO s k c:=by grind [sO,dZ,List.take_add_one,Option.toList_some]
def gL (f:Nat->Bool):List Value:=(eT 256).map fun c=>.bool (f c)
theorem DY (f:Nat->Bool) (c:Nat) (h:c<256):(gL f)[c]? =some (.bool (f c)):=by simp[gL,h]
theorem aN8 (f f':Nat->Bool) (c:Nat) (v:Bool) (h:∀d,f' d=if d=c then v else f d):(gL f).set c (.bool v)=gL f':=by
 apply lH
 grind [gL,DY]
theorem ZT:Tryz.zeroCells187=(gL (fun _=>false)).toArray:=by kernel_rfl
theorem PU (f:Nat->Bool):(gL f).toArray.size=256:=by simp[gL]
theorem BM (f:Nat->Bool):(pG.info? 187).map (·.size)=some (gL f).toArray.size:=by rw[PU];kernel_rfl
theorem zD:pG.underlying 187=some (.array 256 4):=by kernel_rfl
theorem ZU {w:World} {b:Nat} {e:TypeId} {l:List Value} (h:Arr w b e l) (d:l.length=256) (f:Nat->Bool):
  (storeCells ⟨b,0,none⟩ (gL f)).run pG w=.ok () (w.setRow b (gL f).toArray):=by
 have A:(gL f).length=256:=by simp[gL]
 have F:=run_storeCells_from (P:=pG) b e (gL f) 0 l.toArray w h (by simp[d,A]) (fun v G=>by obtain⟨c,_,rfl⟩:=List.mem_map.1 G;rfl);rw[F]
 congr 2
theorem DZ {B:Nat} {w w':World} (h:Below B w w') (g:Nat) (F:B<=g) (d:Array Value):Below B w (w'.setRow g d):=
 ⟨h.os,h.tape,h.output,by rw[size_setRow];exact h.size,fun k A=>(setRow_other w' g k d (by omega)).trans (h.block k A)⟩
theorem ZV (s:ByteArray) (w:World) (hs:s.size<=140737488355328):
  Calls pG 138 #[.string s] w fun e w'=>e=.returned (.agg (gL (dZ s.data.toList)).toArray)/\Below w.heap.size w w':=by
 have H:=hid (show s.data.toList.length=s.size by simp);go_enter func138,ntmps138;go_wp2_with fail
 go_loopg [3,6] s.size (fun I _s3 J wr=>∃k:Nat,k<=s.size/\I=s.size-k/\J=.int .i64 k/\Arr wr w.heap.size 187 (gL (sO s.data.toList k))/\Below w.heap.size w wr)
 case atStart=>
  refine⟨0,aO _,rfl,rfl,?_,(aH _ _).alloc (aD _) _⟩;rw[ZT,show sO s.data.toList 0=fun _=>false from by funext c;simp[sO,dZ]];exact Arr.new w _ _
 case round=>
 obtain⟨k,hk,A,rfl,d,F⟩:=hrel;have L:=hid A;clear A
 by_cases M:k<s.size
 ·have O:=s[k].toNat_lt;have c1:=d.cell (DY (sO s.data.toList k) s[k].toNat O);have f1:=d.free s[k].toNat;have U:=hid (ZS s.data.toList k s[k] (fW s k M));go_wp2_with fail;have A:=L.out
  go_roundg (s.size-(k+1))
  case measure=>omega
  case rel=>
   refine⟨k+1,by omega,rfl,by go_num,?_,F.setCell (p:=⟨w.heap.size,s[k].toNat,none⟩) (aD _) _⟩;have:=d.set s[k].toNat (.bool true);rwa[aN8 _ (sO s.data.toList (k+1)) _ true U.out] at this
 ·have V:k=s.size:=by omega
  subst V;have G:sO s.data.toList s.size=dZ s.data.toList:=by funext c;unfold sO;rw[cD (by rw[H.out];exact aD _)]
  rw[G] at d;clear G;go_wp2_with fail;refine wp_load_row 187 (.tmp 2) rfl w.heap.size rfl _ _ (0,0) (.array 256 4) d zD rfl (BM _) ?_;have a0:=ZU d (by simp[gL]) (dZ s.data.toList);go_wp2_with fail;have Z:Arr (wr.setRow w.heap.size (gL (dZ s.data.toList)).toArray) w.heap.size 187 (gL (dZ s.data.toList)):=setRow_heap wr w.heap.size _ _ 187 (0,0) d;refine bodyPost_ret (results_cell_row rfl _ _ w.heap.size _ _ (0,0) (.array 256 4) rfl Z zD rfl (BM _)) rfl ?_;exact⟨rfl,DZ F _ (aD _) _⟩
theorem aN9 (d:Array Value) (k:Nat) (A:k<256) (b:Bool) (h:d[k]? =some (.bool b)) (w:World):(rE 187 (.agg d) (.int .i64 (k:Int))).run pG w=.ok (.bool b) w:=by
 have F:(k:Int)<256:=by omega
 simp[rE,wW zD,asIntOf,A,part,isAgg,wW underlying4,h,Result.andThen]
theorem ZW {c:Nat} (h:c<256):(eA c).toNat=c:=by rw[UInt8.toNat_ofNat'];omega
theorem PV (s:ByteArray) (w:World) (hs:s.size<=140737488355328):
  Calls pG 129 #[.string s] w fun e w'=>e=.returned (.string (mkS (bY s.data.toList)))/\Below w.heap.size w w':=by
 go_enter func129,ntmps129;go_wp2_with fail;refine(ZV s _ hs).mono ?_;rintro e w1 ⟨rfl,h1⟩;obtain⟨d,F⟩:∃d,d=(gL (dZ s.data.toList)).toArray:=⟨_,rfl⟩;rw[<-F];have a4:d.size=256:=by rw[F];exact PU _
 have O:∀c,c<256->d[c]? =some (.bool (dZ s.data.toList c)):=fun c hc=>by rw[F];simpa using DY (dZ s.data.toList) c hc
 have a0:=hid O;clear F O;go_wp2_with fail
 go_loopg [3,4,5,8] 256 (fun gh s3 _s4 _s5 s8 wr=>∃k:Nat,k<=256/\gh=256-k/\s8=.int .i64 k/\OwB wr w1.heap.size s3 (kL s.data.toList k)/\Below w1.heap.size w1 wr)
 case atStart=>exact⟨0,by omega,rfl,rfl,Ow.nil _ _ _,aH _ _⟩
 case round=>
 obtain⟨k,hk,G,rfl,I,H⟩:=hrel;have U:=hid G;clear G
 by_cases J:k<256
 ·have t1:decide ((k:Int)<256)=true:=aG (by omega);have t2:(k:Int)<256:=by omega
  have g1:=a0.out k J;have V:(rE 187 (.agg d) (.int .i64 (k:Int))).run pG wr=.ok (.bool (dZ s.data.toList k)) wr:=aN9 d k J _ g1 wr;have g2:oQ.wrap (k:Int)=(k:Int):=by unfold IntKind.wrap;simp[IE,IF];omega
  have a5:=YI s.data.toList k;have a1:=H.size;have Z:=hid (PD s.data.toList k);have e1:((eA k).toNat:Int)=(k:Int):=by rw[ZW J]
  by_cases A:dZ s.data.toList k=true
  ·rw[A] at V;have L:=hid A;clear A;go_wp2_with (at_builtin;refine DX rfl _ _ rfl w1.heap.size _ _ rfl (I.alloc _) wr.heap.size (eA k) rfl ?_ ?_ ?_ ?_;(rw[e1];exact bX _ _ _);omega;(simp;omega);intro v' w3 a2 hB a6);have G:=U.out
   go_roundg (256-(k+1))
   case measure=>omega
   case rel=>
    refine⟨k+1,by omega,rfl,by go_num,?_,(H.alloc a1 _).trans hB⟩;have:=Z.out;rw[aB L.out] at this;rw[this];exact a2
  ·have M:dZ s.data.toList k=false:=by simpa using A
   rw[M] at V;have L:=hid M;clear A M;go_wp2_with fail;have G:=U.out
   go_roundg (256-(k+1))
   case measure=>omega
   case rel=>
    refine⟨k+1,by omega,rfl,by go_num,?_,H⟩;have:=Z.out;rw[aA (by rw[L.out];exact Bool.false_ne_true),dI] at this;rw[this];exact I
 ·have a3:k=256:=by omega
  subst a3;have a7:=mP I.rd;have HE:=hid (show kL s.data.toList 256=bY s.data.toList from rfl);go_wp2_with fail;go_ret;exact⟨yV (by rw[HE.out]),aW h1 H⟩
theorem ZX (s:ByteArray) (c:Nat) (w:World) (V:s.size<=140737488355328) (_hc:c<256):
  Calls pG 207 #[.string s,.int .i64 (c:Int)] w fun e w'=>e=.returned (.bool (dZ s.data.toList c))/\w'=w:=by
 have I:=hid (show s.data.toList.length=s.size by simp);go_enter func207,ntmps207;go_wp2_with fail
 go_loopg [5] s.size (fun J L wr=>∃k:Nat,k<=s.size/\J=s.size-k/\L=.int .i64 k/\Hid (sO s.data.toList k c=false)/\w=wr)
 case atStart=>exact⟨0,aO _,rfl,rfl,hid rfl,rfl⟩
 case round=>
 obtain⟨k,Z,A,rfl,G,rfl⟩:=hrel;have M:=hid A;clear A
 by_cases H:k<s.size
 ·have hb:=s[k].toNat_lt;have O:=hid (ZS s.data.toList k s[k] (fW s k H) c)
  by_cases d:s[k].toNat=c
  ·have t1:((s[k].toNat:Int)==(c:Int))=true:=by rw[beq_iff_eq];omega
   have F:=hid d;clear d;go_wp2_with fail;go_ret;refine⟨sJ ?_,rfl⟩;have U:s[k]∈s.data.toList:=List.mem_of_getElem? (fW s k H);rw[<-F.out];exact((PC s.data.toList s[k]).2 U).symm
  ·have t1:((s[k].toNat:Int)==(c:Int))=false:=by rw[cB];omega
   have F:=hid d;clear d;go_wp2_with fail;have A:=M.out
   go_roundg (s.size-(k+1))
   case measure=>omega
   case rel=>
    refine⟨k+1,by omega,rfl,by go_num,hid ?_,rfl⟩;rw[O.out,aA (fun e=>F.out e.symm)];exact G.out
 ·have a0:k=s.size:=by omega
  go_wp2_with fail;go_ret;refine⟨sJ ?_,rfl⟩;have:=G.out;unfold sO at this;rw[cD (by rw[I.out];omega)] at this;exact this.symm
theorem PX (s:ByteArray) (w:World) (O:s.size<=140737488355328):
  Calls pG 157 #[.string s] w fun e w'=>e=.returned (.string (mkS (bY s.data.toList)))/\Below w.heap.size w w':=by
 go_enter func157,ntmps157;go_wp2_with fail
 go_loopg [3,4] 256 (fun U V Z wr=>∃k:Nat,k<=256/\U=256-k/\Z=.int .i64 k/\OwB wr w.heap.size V (kL s.data.toList k)/\Below w.heap.size w wr)
 case atStart=>exact⟨0,by omega,rfl,rfl,Ow.nil _ _ _,aH _ _⟩
 case round=>
 obtain⟨k,hk,A,rfl,G,F⟩:=hrel;have J:=hid A;clear A
 by_cases L:k<256
 ·have t1:decide ((k:Int)<256)=true:=aG (by omega);have t2:(k:Int)<256:=by omega
  have g2:oQ.wrap (k:Int)=(k:Int):=by unfold IntKind.wrap;simp[IE,IF];omega
  have a3:=YI s.data.toList k;have a0:=F.size;have M:=hid (PD s.data.toList k);have e1:((eA k).toNat:Int)=(k:Int):=by rw[ZW L]
  go_wp2_with fail;refine(ZX s k _ O L).mono ?_;rintro e w1 ⟨rfl,rfl⟩
  by_cases d:dZ s.data.toList k=true
  ·rw[d];have H:=hid d;clear d;go_wp2_with (at_builtin;refine DX rfl _ _ rfl w.heap.size _ _ rfl (G.alloc _) w1.heap.size (eA k) rfl ?_ ?_ ?_ ?_;(rw[e1];exact bX _ _ _);omega;(simp;omega);intro v' w3 a1 hB a4);have A:=J.out
   go_roundg (256-(k+1))
   case measure=>omega
   case rel=>
    refine⟨k+1,by omega,rfl,by go_num,?_,(F.alloc a0 _).trans hB⟩;have:=M.out;rw[aB H.out] at this;rw[this];exact a1
  ·have I:dZ s.data.toList k=false:=by simpa using d
   rw[I];have H:=hid I;clear d I;go_wp2_with fail;have A:=J.out
   go_roundg (256-(k+1))
   case measure=>omega
   case rel=>
    refine⟨k+1,by omega,rfl,by go_num,?_,F⟩;have:=M.out;rw[aA (by rw[H.out];exact Bool.false_ne_true),dI] at this;rw[this];exact G
 ·have a2:k=256:=by omega
  subst a2;have a5:=mP G.rd;have HE:=hid (show kL s.data.toList 256=bY s.data.toList from rfl);go_wp2_with fail;go_ret;exact⟨yV (by rw[HE.out]),F⟩
theorem aPp {n:Nat} {f f':Nat->Int} (h:∀d,d<n->f d=f' d):tab n f=tab n f':=by grind [vH,tab]
theorem aPq (s:ByteArray) {k:Nat} (h:k<s.size):cQ s k=s[k].toNat:=by grind [aPl,fW,cQ]
theorem aPr (s:ByteArray) (w:World) (hn:s.size<=1000000) (g1:0<s.size):
  Calls pG 192 #[.string s] w fun e w'=>∃v o,e=.returned v/\Ord (cQ s) s.size s.size o/\OwI w' w.heap.size v (iY s.size o)/\Below w.heap.size w w':=by
 go_enter func192,ntmps192;go_wp2_with (at_make;refine mkA jL rfl _ _ rfl s.size rfl rfl ?_ ?_;omega)
 go_loopg [2,4,15] s.size (fun gh s2 _s4 e7 wr=>∃k:Nat,k<=s.size/\gh=s.size-k/\e7=.int .i64 k/\(k=0->s2=.slice none 0 0)/\OwI wr (w.heap.size+2) s2 (iY k (fun d=>(d:Int)))/\
   Arr wr w.heap.size 3 (tab s.size (fun d=>if d<k then(cQ s d:Int) else 0))/\Arr wr (w.heap.size+1) 298 [.string s,.slice (some ⟨w.heap.size,0,none⟩) s.size s.size,.int .i64 0]/\
   Below w.heap.size w wr/\w.heap.size+2<=wr.heap.size)
 case atStart=>
  refine⟨0,aO _,rfl,rfl,fun _=>rfl,OwI.nil _ _,?_,?_,(zB _ _).trans ((aH _ _).alloc (by simp) _),by simp⟩
  ·have:=(Arr.made w 3 (.int .i64 0) s.size).alloc (.cells #[.string s,.slice (some ⟨w.heap.size,0,none⟩) s.size s.size,.int .i64 0] 298);rw[JB] at this;have e:(fun d=>if d<0 then(cQ s d:Int) else 0)=fun _=>(0:Int):=by funext d;simp
   rw[e];exact this
  ·have:=Arr.new (w.alloc (.cells (gW (.int .i64 0) s.size) 3)) 298 [.string s,.slice (some ⟨w.heap.size,0,none⟩) s.size s.size,.int .i64 0];rwa[fP] at this
 case round=>
  obtain⟨k,hk,J,rfl,d8,b7,a4,F,G,e8⟩:=hrel;have HG:=hid J;have g2:=hid d8;clear J d8
  by_cases a0:k<s.size
  ·have hb:s[k].toNat<256:=s[k].toNat_lt;have HB:=hid (aPq s a0);go_wp2_with (at_builtin;refine gK rfl _ _ rfl (w.heap.size+2) _ _ rfl (b7.alloc _) wr.heap.size (k:Int) rfl ?_ ?_ ?_ ?_;(exact bX _ _ _);(rw[qE];omega);(simp;omega);intro v' w1 e9 hB g3;(have b8:=(a4.alloc (.cells #[.int .i64 (k:Int)] 3)).below hB (by omega));(have a2:=(F.alloc (.cells #[.int .i64 (k:Int)] 3)).below hB (by omega)));have I:w1.cell? ⟨w.heap.size+1,1,none⟩=some (.slice (some ⟨w.heap.size,0,none⟩) s.size s.size):=a2.cell rfl
   have L:=b8.cell (lM s.size (fun d=>if d<k then(cQ s d:Int) else 0) k a0);have f1:=b8.free k;have f0:=hB.size;rw[fP] at f0
   go_region
   all_goals go_wp2
   have J:=HG.out
   go_roundg (s.size-(k+1))
   case measure=>omega
   case rel=>
    refine⟨k+1,by omega,rfl,by go_num,fun h=>by omega,?_,?_,?_,?_,?_⟩
    ·rw[aPe];exact Ow.drewN (ownsRow_setCell_below e9 (by show w.heap.size<_;omega) _) 1
    ·have e:=uE s.size (fun d=>if d<k then(cQ s d:Int) else 0) (fun d=>if d<k+1 then(cQ s d:Int) else 0) k (s[k].toNat:Int) (fun d _=>by
      by_cases h1:d=k
      ·rw[aB h1,h1];show(if k<k+1 then(cQ s k:Int) else 0)=_;rw[aB (by omega),HB.out]
      ·rw[aA h1]
       by_cases h2:d<k
       ·show(if d<k+1 then(cQ s d:Int) else 0)=(if d<k then(cQ s d:Int) else 0);rw[aB (by omega),aB h2]
       ·show(if d<k+1 then(cQ s d:Int) else 0)=(if d<k then(cQ s d:Int) else 0);rw[aA (by omega),aA h2])
     rw[<-e];exact(b8.set k _).drewN 1
    ·exact(a2.other ⟨w.heap.size,k,none⟩ (by simp) _).drewN 1
    ·exact(((G.alloc (by omega) _).trans (hB.mono (by omega))).setCell (aD _) _).drew
    ·show w.heap.size+2<=(w1.setCell _ _).heap.size;exact Nat.le_trans (by omega) (gD w1 _ _ _).size
  ·have f3:k=s.size:=by omega
   subst f3;have d9:Arr wr w.heap.size 3 (tab s.size (fun d=>(cQ s d:Int))):=by
    rw[aPp (f':=fun d=>if d<s.size then(cQ s d:Int) else 0) (fun d A=>(aB A).symm)];exact a4
   clear a4 a0;rcases jE s.size with h0|h0
   ·omega
   ·obtain⟨g,cap,hv,g4,A,e0⟩:=aPg b7 (by intro e;have:=congrArg List.length e;rw[qE,List.length_nil] at this;omega);subst hv;rw[qE] at A ⊢;have a1:Dat wr g cap s.size (fun d=>(d:Int)):=A.congr (fun d A=>by simp[jD,BP _ _ _ A]);clear A b7 hk;obtain⟨wo,rfl⟩:∃wo:World,wo=wr:=⟨_,rfl⟩;go_wp2_with fail
    go_loopg [2,5,6] s.size (fun gh s2 _s5 _s6 wr=>∃(M b:Nat) (r o:Nat->Int),M<s.size/\gh=s.size-M/\s2=.slice (some ⟨g,0,none⟩) s.size cap/\Dat wr g cap s.size o/\
     Hid ((∀k,k<s.size->0<=o k/\o k<(s.size:Int))/\∀i j,i<j->j<s.size->o i≠o j)/\Arr wr b 3 (tab s.size r)/\
     Arr wr (w.heap.size+1) 298 [.string s,.slice (some ⟨b,0,none⟩) s.size s.size,.int .i64 (M:Int)]/\Hid (rL (cQ s) s.size (max M 1) r)/\b≠g/\w.heap.size<=b/\b≠w.heap.size+1/\
     Below w.heap.size w wr)
    case atStart=>exact⟨0,w.heap.size,_,_,h0,rfl,rfl,a1,hid ⟨fun k hk=>by show 0<=(k:Int)/\(k:Int)<(s.size:Int);omega,fun i j h1 h2=>by show(i:Int)≠(j:Int);omega⟩,d9,F,hid (aPm s),by omega,aD _,by omega,G⟩
    case round=>
     clear a1 F G d9 e8;obtain⟨M,b,r,o,g5,J,rfl,A,HO,hr,F,HK,b9,g6,g7,G⟩:=hrel;have f4:=hid J;clear J;obtain⟨wp,rfl⟩:∃wp:World,wp=wr:=⟨_,rfl⟩;go_wp2_with fail;refine(aPj g cap s.size o _ A hn HO.out.1 HO.out.2).mono ?_;rintro e w1 ⟨rfl,e2,b0⟩;have c5:=hr.grown b0 (fun e=>b9 (cC e));have a2:=F.grown b0 (fun e=>by have:=cC e;omega);have c6:=G.trans (YQ b0 (B:=w.heap.size) (by omega) G.size);clear A hr F G b0;have c0:=a2.cell (i:=0) rfl;have I:=a2.cell (i:=1) rfl;have L:=a2.cell (i:=2) rfl
     have c7:=aPd s b g cap s.size M r w1 (cQ s) rfl hn (by omega) c5 b9 e2 e0 (xI s) HK.out;unfold uH tO at c7;have HS:=hid c7;clear c7;go_wp2_with fail;refine HS.out.mono ?_;rintro e w2 ⟨rfl,⟨h,hO,b1⟩,b2⟩;have c8:=c5.grown b2 (fun e=>b9 (cC e));have c9:=a2.grown b2 (fun e=>by have:=cC e;omega);have b3:=c6.trans (YQ b2 (B:=w.heap.size) (by omega) c6.size);have O:=hid hO;clear HS HO hO e2 c5 a2 c6 b2 c0 I L;go_wp2_with (at_make;refine mkA jL rfl _ _ rfl s.size rfl rfl ?_ ?_;omega)
     go_loopg [6] (s.size-1) (fun gh s6 wr=>∃(p:Nat) (f:Nat->Int),1<=p/\p<=s.size/\gh=s.size-p/\s6=.int .i64 p/\Dat wr g cap s.size h/\Arr wr b 3 (tab s.size r)/\
      Arr wr (w.heap.size+1) 298 [.string s,.slice (some ⟨b,0,none⟩) s.size s.size,.int .i64 (M:Int)]/\Arr wr w2.heap.size 3 (tab s.size f)/\
      Hid (∀j,j<p->f (h j).toNat=vr (cQ s) (max (2*M) 1) h j)/\Below w.heap.size w wr)
     case atStart=>
      refine⟨1,fun _=>0,aD _,h0,?_,rfl,b1.below (zB _ _) b1.lt,c8.alloc _,c9.alloc _,?_,hid (fun j hj=>?_),b3.alloc b3.size _⟩
      ·rfl
      ·have:=Arr.made w2 3 (.int .i64 0) s.size;rwa[JB] at this
      ·have:j=0:=by omega
       subst this;rfl
     case round=>
      have g8:=b3.size;have g9:=b1.lt;have i0:=c8.lt;have i1:=c9.lt;clear b1 c8 c9 b3;obtain⟨p,f,f5,i2,J,rfl,A,hr,F,U,HV,G⟩:=hrel;have e3:=hid J;clear J
      by_cases a0:p<s.size
      ·obtain⟨x,hx⟩:∃x,x=(h p).toNat:=⟨_,rfl⟩;obtain⟨y,hy⟩:∃y,y=(h (p-1)).toNat:=⟨_,rfl⟩;have bx:=O.out.rng p a0;have f6:=O.out.rng (p-1) (by omega);have ex:h p=(x:Int):=by omega
       have ey:h (p-1)=(y:Int):=by omega
       have b4:x<s.size:=by omega
       have d3:y<s.size:=by omega
       have I:=A.cell (k:=p) a0;have L:=A.cell (k:=p-1) (by omega);rw[ex] at I;rw[ey] at L;have c3:=U.cell (lM s.size f y d3);have c4:=U.cell (lM s.size f x b4);have f1:=U.free x;have hz:=HV.out (p-1) (by omega);rw[<-hy] at hz;have vb:=aPk (cQ s) (max (2*M) 1) h (p-1);rw[<-hz] at vb;obtain⟨z,e4⟩:∃z,z=f y:=⟨_,rfl⟩;rw[<-e4] at c3 vb hz;have HX:=hid hx;have HY:=hid hy;have EX:=hid ex;have EY:=hid ey;have HZ:=hid hz;clear hx hy ex ey hz e4 bx f6;have s1:aJ.wrap ((p:Int)-1)=(p:Int)-1:=yM _ (by omega);have s2:((p:Int)-1).toNat=p-1:=by omega
       have s3:(0:Int)<=(p:Int)-1:=by omega
       have s4:(p:Int)-1<(s.size:Int):=by omega
       have s6:(1:Int)<=(p:Int):=by omega
       have i3:(p:Int)<(s.size:Int):=by omega
       have i4:(0:Int)<=(p:Int):=by omega
       have s7:1<=p:=f5;have s8:0<p:=by omega
       have s9:(p:Int)<=(s.size:Int):=by omega
       go_wp2_with fail
       go_cut [] (fun V=>Dat V g cap s.size h/\Arr V b 3 (tab s.size r)/\Arr V (w.heap.size+1) 298 [.string s,.slice (some ⟨b,0,none⟩) s.size s.size,.int .i64 (M:Int)]/\
        Arr V w2.heap.size 3 (tab s.size (iX f x z))/\Below w.heap.size w V)
       case first=>as_aux_lemma=>
        go_region
        all_goals go_wp2_with fail
        all_goals go_meet
        exact⟨(A.other _ (by show w2.heap.size≠g;omega) _).drew,(hr.other _ (by show w2.heap.size≠b;omega) _).drewN 1,(F.other _ (by show w2.heap.size≠w.heap.size+1;omega) _).drewN 1,
         (by have e:=uE s.size f (iX f x z) x z (fun d _=>rfl);rw[<-e];exact(U.set x _).drewN 1),(G.setCell (by show w.heap.size<=w2.heap.size;omega) _).drew⟩
       case rest=>
        obtain⟨a1,a5,a3,b5,b6⟩:=hcut;clear A hr F U G I L c3 c4 f1;have I:=a1.cell (k:=p) a0;have L:=a1.cell (k:=p-1) (by omega);rw[EX.out] at I;rw[EY.out] at L;have d0:=a3.cell (i:=0) rfl;have d1:=a3.cell (i:=1) rfl;have d2:=a3.cell (i:=2) rfl;obtain⟨Z,d4⟩:∃Z:World,Z=wc:=⟨_,rfl⟩;rw[<-d4] at a1 a5 a3 b5 b6 I L d0 d1 d2;rw[<-d4];clear d4;go_wp2_with fail
        go_cut [71] (fun f7 V=>f7=.bool (vV r s.size M y x != 0)/\Dat V g cap s.size h/\Arr V b 3 (tab s.size r)/\Arr V (w.heap.size+1) 298 [.string s,.slice (some ⟨b,0,none⟩) s.size s.size,.int .i64 (M:Int)]/\
         Arr V w2.heap.size 3 (tab s.size (iX f x z))/\Below w.heap.size w V)
        case first=>as_aux_lemma=>
         have d5:∀W,Arr W b 3 (tab s.size r)->Calls pG 239 #[tO s b s.size M,.int .i64 (y:Int),.int .i64 (x:Int)] W fun e w'=>e=.returned (.int .i64 (vV r s.size M y x))/\Below W.heap.size W w':=
          fun W hW=>ZO s b s.size M y x r W rfl hn (by omega) d3 b4 hW
         unfold tO at d5;have HC:=hid d5;clear d5;have f8:=a5.lt;have i5:=DV ⟨d0,d1,d2,L,I,aH Z.heap.size Z,aD _⟩ (aH Z.heap.size Z).drew;clear I L d0 d1 d2
         go_region_held3 (fun w'=>w'.cell? ⟨w.heap.size+1,0,none⟩=some (.string s)/\w'.cell? ⟨w.heap.size+1,1,none⟩=some (.slice (some ⟨b,0,none⟩) s.size s.size)/\w'.cell? ⟨w.heap.size+1,2,none⟩=some (.int .i64 (M:Int))/\
           w'.cell? ⟨g,p-1,none⟩=some (.int .i64 (y:Int))/\w'.cell? ⟨g,p,none⟩=some (.int .i64 (x:Int))/\Below Z.heap.size Z w'/\Z.heap.size<=w'.heap.size)
          (first
           |with_reducible assumption
           |with_reducible exact DV (by assumption) (by assumption))
          (first
           |(go_at_call 239;refine(HC.out _ (PS a5 f8 (by assumption))).mono ?_;rintro e w' ⟨rfl,hb⟩))
         all_goals go_wp2_with fail
         all_goals go_meet
         all_goals(have hb:=ZN (aH Z.heap.size Z) (by assumption) (aD _);exact⟨rfl,a1.below hb a1.lt,a5.below hb a5.lt,a3.below hb a3.lt,b5.below hb b5.lt,b6.trans (hb.mono b6.size)⟩)
        case rest=>
         obtain⟨rfl,A,hr,F,U,G⟩:=hcut;clear a1 a5 a3 b5 b6 I L d0 d1 d2;have a7:=(ZK (x:=y) (y:=x) (xI s) HK.out d3 b4).2;rw[<-ZM] at a7;have a8:=QG (cQ s) (max (2*M) 1) h (p-1);rw[show p-1+1=p by omega,<-HX.out,<-HY.out,<-HZ.out] at a8
         by_cases a6:vV r s.size M y x=0
         ·have t1:(vV r s.size M y x != 0)=false:=by simp[a6]
          have a9:vr (cQ s) (max (2*M) 1) h p=z:=(a8.resolve_right (fun q=>q.1 (a7.1 a6))).2;have d6:=hid a9;clear a9 a8 a7 a6;rw[t1];clear t1;go_wp2_with fail;have J:=e3.out
          go_roundg (s.size-(p+1))
          case measure=>omega
          case rel=>
           refine⟨p+1,iX f x z,by omega,by omega,rfl,by go_num,A,hr,F,U,hid (fun j hj=>?_),G⟩;unfold iX;rcases cF j p with q|q
           ·have f9:=O.out.ne (i:=j) (j:=p) (by omega) a0 (by omega);have bj:=O.out.rng j (by omega);have ep:=EX.out;rw[aA (by omega)];exact HV.out j q
           ·have:j=p:=by omega
            subst this;rw[aB HX.out.symm,d6.out]
         ·have t1:(vV r s.size M y x != 0)=true:=by simp[a6]
          have a9:vr (cQ s) (max (2*M) 1) h p=z+1:=(a8.resolve_left (fun q=>a6 (a7.2 q.1))).2;have d6:=hid a9;have I:=A.cell (k:=p) a0;rw[EX.out] at I;have c4:=U.cell (lM s.size (iX f x z) x b4);have f1:=U.free x;have ez:iX f x z x=z:=by unfold iX;rw[aB rfl]
          rw[ez] at c4;have i6:aJ.wrap (z+1)=z+1:=yM _ (by omega);clear a9 a8 a7 a6 ez;rw[t1];clear t1;go_wp2_with fail;have J:=e3.out
          go_roundg (s.size-(p+1))
          case measure=>omega
          case rel=>
           refine⟨p+1,iX (iX f x z) x (z+1),by omega,by omega,rfl,by go_num,A.other _ (by show w2.heap.size≠g;omega) _,hr.other _ (by show w2.heap.size≠b;omega) _,F.other _ (by show w2.heap.size≠w.heap.size+1;omega) _,?_,hid (fun j hj=>?_),G.setCell (by show w.heap.size<=w2.heap.size;omega) _⟩
           ·have e:=uE s.size (iX f x z) (iX (iX f x z) x (z+1)) x (z+1) (fun d _=>rfl);rw[<-e];exact U.set x _
           ·unfold iX;rcases cF j p with q|q
            ·have f9:=O.out.ne (i:=j) (j:=p) (by omega) a0 (by omega);have bj:=O.out.rng j (by omega);have ep:=EX.out;rw[aA (by omega),aA (by omega)];exact HV.out j q
            ·have:j=p:=by omega
             subst this;rw[aB HX.out.symm,d6.out]
      ·have g0:p=s.size:=by omega
       subst g0;have c0:=F.cell (i:=0) rfl;have I:=F.cell (i:=1) rfl;have L:=F.cell (i:=2) rfl;have f1:=F.free 1;have f2:=F.free 2;have a4:=aNx O.out (v:=vr (cQ s) (max (2*M) 1) h) (r:=f) (fun i _=>QG _ _ _ i) (fun i hi=>HV.out i hi);have e5:=hid a4;clear a4;obtain⟨H,e6⟩:∃H,H=max (2*M) 1:=⟨_,rfl⟩;rw[<-e6] at e5 O;have e1:max (2*(M:Int)) 1=((H:Nat):Int):=by omega
       have i7:M<H:=by omega
       have i8:H<=2*s.size:=by omega
       have i9:1<=H:=by omega
       clear e6
       by_cases d7:s.size<=H
       ·have t1:decide ((s.size:Int)<=(H:Int))=true:=by simp;omega
        have t2:decide (s.size<=H)=true:=by simpa using d7
        go_wp2_with fail;go_ret;exact⟨_,h,rfl,O.out.full (xI s) h0 d7,aPh ((A.other _ (by show w.heap.size+1≠g;omega) _).other _ (by show w.heap.size+1≠g;omega) _) (by omega) e0,
         (G.setCell (by show w.heap.size<=w.heap.size+1;omega) _).setCell (by show w.heap.size<=w.heap.size+1;omega) _⟩
       ·have t1:decide ((s.size:Int)<=(H:Int))=false:=by simp;omega
        have t2:decide (s.size<=H)=false:=by simpa using d7
        go_wp2_with fail;have J:=f4.out
        go_roundg (s.size-H)
        case measure=>omega
        case rel=>
         exact⟨H,w2.heap.size,f,h,by omega,rfl,rfl,(A.other _ (by show w.heap.size+1≠g;omega) _).other _ (by show w.heap.size+1≠g;omega) _,hid ⟨O.out.rng,fun i j h1 h2=>O.out.ne (by omega) h2 (by omega)⟩,
          (U.other _ (by show w.heap.size+1≠w2.heap.size;omega) _).other _ (by show w.heap.size+1≠w2.heap.size;omega) _,(F.set 1 _).set 2 _,hid (by rw[show max H 1=H by omega];exact e5.out),by omega,by omega,by omega,
          (G.setCell (by show w.heap.size<=w.heap.size+1;omega) _).setCell (by show w.heap.size<=w.heap.size+1;omega) _⟩
theorem aPs (s:ByteArray) (w:World) (A:s.size<=1000000):
  Calls pG 192 #[.string s] w fun e w'=>∃v o,e=.returned v/\Ord (cQ s) s.size s.size o/\OwI w' w.heap.size v (iY s.size o)/\Below w.heap.size w w':=by
 rcases jE s.size with d|d
 ·have e:=aPn d;subst e;refine(aPo w).mono ?_;rintro e w' ⟨rfl,F⟩;exact⟨_,fun _=>0,rfl,⟨fun k G=>by simp at G,fun i j _ _ h=>by simp at h⟩,OwI.nil _ _,F⟩
 ·exact aPr s w A d
def rot (s:ByteArray) (k:Nat):List UInt8:=s.data.toList.drop k++s.data.toList.take k
theorem EE (s:ByteArray) (k:Nat) (h:k<=s.size):(rot s k).length=s.size:=by
 simp[rot];omega
theorem QH (s:ByteArray) (k i:Nat) (A:k<s.size) (hi:i<s.size):(rot s k)[i]? =some (s.data.toList.getD ((k+i)%s.size) 0):=by
 have d:s.data.toList.length=s.size:=by simp
 unfold rot;rcases cF i (s.size-k) with h|h
 ·grind [List.getElem?_append_left,bA,jT,jD,List.getElem?_eq_getElem,rot]
 ·rw[List.getElem?_append_right (by grind),bA,List.getElem?_take_of_lt (by omega),d];have e:(k+i)%s.size=i-(s.size-k):=by
   rw[Nat.mod_eq_sub_mod (by omega),jT (by omega)];omega
  grind
theorem QI (s:ByteArray) (k:Nat):s.extract k s.size++s.extract 0 k=mkS (rot s k):=by
 rw[iW,iW,sI];unfold rot;rw[List.drop_zero,Nat.sub_zero,cD (by simp)]
theorem aPu (s:ByteArray) (k:Nat) (w:World) (A:s.size<=1000000) (F:k<=s.size):
  Calls pG 193 #[.agg #[.string s],.int .i64 (k:Int)] w fun e w'=>e=.returned (.string (mkS (rot s k)))/\Below w.heap.size w w':=by
 have e:=QI s k;have d:=hid e;clear e;go_enter func193,ntmps193;go_wp2
 go_quiet (fail)
 go_wp2;go_ret;exact⟨yV d.out,kY (zB _ _) _⟩
theorem aPt (s:ByteArray) (k:Nat) (w:World) (A:s.size<=1000000) (F:k<=s.size):
  Calls pG 209 #[.string s,.int .i64 (k:Int)] w fun e w'=>e=.returned (.string (mkS (rot s k)))/\Below w.heap.size w w':=by
 have e:=QI s k;have d:=hid e;clear e;go_enter func209,ntmps209;go_wp2
 go_quiet (fail)
 go_wp2;go_ret;exact⟨yV d.out,kY (aH _ _) _⟩
def eM (s:ByteArray) (o:Nat->Int) (k:Nat):List UInt8:=(eT k).map (fun i=>s.data.toList.getD (((o i).toNat+(s.size-1))%s.size) 0)
theorem xJ (s:ByteArray) (o:Nat->Int) (k:Nat):(eM s o k).length=k:=by simp[eM]
theorem QJ (s:ByteArray) (o:Nat->Int) (k:Nat):eM s o (k+1)=eM s o k++[s.data.toList.getD (((o k).toNat+(s.size-1))%s.size) 0]:=by simp[eM,wU]
def gX (o:Nat->Int):Nat->Nat
 |0=>0
 |k+1=>if o k=0 then k else gX o k
theorem aAr (o:Nat->Int):∀k,gX o k<=k:=by
 intro k
 induction k with
 |zero=>exact aD _
 |succ k d=>
   unfold gX;by_cases h:o k=0
   ·grind
   ·grind
theorem aAs {A:Array Oper} {rest:List Oper} {o:Oper} {a:Act} {Q:Exit->Act->World->Prop} {w:World} (F:o.guard=none) (s x:Operand)
  (G:o.op=.call {callee:=.builtin .append,args:=#[s,x],argTypes:=#[48,48]}) (base:Nat) (v:Value) (l:List UInt8) (hs:a.eval s=v) (hown:OwB w base v l)
  (g:Nat) (b:UInt8) (hx:a.eval x=.slice (some ⟨g,0,none⟩) 1 1) (hc:w.cell? ⟨g,0,none⟩=some (.int .u8 (b.toNat:Int))) (hroom:(l.length+1)*1<=140737488355328) (hbase:base<=w.heap.size)
  (h:∀d w',OwB w' base d (l++[b])->Below base w w'->w.grownBy w' v.ownBlock->wpList pG A Q rest (a.put o.dst d) w'):wpList pG A Q (o::rest) a w:=
 tM yU F s x G base v _ hs hown g _ hx hc rfl (by simpa using hroom) hbase (fun d w' H I J=>h d w' (by unfold OwB;rw[IY];exact H) I J)
theorem aPv (s:ByteArray) (w:World) (V:s.size<=1000000):
  Calls pG 128 #[.string s] w fun e w'=>
   ∃o,Ord (cQ s) s.size s.size o/\e=.returned (.tuple #[.string (mkS (eM s o s.size)),.int .i64 ((gX o s.size:Nat):Int)])/\Below w.heap.size w w':=by
 go_enter func128,ntmps128;go_wp2_with fail;refine(aPs s _ V).mono ?_;rintro e w1 ⟨v,o,rfl,Z,F,a0⟩;obtain⟨a,cap,rfl,a8,a9,L⟩:=F.rd.open;rw[qE] at a8 L ⊢;unfold maxLen at a9;have HO:=hid Z;have HA:=hid L;clear Z L F;go_wp2_with fail
 go_loopg [3,4,5,6,7,11] s.size (fun gh s3 s4 _s5 _s6 _s7 b0 wr=>∃k:Nat,k<=s.size/\gh=s.size-k/\b0=.int .i64 k/\s3=.int .i64 ((gX o k:Nat):Int)/\OwB wr w1.heap.size s4 (eM s o k)/\Below w1.heap.size w1 wr)
 case atStart=>exact⟨0,aO _,rfl,rfl,rfl,Ow.nil _ _ _,aH _ _⟩
 case round=>
  obtain⟨k,hk,I,rfl,rfl,F,H⟩:=hrel;have HG:=hid I;clear I
  by_cases a1:k<s.size
  ·obtain⟨b,off,rfl,b1,hc⟩:=HA.out (by omega);have b2:=HO.out.rng k a1;obtain⟨A,a2⟩:∃A,A=(o k).toNat:=⟨_,rfl⟩;have M:o k=(A:Int):=by omega
   have b3:A<s.size:=by omega
   have c1:=(H.cell (p:=⟨b,off+k,none⟩) b1).trans (hc k _ (BP _ _ _ a1));rw[M] at c1;have EK:=hid M;have a3:=hid a2;clear M a2 b2 hc;go_wp2_with fail;refine(aPu s A _ V (by omega)).mono ?_;rintro e w2 ⟨rfl,a4⟩;obtain⟨t,J⟩:∃t,t=mkS (rot s A):=⟨_,rfl⟩;rw[<-J];have b8:t.size=s.size:=by rw[J,cS,EE _ _ (by omega)]
   obtain⟨d,hd⟩:∃d,d=s.size-1:=⟨_,rfl⟩;have b4:d<s.size:=by omega
   have b5:d<t.size:=by omega
   have ed:(s.size:Int)-1=(d:Int):=by omega
   have a5:t[d]=s.data.toList.getD ((A+d)%s.size) 0:=by
    have h1:=fW t d b5;rw[show t.data.toList=rot s A by rw[J];rfl,QH s A d b3 b4] at h1;exact(cC h1).symm
   have a6:=hid a5;have HD:=hid hd;have hb:=t[d].toNat_lt;have a7:=F.below a4 (aD _);have G:=H.trans (a4.mono H.size);clear F H a5 J hd
   by_cases h0:A=0
   ·have t1:((A:Int)==0)=true:=by rw[beq_iff_eq];omega
    go_wp2_with (at_builtin;refine aAs rfl _ _ rfl w1.heap.size _ _ rfl (a7.alloc _) w2.heap.size t[d] rfl ?_ ?_ ?_ ?_;(exact bX _ _ _);(rw[xJ];omega);(have:=G.size;simp;omega);intro v' w3 O U b6);have I:=HG.out
    go_roundg (s.size-(k+1))
    case measure=>omega
    case rel=>
     refine⟨k+1,by omega,rfl,by go_num,?_,?_,(G.alloc G.size _).trans U⟩
     ·unfold gX;rw[aB (by rw[EK.out];omega)]
     ·rw[QJ,<-a3.out,<-HD.out,<-a6.out];exact O
   ·have t1:((A:Int)==0)=false:=by rw[cB];omega
    go_wp2_with (at_builtin;refine aAs rfl _ _ rfl w1.heap.size _ _ rfl (a7.alloc _) w2.heap.size t[d] rfl ?_ ?_ ?_ ?_;(exact bX _ _ _);(rw[xJ];omega);(have:=G.size;simp;omega);intro v' w3 O U b6);have I:=HG.out
    go_roundg (s.size-(k+1))
    case measure=>omega
    case rel=>
     refine⟨k+1,by omega,rfl,by go_num,?_,?_,(G.alloc G.size _).trans U⟩
     ·show _=bQ .i64 (((if o k=0 then k else gX o k:Nat)):Int);rw[aA (by rw[EK.out];omega)]
     ·rw[QJ,<-a3.out,<-HD.out,<-a6.out];exact O
  ·have b7:k=s.size:=by omega
   subst b7;have b9:=mP F.rd;go_wp2_with fail
   go_ret2
   exact⟨o,HO.out,rfl,a0.trans (H.mono a0.size)⟩
theorem aAy (s:ByteArray) (k:Nat) (w:World) (A:s.size<=1000000) (F:k<=s.size):
  Calls pG 209 #[.string s,.int .i64 (k:Int)] w fun e w'=>e=.returned (.string (mkS (rot s k)))/\∃m,w'=w.drewN m:=by
 have e:=QI s k;have d:=hid e;clear e;go_enter func209,ntmps209;go_wp2
 go_quiet (fail)
 go_wp2;go_ret;exact⟨yV d.out,_,rfl⟩
theorem aQa (s:ByteArray) (w:World) (hn:s.size<=1000000)
  (V:∀w,Calls pG 208 #[.string s] w fun e w'=>∃v o,e=.returned v/\Ord (cQ s) s.size s.size o/\OwI w' w.heap.size v (iY s.size o)/\Below w.heap.size w w'):
  Calls pG 158 #[.string s] w fun e w'=>
   ∃o,Ord (cQ s) s.size s.size o/\e=.returned (.tuple #[.string (mkS (eM s o s.size)),.int .i64 ((gX o s.size:Nat):Int)])/\Below w.heap.size w w':=by
 have a7:=hid V;clear V;go_enter func158,ntmps158;go_wp2_with fail;refine(a7.out _).mono ?_;rintro e w1 ⟨v,o,rfl,Z,a0,a1⟩;obtain⟨a,cap,rfl,a8,a9,M⟩:=a0.rd.open;rw[qE] at a8 M ⊢;unfold maxLen at a9;have HO:=hid Z;have HA:=hid M;clear Z M a0;go_wp2_with fail
 go_loopg [5,6,7,8] s.size (fun gh s5 s6 s7 _s8 wr=>∃k:Nat,k<=s.size/\gh=s.size-k/\s7=.int .i64 k/\s6=.int .i64 ((gX o k:Nat):Int)/\s5=.string (mkS (eM s o k))/\Below w1.heap.size w1 wr)
 case atStart=>exact⟨0,aO _,rfl,rfl,rfl,rfl,aH _ _⟩
 case round=>
  obtain⟨k,hk,G,rfl,rfl,rfl,F⟩:=hrel;have HG:=hid G;clear G
  by_cases a2:k<s.size
  ·obtain⟨b,off,rfl,b0,hc⟩:=HA.out (by omega);have b1:=HO.out.rng k a2;obtain⟨A,a3⟩:∃A,A=(o k).toNat:=⟨_,rfl⟩;have O:o k=(A:Int):=by omega
   have b2:A<s.size:=by omega
   have H:=(F.cell (p:=⟨b,off+k,none⟩) b0).trans (hc k _ (BP _ _ _ a2));rw[O] at H;have EK:=hid O;have b3:=hid a3;clear O a3 b1 hc;go_wp2_with fail;refine(aPt s A _ hn (by omega)).mono ?_;rintro e w2 ⟨rfl,a4⟩;obtain⟨t,I⟩:∃t,t=mkS (rot s A):=⟨_,rfl⟩;rw[<-I];have b7:t.size=s.size:=by rw[I,cS,EE _ _ (by omega)]
   obtain⟨d,U⟩:∃d,d=s.size-1:=⟨_,rfl⟩;have b4:d<s.size:=by omega
   have b5:d<t.size:=by omega
   have ed:(s.size:Int)-1=(d:Int):=by omega
   obtain⟨C,J⟩:∃C,C=mkS [s.data.toList.getD ((A+d)%s.size) 0]:=⟨_,rfl⟩;have b8:t.extract d s.size=C:=by
    have h1:=QH s A d b2 b4;have h2:=JA t d b5;rw[show d+1=s.size by omega] at h2;rw[h2,J,show t.data.toList=rot s A by rw[I];rfl,jD,h1];rfl
   have b9:C.size=1:=by rw[J];rfl
   obtain⟨S,L⟩:∃S,S=mkS (eM s o k):=⟨_,rfl⟩;rw[<-L];have c0:S.size<=1000000:=by rw[L,cS,xJ];omega
   have a5:mkS (eM s o (k+1))=S++C:=by
    rw[L,J,sI,QJ,<-b3.out,<-U]
   have HN:=hid a5;have HD:=hid U;have a6:=F.trans (a4.mono F.size);have c2:=(a4.cell (p:=⟨b,off+k,none⟩) (World.block_lt_of_cell? wr _ H)).trans H;have c3:d<=s.size:=by omega
   clear F I U J L a5 H
   by_cases h0:A=0
   ·have t1:((A:Int)==0)=true:=by rw[beq_iff_eq];omega
    go_wp2_with fail;have G:=HG.out
    go_roundg (s.size-(k+1))
    case measure=>omega
    case rel=>
     refine⟨k+1,by omega,rfl,by go_num,?_,by rw[HN.out],a6⟩;unfold gX;rw[aB (by rw[EK.out];omega)]
   ·have t1:((A:Int)==0)=false:=by rw[cB];omega
    go_wp2_with fail;have G:=HG.out
    go_roundg (s.size-(k+1))
    case measure=>omega
    case rel=>
     refine⟨k+1,by omega,rfl,by go_num,?_,by rw[HN.out],a6⟩;show _=bQ .i64 (((if o k=0 then k else gX o k:Nat)):Int);rw[aA (by rw[EK.out];omega)]
  ·have b6:k=s.size:=by omega
   subst b6;go_wp2_with fail
   go_ret2
   exact⟨o,HO.out,rfl,a1.trans (F.mono a1.size)⟩
theorem aQb:∀(t:Nat) (x y:List UInt8) (p q:UInt8),(∀u,u<t->x[u]? =y[u]?)->x[t]? =some p->y[t]? =some q->p.toNat<q.toNat->sF x y=true:=by
 intro t
 induction t with
 |zero=>
  intro x y p q _ d A F
  cases x with
  |nil=>simp at d
  |cons a x=>
   cases y with
   |nil=>simp at A
   |cons b y=>
    simp at d A;subst d;subst A;simp[sF,UInt8.lt_iff_toNat_lt,F]
 |succ t H=>
  intro x y p q h d A F
  cases x with
  |nil=>simp at d
  |cons a x=>
   cases y with
   |nil=>simp at A
   |cons b y=>
    have G:=h 0 (by omega);simp at G d A;subst G;have:=H x y p q (fun u I=>by grind) d A F;simp[sF,this]
theorem aQc (x:List UInt8):sF x x=false:=by
 induction x with
 |nil=>rfl
 |cons a x d=>simp[sF,d]
theorem EF (s:ByteArray) {k i:Nat} (d:k<s.size) (hi:i<s.size):∃b,(rot s k)[i]? =some b/\b.toNat=cQ s (k+i):=⟨_,QH s k i d hi,rfl⟩
theorem aAz (s:ByteArray) {a b i:Nat} (d:a<s.size) (A:b<s.size) (hi:i<s.size) (h:cQ s (a+i)=cQ s (b+i)):(rot s a)[i]? =(rot s b)[i]? :=by grind [EF,UInt8.toNat_inj,cQ,rot]
theorem aQd (s:ByteArray) {a b:Nat} (d:a<s.size) (A:b<s.size) (h:eqm (cQ s) s.size a b):rot s a=rot s b:=by
 apply lH
 grind [aAz,EE,eqm,cQ,rot]
theorem aA0 (s:ByteArray) {a b:Nat} (d:a<s.size) (A:b<s.size) (h:ltm (cQ s) s.size a b):sF (rot s a) (rot s b)=true:=by
 obtain⟨t,t1,F,G⟩:=h
 grind [EF,aQb,aAz,ltm,cQ,rot]
theorem aQe {s:ByteArray} {o d:Nat->Int} {n:Nat} (h:∀k,k<n->o k=d k):eM s o n=eM s d n:=by grind [eM,vH]
theorem aQf {o d:Nat->Int}:∀{n:Nat},(∀k,k<n->o k=d k)->gX o n=gX d n:=by
 intro n
 induction n with
 |zero=>intro _;rfl
 |succ n A=>intro h;unfold gX;rw[h n (by omega),A (fun k F=>h k (by omega))]
end
section
theorem aQg:∀(x y:List UInt8),sF x y=true->sF y x=false:=by
 intro x
 induction x with
 |nil=>
  intro y h
  cases y with
  |nil=>rfl
  |cons b y=>rfl
 |cons a x d=>
  intro y h
  cases y with
  |nil=>simp[sF] at h
  |cons b y=>
   simp only[sF,Bool.or_eq_true,Bool.and_eq_true,decide_eq_true_eq,beq_iff_eq,Bool.or_eq_false_iff,Bool.and_eq_false_iff,decide_eq_false_iff_not] at h ⊢;rcases h with h|⟨A,F⟩
   ·grind
   ·grind
theorem aQh (s:ByteArray) {a b:Nat} (d:a<s.size) (A:b<s.size):sF (rot s a) (rot s b)=true↔ltm (cQ s) s.size a b:=by grind [zA,cQ,aQd,aQc,aQg,aA0,rot,ltm]
def qF (L:List Int) (j:Nat) (k:Int):List Int:=L.take j++k::L.drop j
theorem QL (L:List Int) (j:Nat) (k:Int):(qF L j k).length=L.length+1:=by grind [qF]
theorem QM {R:Int->Int->Prop} {L:List Int} {j:Nat} {k:Int} (h:L.Pairwise R) (d:∀x∈L.take j,R x k) (A:∀x∈L.drop j,R k x):(qF L j k).Pairwise R:=by grind [qF,List.take_sublist,List.pairwise_cons,List.drop_sublist,List.take_append_drop]
theorem QN {L:List Int} {j:Nat} {k:Nat} (h:∀x∈L,0<=x/\x<(k:Int)):∀x∈qF L j k,0<=x/\x<((k+1:Nat):Int):=by grind [qF]
theorem aQi {c:Nat->Nat} {n:Nat} {L:List Int} (h:L.Pairwise (bef c n)) {j:Nat} {y k:Int} (I:0<j) (d:L[j-1]? =some y) (A:bef c n y k):∀x∈L.take j,bef c n x k:=by
 intro x F;obtain⟨i,hi,rfl⟩:=List.mem_iff_getElem.1 F;rw[List.length_take] at hi;rw[List.getElem_take];obtain⟨G,H⟩:=List.getElem?_eq_some_iff.1 d;rcases cF i (j-1) with p|p
 ·have:=DH.1 h i (j-1) (by omega) G p;rw[H] at this;exact(BJ c n).tr _ _ _ this A
 grind
theorem aQj {c:Nat->Nat} {n:Nat} {L:List Int} (d:L.length=n) (A:∀x∈L,0<=x/\x<(n:Int)) (F:L.Pairwise (bef c n)):Ord c n n (fun k=>L.getD k 0):=by
 subst d;refine⟨fun k I=>A _ (by grind),fun i j _ G H=>?_⟩;have:=DH.1 F i j (by omega) H G
 grind
end
section
open Go.RowKit Go Go.Shelf
def sW (s:List UInt8) (k j:Nat):List Bool:=(eT j).map (fun i=>dZ s (16*k+i))
theorem aGe (s:List UInt8) (k j:Nat):sW s k (j+1)=sW s k j++[dZ s (16*k+j)]:=by grind [sW,wU,dZ]
theorem aGf (s:List UInt8) (k j:Nat):(sW s k j).length=j:=by simp[sW]
theorem TM (s:List UInt8) (k:Nat):sW s k 16=iK s k:=rfl
theorem aGg (l:List Bool) (b:Bool):(l++[b]).any id=(l.any id||b):=by simp
theorem aYv (s:ByteArray) (k:Nat) (w:World) (hs:s.size<=140737488355328) (hk:k<16):
  Calls pG 165 #[.string s,.int .i64 (k:Int)] w fun e w'=>∃v,e=.returned (.tuple #[v,.bool (lP s.data.toList k)])/\OwI w' w.heap.size v (bI (iK s.data.toList k))/\Below w.heap.size w w':=by
 obtain⟨q,hq⟩:∃q,q=16*k:=⟨_,rfl⟩;have m1:aJ.wrap (16*(k:Int))=(q:Int):=by rw[aM];omega
 have a7:16*(k:Int)=(q:Int):=by omega
 obtain⟨d,L⟩:∃d,d=q+16:=⟨_,rfl⟩;have m2:aJ.wrap ((q:Int)+16)=(d:Int):=by rw[aM];omega
 have a8:(q:Int)+16=(d:Int):=by omega
 have HQ:=hid hq;have a9:=hid L;have b0:d<=256:=by omega
 have A:d=q+16:=L;have a3:=hid A;clear hq L A;go_enter func165,ntmps165;go_wp2_with fail
 go_loopg [6,7,8,9] 16 (fun g s6 s7 s8 _s9 wr=>∃(j c:Nat) (T:Bool),j<=16/\g=16-j/\s8=.int .i64 (c:Int)/\s7=.bool T/\Hid (c=q+j)/\Hid (T=(sW s.data.toList k j).any id)/\OwI wr w.heap.size s6 (bI (sW s.data.toList k j))/\Below w.heap.size w wr)
 case atStart=>exact⟨0,q,false,by omega,rfl,rfl,rfl,hid rfl,hid rfl,OwI.nil _ _,aH _ _⟩
 case round=>
  obtain⟨j,c,T,hj,F,rfl,rfl,M,HT,G,H⟩:=hrel;have HG:=hid F;clear F;have O:=M.out;have A:=a3.out
  by_cases b1:j<16
  ·have t1:decide ((c:Int)<(d:Int))=true:=aG (by omega);have t2:decide (c<d)=true:=aG (by omega);have a4:c<256:=by omega
   have a0:(bI (sW s.data.toList k j)).length=j:=by rw[cX,aGf]
   have a1:=fun W=>ZX s c W hs a4
   have a2:=H.size;have I:=hid (aGe s.data.toList k j);obtain⟨h,U⟩:∃h,h=dZ s.data.toList c:=⟨_,rfl⟩;rw[<-U] at a1;have J:=hid (show dZ s.data.toList (16*k+j)=h by rw[U,O,HQ.out]);have b2:aJ.wrap ((c:Int)+1)=((c+1:Nat):Int):=by rw[aM];omega
   clear U O A;go_wp2_with fail;refine(a1 _).mono ?_;rintro e w1 ⟨rfl,rfl⟩
   cases h with
   |true=>
    go_wp2_with (at_builtin;refine gK rfl _ _ rfl w.heap.size _ _ rfl (G.alloc _) w1.heap.size (1:Int) rfl ?_ ?_ ?_ ?_;(exact bX _ _ _);(rw[a0];omega);(simp;omega);intro v' w2 V Z a5);have F:=HG.out
    go_roundg (16-(j+1))
    case measure=>omega
    case rel=>exact⟨j+1,c+1,true,by omega,rfl,by go_num,rfl,hid (by have:=M.out;omega),hid (by rw[I.out,J.out,aGg,Bool.or_true]),by rw[I.out,J.out,iT];exact V,(H.alloc a2 _).trans Z⟩
   |false=>
    go_wp2_with (at_builtin;refine gK rfl _ _ rfl w.heap.size _ _ rfl (G.alloc _) w1.heap.size (0:Int) rfl ?_ ?_ ?_ ?_;(exact bX _ _ _);(rw[a0];omega);(simp;omega);intro v' w2 V Z a5);have F:=HG.out
    go_roundg (16-(j+1))
    case measure=>omega
    case rel=>exact⟨j+1,c+1,T,by omega,rfl,by go_num,rfl,hid (by have:=M.out;omega),hid (by rw[I.out,J.out,aGg,Bool.or_false];exact HT.out),by rw[I.out,J.out,iT];exact V,(H.alloc a2 _).trans Z⟩
  ·have t1:decide ((c:Int)<(d:Int))=false:=aE (by omega);have t2:decide (c<d)=false:=aE (by omega);have a6:j=16:=by omega
   subst a6;rw[TM] at G;have HF:=hid (show T=lP s.data.toList k by rw[HT.out,TM];rfl);clear O A;go_wp2_with fail
   go_ret2
   exact⟨_,by rw[HF.out];rfl,G,H⟩
def tV (a b:Value):Prop:=a.ownBlock=none\/b.ownBlock=none\/a.ownBlock≠b.ownBlock
theorem tV.symm {a b:Value} (h:tV a b):tV b a:=by grind [tV]
theorem tV.keeps {a b:Value} (h:tV a b):b.ownBlock=none\/b.ownBlock≠a.ownBlock:=by grind [tV]
theorem tV.left {w:World} {B:Nat} {a d b:Value} {l:List Int} (h:tV a b) (F:OwI w B b l) (G:d.ownBlock=a.ownBlock\/d.ownBlock=some w.heap.size):tV d b:=by
 rcases G with e|e
 ·grind [tV,OwI]
 ·right
  cases H:b.ownBlock with
  |none=>exact .inl rfl
  |some k=>
   right
   rw[e];have:=(Ow.lt F k H).2;intro A
   injection A with A
   omega
end
end Go.Proofs.YtihbnmlinkbnkaaGreatDoor
