/-
  Texts put together (part 17): the walks and the plain laws on which the statement stands.
-/
import Derived.BigRegion
import Derived.Laws.IdiomCopy
import Derived.Test.YtihbnmlinkbnkaaGreatDoorZ10
import Derived.Test.YtihbnmlinkbnkaaGreatDoorZ12
import Derived.Test.YtihbnmlinkbnkaaGreatDoorZ13
import Derived.Test.YtihbnmlinkbnkaaGreatDoorZ14
set_option maxRecDepth 100000
set_option maxHeartbeats 12800000
set_option linter.unusedVariables false
set_option linter.unusedSimpArgs false
open Go.Proofs.Tryz
open Go.Proofs.Tryz renaming prog->pG
open Go renaming bodyPost_ret->fM,results_cell_row->DJ,run_storeCells_from->aLi,run_underlying->wW,setRow_heap->NY
open Go.Addr renaming add->gP
open Go.Fence renaming wide->cZ
open Go.Instr renaming index->rE
open Go.IntKind renaming i64->aJ,u32->sH,u64->eZ,wrap_i64->aM,wrap_u32->uB,wrap_u64->fC
open Go.RowKit.Below renaming refl->aH
open Go.Value renaming int->bQ
open List renaming append_nil->dI,countP_le_length->DI,filter_cons_of_neg->bGo,getD_eq_getElem?_getD->bV,getElem?_eq_getElem->aN,getElem?_of_mem->XQ,length_append->aL,length_map->aS,length_take->aQ,map_append->dY,mem_map->eK,mem_of_getElem?->cN,range->eT,take_length->jS,take_of_length_le->cD
open Nat renaming add_zero->pV,le_refl->aD,le_trans->aR,lt_or_ge->cF,zero_le->aO
namespace Go.Proofs.YtihbnmlinkbnkaaGreatDoor
section
open Go.RowKit Go Go.Shelf
theorem aWr (k:Nat) (x:BitVec 32):mB (k+1) x=if(mB k x).msb then(mB k x)<<<1^^^79764919#32 else(mB k x)<<<1:=rfl
theorem aEp (a:BitVec 32):bits .xor .u32 sH.max (a.toNat:Int)=((~~~ a).toNat:Int):=by
 have h:=CG (0xffffffff#32) a;have e:(((0xffffffff#32:BitVec 32).toNat:Nat):Int)=sH.max:=by decide
 rw[e] at h;rw[h];have:(0xffffffff#32)^^^a= ~~~ a:=by
  have:=BitVec.allOnes_xor (x:=a);exact this
 rw[this]
theorem aWs (i:Nat) (hi:i<256) (w:World):
  Calls pG 114 #[.int .i64 (i:Int)] w fun e w'=>e=.returned (.int .u32 ((nL i).toNat:Int))/\w'=w:=by
 have V:=aWl i hi;have m0:sH.wrap (i:Int)=(i:Int):=by rw[uB];omega
 have a2:(i:Int)%4294967296=(i:Int):=by omega
 obtain⟨A,a0⟩:∃A,A=BitVec.ofNat 32 i<<<24:=⟨_,rfl⟩;obtain⟨I,a1⟩:∃I,I=A.toNat:=⟨_,rfl⟩;rw[<-a0,<-a1] at V;have a3:(i:Int)*16777216%4294967296=(I:Int):=by rw[<-V,uB]
 have HT:=hid (show nL i=mB 8 A by rw[a0];rfl);have a4:=hid a1;clear a1 a0;go_enter func114,ntmps114;go_wp2_with fail
 go_loopg [3,7] 8 (fun g s3 s7 wr=>∃j X:Nat,j<=8/\g=8-j/\s7=.int .i64 (j:Int)/\s3=.int .u32 (X:Int)/\Hid (X=(mB j A).toNat)/\wr=w)
 case atStart=>exact⟨0,I,by omega,rfl,rfl,rfl,a4,rfl⟩
 case round=>
  obtain⟨j,X,hj,J,rfl,rfl,HX,rfl⟩:=hrel;have HG:=hid J;clear J V a3 m0 a2
  by_cases a5:j<8
  ·have t1:decide ((j:Int)<8)=true:=aG (by omega);obtain⟨x,L⟩:∃x,x=mB j A:=⟨_,rfl⟩;have G:=HX.out;rw[<-L] at G;have d:=aWr j A;rw[<-L] at d;have e1:=aWn x;have e2:=SZ x;obtain⟨y,M⟩:∃y,y=x<<<1:=⟨_,rfl⟩;obtain⟨Y,H⟩:∃Y,Y=y.toNat:=⟨_,rfl⟩;have e3:=aEn y;obtain⟨z,O⟩:∃z,z=y^^^79764919#32:=⟨_,rfl⟩;obtain⟨Z,U⟩:∃Z,Z=z.toNat:=⟨_,rfl⟩;rw[<-G] at e1;rw[<-G,<-M,<-H] at e2;rw[<-H,<-O,<-U] at e3;rw[<-M,<-O] at d;have a6:(X:Int)*2%4294967296=(Y:Int):=by rw[<-e2,uB]
   have HY:=hid H;have HZ:=hid U
   by_cases F:x.msb=true
   ·rw[aB F] at e1;rw[aB F] at d;have HS:=hid d;clear L G M H O U d F;go_wp2_with fail;have J:=HG.out
    go_roundg (8-(j+1))
    case measure=>omega
    case rel=>exact⟨j+1,Z,by omega,rfl,by go_num,rfl,hid (by rw[HS.out];exact HZ.out),rfl⟩
   ·rw[aA F] at e1;rw[aA F] at d;have HS:=hid d;clear L G M H O U d F e3;go_wp2_with fail;have J:=HG.out
    go_roundg (8-(j+1))
    case measure=>omega
    case rel=>exact⟨j+1,Y,by omega,rfl,by go_num,rfl,hid (by rw[HS.out];exact HY.out),rfl⟩
  ·have t1:decide ((j:Int)<8)=false:=aE (by omega);have ej:j=8:=by omega
   subst ej;go_wp2_with fail;go_ret;exact⟨eI (by rw[HT.out,<-HX.out]),rfl⟩
def iO (f:Nat->Nat):List Value:=(eT 256).map fun c=>.int .u32 (f c:Int)
theorem LT (f:Nat->Nat) (c:Nat) (h:c<256):(iO f)[c]? =some (.int .u32 (f c:Int)):=by simp[iO,h]
theorem aWt (f f':Nat->Nat) (c:Nat) (v:Nat) (h:∀d,f' d=if d=c then v else f d):(iO f).set c (.int .u32 (v:Int))=iO f':=by
 apply List.ext_getElem?
 grind [iO,LT]
theorem aEq:Tryz.zeroCells159=(iO (fun _=>0)).toArray:=by kernel_rfl
theorem aWu (f:Nat->Nat):(iO f).toArray.size=256:=by simp[iO]
theorem aEr (f:Nat->Nat):(pG.info? 159).map (·.size)=some (iO f).toArray.size:=by rw[aWu];kernel_rfl
theorem aEs:pG.underlying 159=some (.array 256 44):=by kernel_rfl
theorem aEt {w:World} {b:Nat} {e:TypeId} {l:List Value} (h:Arr w b e l) (d:l.length=256) (f:Nat->Nat):
  (storeCells ⟨b,0,none⟩ (iO f)).run pG w=.ok () (w.setRow b (iO f).toArray):=by
 have A:(iO f).length=256:=by simp[iO]
 have F:=aLi (P:=pG) b e (iO f) 0 l.toArray w h (by simp[d,A]) (fun v G=>by obtain⟨c,_,rfl⟩:=eK.1 G;rfl);rw[F]
 congr 2
def uT (k c:Nat):Nat:=if c<k then(nL c).toNat else 0
theorem aWv (k c:Nat):uT (k+1) c=if c=k then(nL k).toNat else uT k c:=by grind [uT,nL]
theorem aWw (w:World):
  Calls pG 113 #[.func (.func 114) #[] #[]] w fun e w'=>e=.returned (.agg (iO (fun c=>(nL c).toNat)).toArray)/\Below w.heap.size w w':=by
 go_enter func113,ntmps113;go_wp2_with fail
 go_loopg [3,4] 256 (fun J _s3 L wr=>∃k:Nat,k<=256/\J=256-k/\L=.int .i64 k/\Arr wr w.heap.size 159 (iO (uT k))/\Below w.heap.size w wr)
 case atStart=>
  refine⟨0,aO _,rfl,rfl,?_,(aH _ _).alloc (aD _) _⟩;rw[aEq,show uT 0=fun _=>0 from by funext c;simp[uT]];exact Arr.new w _ _
 case round=>
 obtain⟨k,V,A,rfl,d,F⟩:=hrel;have M:=hid A;clear A
 by_cases G:k<256
 ·have t1:decide ((k:Int)<256)=true:=aG (by omega);have Z:=d.cell (LT (uT k) k G);have f1:=d.free k;go_wp2_with fail;refine(aWs k G _).mono ?_;rintro e w1 ⟨rfl,rfl⟩;have a0:(k:Int)<256:=by omega
  go_wp2_with fail;have A:=M.out
  go_roundg (256-(k+1))
  case measure=>omega
  case rel=>
   refine⟨k+1,by omega,rfl,by go_num,?_,F.setCell (p:=⟨w.heap.size,k,none⟩) (aD _) _⟩;have:=d.set k (.int .u32 ((nL k).toNat:Int));rwa[aWt _ (uT (k+1)) _ _ (aWv k)] at this
 ·have O:k=256:=by omega
  subst O;have t1:decide ((256:Int)<256)=false:=by decide
  have H:iO (uT 256)=iO (fun c=>(nL c).toNat):=by
   unfold iO;apply List.map_congr_left;intro c I;rw[List.mem_range] at I;unfold uT;rw[aB I]
  rw[H] at d;clear H;go_wp2_with fail;refine wp_load_row 159 (.tmp 2) rfl w.heap.size rfl _ _ (0,0) (.array 256 44) d aEs rfl (aEr _) ?_;have a1:=aEt d (by simp[iO]) (fun c=>(nL c).toNat);go_wp2_with fail;have U:Arr (wr.setRow w.heap.size (iO (fun c=>(nL c).toNat)).toArray) w.heap.size 159 (iO (fun c=>(nL c).toNat)):=NY wr w.heap.size _ _ 159 (0,0) d;refine fM (DJ rfl _ _ w.heap.size _ _ (0,0) (.array 256 44) rfl U aEs rfl (aEr _)) rfl ?_;exact⟨rfl,DZ F _ (aD _) _⟩
theorem aWx (c:BitVec 32) (s:ByteArray) (w:World) (hs:s.size<=140737488355328):
  Calls pG 68 #[.int .u32 (c.toNat:Int),.string s] w fun e w'=>e=.returned (.int .u32 ((~~~ nM (~~~ c) s.data.toList).toNat:Int))/\Below w.heap.size w w':=by
 have HL:=hid (show s.data.toList.length=s.size by simp);have H:=aEp c;obtain⟨C,hC⟩:∃C,C=c.toNat:=⟨_,rfl⟩;obtain⟨D,I⟩:∃D,D=(~~~ c).toNat:=⟨_,rfl⟩;rw[<-hC] at H ⊢;rw[<-I] at H;have HD:=hid I;obtain⟨d,a2⟩:∃d,d= ~~~ c:=⟨_,rfl⟩;rw[<-a2] at HD ⊢;clear hC I a2;go_enter func68,ntmps68;go_wp2_with fail;refine(aWw _).mono ?_;rintro e w1 ⟨rfl,J⟩;have L:Arr (w1.alloc (.cells Tryz.zeroCells159 159)) w1.heap.size 159 (iO (fun _=>0)):=by rw[aEq];exact Arr.new w1 _ _
 have a4:=aEt L (by simp[iO]) (fun c=>(nL c).toNat);have a3:Arr ((w1.alloc (.cells Tryz.zeroCells159 159)).setRow w1.heap.size (iO (fun c=>(nL c).toNat)).toArray) w1.heap.size 159 (iO (fun c=>(nL c).toNat)):=NY (w1.alloc (.cells Tryz.zeroCells159 159)) w1.heap.size _ _ 159 (0,0) L;have a5:Below w.heap.size w ((w1.alloc (.cells Tryz.zeroCells159 159)).setRow w1.heap.size (iO (fun c=>(nL c).toNat)).toArray):=DZ (J.alloc J.size _) _ J.size _;go_wp2_with fail
 generalize (w1.alloc (.cells Tryz.zeroCells159 159)).setRow w1.heap.size (iO (fun c=>(nL c).toNat)).toArray=w2 at*
 have a6:=hid (fun c (hc:c<256)=>a3.cell (LT (fun c=>(nL c).toNat) c hc));clear a4 L a3;go_wp2_with fail
 go_loopg [0,6,12] s.size (fun g s0 _s6 a7 wr=>∃k X:Nat,k<=s.size/\g=s.size-k/\a7=.int .i64 (k:Int)/\s0=.int .u32 (X:Int)/\Hid (X=(nM d (s.data.toList.take k)).toNat)/\wr=w2)
 case atStart=>exact⟨0,D,aO _,rfl,rfl,rfl,HD,rfl⟩
 case round=>
  obtain⟨k,X,hk,M,rfl,rfl,O,rfl⟩:=hrel;have HG:=hid M;clear M H
  by_cases a8:k<s.size
  ·have t1:decide ((k:Int)<(s.size:Int))=true:=aG (by omega);have U:=s[k].toNat_lt;have V:=hid (aEo d s.data.toList k s[k] (fW s k a8));obtain⟨x,F⟩:∃x,x=nM d (s.data.toList.take k):=⟨_,rfl⟩;rw[<-F] at O V;have hX:=O.out;have G:=aTl x s[k].toNat U;have e1:=aWk x;have e2:=aWm x;have a0:(x>>>24).toNat<256:=by
    have:(x>>>24).toNat=x.toNat/16777216:=by simp[Nat.shiftRight_eq_div_pow]
    have:=x.isLt;omega
   obtain⟨y,hy⟩:∃y,y=x<<<8:=⟨_,rfl⟩;obtain⟨Y,hY⟩:∃Y,Y=y.toNat:=⟨_,rfl⟩;obtain⟨Q,hQ⟩:∃Q,Q=(x>>>24).toNat:=⟨_,rfl⟩;rw[<-hX] at e1 e2;rw[<-hy,<-hY] at e1;rw[<-hQ] at e2 a0;rw[<-hy,<-hQ] at G;have e3:(Q:Int)%256=(Q:Int):=by omega
   have e6:(X:Int)/16777216=(Q:Int):=by omega
   clear e2;have e4:=u8_xor_nat Q s[k].toNat a0 U;obtain⟨R,hR⟩:∃R,R=Q^^^s[k].toNat:=⟨_,rfl⟩;have a9:R<256:=by rw[hR];exact Nat.xor_lt_two_pow (n:=8) a0 U
   rw[<-hR] at e4 G;have c1:=a6.out R a9;have b0:(R:Int)<256:=by omega
   obtain⟨t,ht⟩:∃t,t=nL R:=⟨_,rfl⟩;have e5:=CG y t;rw[<-ht] at c1 G;obtain⟨T,hT⟩:∃T,T=t.toNat:=⟨_,rfl⟩;obtain⟨z,hz⟩:∃z,z=y^^^t:=⟨_,rfl⟩;obtain⟨Z,A⟩:∃Z,Z=z.toNat:=⟨_,rfl⟩;rw[<-hT] at c1;rw[<-hY,<-hT,<-hz,<-A] at e5;have HZ:=hid (show Z=(nM d (s.data.toList.take (k+1))).toNat by rw[V.out,G,A,hz]);have b1:(X:Int)*256%4294967296=(Y:Int):=by rw[<-e1,uB]
   clear F hX G hy hY hQ hR ht hT hz A V;go_wp2_with fail;have M:=HG.out
   go_roundg (s.size-(k+1))
   case measure=>omega
   case rel=>exact⟨k+1,Z,by omega,rfl,by go_num,rfl,HZ,rfl⟩
  ·have t1:decide ((k:Int)<(s.size:Int))=false:=aE (by omega);obtain⟨x,F⟩:∃x,x=nM d (s.data.toList.take k):=⟨_,rfl⟩;have a1:=O.out;rw[<-F] at a1;have x2:=aEp x;rw[<-a1] at x2;obtain⟨Z,A⟩:∃Z,Z=(~~~ x).toNat:=⟨_,rfl⟩;rw[<-A] at x2;have HF:=hid (show((Z:Nat):Int)=((~~~ nM d s.data.toList).toNat:Int) by rw[A,F,cD (by rw[HL.out];omega)]);clear F a1 A;go_wp2_with fail;go_ret;exact⟨eI HF.out,a5⟩
theorem zQ (s:ByteArray) (w:World) (A:s.size<=140737488355328):
  Calls pG 24 #[.string s] w fun e w'=>e=.returned (.int .u32 ((cH s.data.toList).toNat:Int))/\Below w.heap.size w w':=by
 have d:=aWx (0#32) s w A;have F:(((0#32:BitVec 32).toNat:Nat):Int)=0:=rfl;have G:(~~~ nM (~~~ (0#32)) s.data.toList)=cH s.data.toList:=rfl;rw[F,G] at d;go_enter func24,ntmps24;go_wp2_with fail;refine d.mono ?_;rintro e w1 ⟨rfl,H⟩;go_wp2_with fail;go_ret;exact⟨rfl,H⟩
def lT (X:List Int) (n:Int):List Value:=X.map (bQ .i64)++[.int .i64 n]
def MC (X:List Int) (i:Nat):List Int:=(X.drop i).take 1++X.take i++X.drop (i+1)
def CI:List Value->Nat->List Value->List Value
 |l,_,[]=>l
 |l,o,v::r=>CI (l.set o v) (o+1) r
theorem Arr.setCells {b:Nat} {e:TypeId}:∀(d:List Value) (o:Nat) (w:World) (l:List Value),Arr w b e l->Arr (w.setCells b o d) b e (CI l o d)
 |[],_,_,_,h=>h
 |v::d,o,w,l,h=>Arr.setCells d (o+1) (w.setCell ⟨b,o,none⟩ v) (l.set o v) (h.set o v)
theorem aFa:∀(d:List Value) (o:Nat) (l:List Value),(CI l o d).length=l.length
 |[],_,_=>rfl
 |v::d,o,l=>by simp[CI,aFa]
theorem aFb (b:Nat):∀(d:List Value) (o:Nat) (w:World),w.grownBy (w.setCells b o d) (some b)
 |[],_,_=>⟨rfl,rfl,rfl,aD _,fun _ _ _=>rfl⟩
 |v::d,o,w=>eU (gD w b o v) (aFb b d (o+1) (w.setCell ⟨b,o,none⟩ v))
theorem aXm (X:List Int) (d:X.length=6) (n:Int) (i:Nat) (hi:i<6):(CI (lT X n) 1 ((X.take i).map (bQ .i64))).set 0 (.int .i64 (X.getD i 0))=lT (MC X i) n:=by
 match X,d with
 |[A,F,G,H,I,J],_=>
  obtain rfl|rfl|rfl|rfl|rfl|rfl:i=0\/i=1\/i=2\/i=3\/i=4\/i=5:=by omega
  all_goals rfl
theorem MD {X:List Int} {n:Int} {j:Nat} (h:j<X.length):(lT X n)[j]? =some (.int .i64 (X.getD j 0)):=by grind [lT]
theorem aXn:(pG.info? 3).map (·.size)=some 1:=by kernel_rfl
theorem aXo (b o j:Nat):(⟨b,o,none⟩:Addr).add j=⟨b,o+j,none⟩:=by unfold gP;split<;>simp_all
theorem aFc (b:Nat) (X:List Int) (n:Int) (i:Nat) (J:X.length=6) (hi:i<6) (W:World) (L:Arr W b 197 (lT X n)):
  Calls pG 145 #[.pointer (some ⟨b,0,none⟩),.int .i64 (i:Int)] W fun e w'=>
   e=.returned (.int .i64 (X.getD i 0))/\Arr w' b 197 (lT (MC X i) n)/\W.grownBy w' (some b):=by
 have U:=L.cell (MD (n:=n) (show i<X.length by omega));have M:=hid (aXm X J n i hi);have d:Arr W.drew b 197 (lT X n):=L;have A:((X.take i).map (bQ .i64)).length=i:=by rw[aS,aQ];omega
 have O:=run_copy_cells (P:=pG) W.drew 26 26 3 3 b 1 5 5 ⟨b,0,none⟩ i 6 ((X.take i).map (bQ .i64)) underlying26 aXn (by rw[A];exact(Nat.min_eq_left (by omega)).symm)
  (fun j v F=>by
   rw[aXo,Nat.zero_add];have G:=(List.getElem?_eq_some_iff.1 F).1;rw[A] at G;rw[List.getElem?_map,List.getElem?_take_of_lt G,aN (show j<X.length by omega)] at F;rw[d.cell (MD (n:=n) (show j<X.length by omega)),bV,aN (show j<X.length by omega)];exact F)
  (fun j G=>by
   rw[A] at G;have hl:(lT X n).length=7:=by unfold lT;rw[aL,aS,J];rfl
   rw[d.cell (aN (show 1+j<(lT X n).length by omega))];rfl)
  (fun j _=>d.free (1+j)) (fun v F=>by obtain⟨y,_,rfl⟩:=eK.1 F;rfl)
 rw[A] at O;have t1:(0:Int)<=(i:Int):=by omega
 have t2:(i:Int)<=6:=by omega
 have t3:(i:Int)<6:=by omega
 have H:=d.setCells ((X.take i).map (bQ .i64)) 1;have V:W.grownBy (W.drew.setCells b 1 ((X.take i).map (bQ .i64))) (some b):=eU (show W.grownBy W.drew (some b) from⟨rfl,rfl,rfl,aD _,fun _ _ _=>rfl⟩) (aFb b _ 1 W.drew);obtain⟨I,Z⟩:∃I,I=(X.take i).map (bQ .i64):=⟨_,rfl⟩;rw[<-Z] at O H V M;obtain⟨x,hx⟩:∃x,x=X.getD i 0:=⟨_,rfl⟩;rw[<-hx] at U M ⊢;clear A Z hx d L;go_enter func145,ntmps145;go_wp2_with fail
 go_region
 generalize W.drew.setCells b 1 I=W2 at*
 obtain⟨v0,a0⟩:∃v0,(CI (lT X n) 1 I)[0]? =some v0:=⟨_,aN (by rw[aFa];unfold lT;rw[aL,aS,J];simp)⟩;have d0:=H.cell a0;have f0:=H.free 0;clear a0 O U;go_wp2_with fail;go_ret;refine⟨rfl,?_,eU V (gD _ _ _ _)⟩;have:=H.set 0 (.int .i64 x);rw[M.out] at this;exact this
theorem aFd (t:Nat) (w:World) (d:2<=t) (A:t<=6):Calls pG 140 #[.int .i64 (t:Int)] w fun e w'=>e=.returned (.bool true)/\w'=w:=by
 have F:decide ((t:Int)>=2)=true:=aG (by omega);have G:decide (2<=(t:Int))=true:=aG (by omega);have H:decide ((t:Int)<=6)=true:=aG (by omega);go_enter func140,ntmps140;go_wp2_with fail;go_ret;exact⟨rfl,rfl⟩
def aFe:List Int:=[0,1,2,3,4,5]
def ofI (k:Nat):List Int:=(eT 6).map (fun j=>if j<k then(j:Int) else 0)
theorem aXp (k:Nat) (n:Int) (h:k<6):(lT (ofI k) n).set k (.int .i64 (k:Int))=lT (ofI (k+1)) n:=by
 obtain rfl|rfl|rfl|rfl|rfl|rfl:k=0\/k=1\/k=2\/k=3\/k=4\/k=5:=by omega
 all_goals rfl
theorem aXq (k:Nat):(ofI k).length=6:=by simp[ofI]
theorem aFf (n:Int) (w:World):Calls pG 143 #[.int .i64 n] w fun e w'=>e=.returned (.pointer (some ⟨w.heap.size,0,none⟩))/\Arr w' w.heap.size 197 (lT aFe n)/\Below w.heap.size w w'/\w.heap.size<w'.heap.size:=by
 go_enter func143,ntmps143;go_wp2_with fail;have A:=Arr.new w 197 (lT (ofI 0) n);have F:=bD (aH w.heap.size w) (.cells (lT (ofI 0) n).toArray 197);have G:w.heap.size<(w.alloc (.cells (lT (ofI 0) n).toArray 197)).heap.size:=by simp
 change Arr (w.alloc (.cells #[.int .i64 0,.int .i64 0,.int .i64 0,.int .i64 0,.int .i64 0,.int .i64 0,.int .i64 n] 197)) _ _ _ at A;change Below w.heap.size w (w.alloc (.cells #[.int .i64 0,.int .i64 0,.int .i64 0,.int .i64 0,.int .i64 0,.int .i64 0,.int .i64 n] 197)) at F;change w.heap.size<(w.alloc (.cells #[.int .i64 0,.int .i64 0,.int .i64 0,.int .i64 0,.int .i64 0,.int .i64 0,.int .i64 n] 197)).heap.size at G;generalize w.alloc (.cells #[.int .i64 0,.int .i64 0,.int .i64 0,.int .i64 0,.int .i64 0,.int .i64 0,.int .i64 n] 197)=w1 at*
 go_loopg [4,8] 6 (fun g _s4 L wr=>∃k:Nat,k<=6/\g=6-k/\L=.int .i64 (k:Int)/\Arr wr w.heap.size 197 (lT (ofI k) n)/\Below w.heap.size w wr/\w.heap.size<wr.heap.size)
 case atStart=>exact⟨0,aO _,rfl,rfl,A,F,G⟩
 case round=>
  clear A F G;obtain⟨k,U,H,rfl,A,F,G⟩:=hrel;have M:=hid H;clear H
  by_cases I:k<6
  ·have O:decide ((k:Int)<6)=true:=aG (by omega);have V:(k:Int)<6:=by omega
   have d:=A.cell (MD (n:=n) (show k<(ofI k).length by rw[aXq];exact I));have f:=A.free k;have J:=A.set k (.int .i64 (k:Int));rw[aXp k n I] at J;go_wp2_with fail;have H:=M.out
   go_roundg (6-(k+1))
   case measure=>omega
   case rel=>exact⟨k+1,by omega,rfl,by go_num,J,F.setCell (p:=⟨w.heap.size,k,none⟩) (aD _) _,by rw[World.size_setCell];exact G⟩
  ·have O:decide ((k:Int)<6)=false:=aE (by omega);obtain rfl:k=6:=by omega
   go_wp2_with fail;go_ret;exact⟨rfl,A,F,G⟩
theorem MI {l:List Int} {k:Nat} {x y:Int} (h:l[k]? =some x) (d:y∈l.take (k+1)):y∈l.take k\/y=x:=by grind [List.take_add_one]
theorem aYj (v:Value) (l:List Int) (w:World) (J:RdI w v l) (L:1<=l.length):
  Calls pG 227 #[v] w fun e w'=>∃m,e=.returned (.int .i64 m)/\m∈l/\(∀x∈l,m<=x)/\w'=w:=by
 obtain⟨a,ca,rfl,a2,a0,O⟩:=J.open;unfold maxLen at a0;clear J;obtain⟨b1,o1,rfl,a3,F⟩:=O (by omega);obtain⟨U,G⟩:=eG L;have c0:=F 0 U G;rw[pV] at c0;have V:=hid G;have t0:decide ((l.length:Int)<1)=false:=aE (by omega);have a4:(0:Int)<(l.length:Int):=by omega
 have a5:0<l.length:=by omega
 clear G O;go_enter func227,ntmps227;go_wp2_with fail
 go_loopg [3,4] (l.length-1) (fun g s3 s4 wr=>∃(k:Nat) (M:Int),1<=k/\k<=l.length/\g=l.length-k/\s4=.int .i64 (k:Int)/\s3=.int .i64 M/\Hid (M∈l/\∀x∈l.take k,M<=x)/\wr=w)
 case atStart=>exact⟨1,U,by omega,L,rfl,rfl,rfl,hid ⟨cN V.out,fun y H=>by
  rcases MI (k:=0) V.out H with q|q
  ·simp at q
  ·omega⟩,rfl⟩
 case round=>
  obtain⟨k,M,a6,hk,I,rfl,rfl,A,rfl⟩:=hrel;have HG:=hid I;clear I
  by_cases a1:k<l.length
  ·have t1:decide ((k:Int)<(l.length:Int))=true:=aG (by omega);obtain⟨x,d⟩:=eG a1;have c1:=F k x d;have Z:=hid d;clear F d;go_wp2_with fail;have I:=HG.out
   go_roundg (l.length-(k+1))
   case measure=>omega
   case rel=>exact⟨k+1,min M x,by omega,by omega,rfl,by go_num,rfl,hid ⟨by
    rcases Int.min_def M x▸(by split<;>simp:(if M<=x then M else x)=M\/(if M<=x then M else x)=x) with q|q
    ·rw[q];exact A.out.1
    ·rw[q];exact cN Z.out,fun y H=>by
    rcases MI Z.out H with q|q
    ·have:=A.out.2 y q;omega
    ·omega⟩,rfl⟩
  ·have t1:decide ((k:Int)<(l.length:Int))=false:=aE (by omega);have HF:=hid (show ∀x∈l,M<=x from fun x d=>A.out.2 x (by rw[cD (by omega)];exact d));go_wp2_with fail;go_ret;exact⟨M,rfl,A.out.1,HF.out,rfl⟩
theorem aF3 (v:Value) (l:List Int) (w:World) (J:RdI w v l) (L:1<=l.length):
  Calls pG 203 #[v] w fun e w'=>∃m,e=.returned (.int .i64 m)/\m∈l/\(∀x∈l,x<=m)/\w'=w:=by
 obtain⟨a,ca,rfl,a2,a0,O⟩:=J.open;unfold maxLen at a0;clear J;obtain⟨b1,o1,rfl,a3,F⟩:=O (by omega);obtain⟨U,G⟩:=eG L;have c0:=F 0 U G;rw[pV] at c0;have V:=hid G;have t0:decide ((l.length:Int)<1)=false:=aE (by omega);have a4:(0:Int)<(l.length:Int):=by omega
 have a5:0<l.length:=by omega
 clear G O;go_enter func203,ntmps203;go_wp2_with fail
 go_loopg [3,4] (l.length-1) (fun g s3 s4 wr=>∃(k:Nat) (M:Int),1<=k/\k<=l.length/\g=l.length-k/\s4=.int .i64 (k:Int)/\s3=.int .i64 M/\Hid (M∈l/\∀x∈l.take k,x<=M)/\wr=w)
 case atStart=>exact⟨1,U,by omega,L,rfl,rfl,rfl,hid ⟨cN V.out,fun y H=>by
  rcases MI (k:=0) V.out H with q|q
  ·simp at q
  ·omega⟩,rfl⟩
 case round=>
  obtain⟨k,M,a6,hk,I,rfl,rfl,A,rfl⟩:=hrel;have HG:=hid I;clear I
  by_cases a1:k<l.length
  ·have t1:decide ((k:Int)<(l.length:Int))=true:=aG (by omega);obtain⟨x,d⟩:=eG a1;have c1:=F k x d;have Z:=hid d;clear F d;go_wp2_with fail;have I:=HG.out
   go_roundg (l.length-(k+1))
   case measure=>omega
   case rel=>exact⟨k+1,max M x,by omega,by omega,rfl,by go_num,rfl,hid ⟨by
    rcases Int.max_def M x▸(by split<;>simp:(if M<=x then x else M)=M\/(if M<=x then x else M)=x) with q|q
    ·rw[q];exact A.out.1
    ·rw[q];exact cN Z.out,fun y H=>by
    rcases MI Z.out H with q|q
    ·have:=A.out.2 y q;omega
    ·omega⟩,rfl⟩
  ·have t1:decide ((k:Int)<(l.length:Int))=false:=aE (by omega);have HF:=hid (show ∀x∈l,x<=M from fun x d=>A.out.2 x (by rw[cD (by omega)];exact d));go_wp2_with fail;go_ret;exact⟨M,rfl,A.out.1,HF.out,rfl⟩
theorem aYk (n:Nat) (f:Nat->Int):(tab n f).toArray.size=n:=by simp[tab]
theorem aF4 (f:Nat->Int):(pG.info? 280).map (·.size)=some (tab 21 f).toArray.size:=by rw[aYk];kernel_rfl
theorem TJ:pG.underlying 280=some (.array 21 3):=by kernel_rfl
theorem aYl {w:World} {b:Nat} {e:TypeId} {l:List Value} (n:Nat) (h:Arr w b e l) (d:l.length=n) (f:Nat->Int):
  (storeCells ⟨b,0,none⟩ (tab n f)).run pG w=.ok () (w.setRow b (tab n f).toArray):=by
 have A:(tab n f).length=n:=by simp[tab]
 have F:=aLi (P:=pG) b e (tab n f) 0 l.toArray w h (by simp[d,A]) (fun v G=>by obtain⟨c,_,rfl⟩:=eK.1 G;rfl);rw[F]
 congr 2
theorem aYm (f:Nat->Int) (k:Nat) (d:k<21) (w:World):(rE 280 (.agg (tab 21 f).toArray) (.int .i64 (k:Int))).run pG w=.ok (.int .i64 (f k)) w:=by
 have h:(tab 21 f)[k]? =some (.int .i64 (f k)):=lM 21 f k d;have A:(k:Int)<21:=by omega
 simp[rE,wW TJ,asIntOf,d,part,isAgg,wW underlying3,h,Result.andThen]
theorem aYn (v:Value) (l:List Int) (w:World) (L:RdI w v l) (M:∀x∈l,1<=x/\x<=20) (hn:l.length<=258):
  Calls pG 228 #[v] w fun e w'=>e=.returned (.agg (tab 21 (fun n=>(cL l n:Int))).toArray)/\Below w.heap.size w w':=by
 obtain⟨a,ca,rfl,a6,a0,O⟩:=L.open;unfold maxLen at a0;clear L;have HL:=hid M;clear M;go_enter func228,ntmps228;go_wp2_with fail
 go_loopg [4,7] l.length (fun g _s4 s7 wr=>∃k:Nat,k<=l.length/\g=l.length-k/\s7=.int .i64 (k:Int)/\Arr wr w.heap.size 280 (tab 21 (fun n=>(cL (l.take k) n:Int)))/\Below w.heap.size w wr)
 case atStart=>
  refine⟨0,aO _,rfl,rfl,?_,(aH _ _).alloc (aD _) _⟩;exact Arr.new w _ (tab 21 (fun _=>0))
 case round=>
  obtain⟨k,hk,G,rfl,A,H⟩:=hrel;have HG:=hid G;clear G
  by_cases U:k<l.length
  ·have t1:decide ((k:Int)<(l.length:Int))=true:=aG (by omega);obtain⟨b1,o1,rfl,a1,V⟩:=O (by omega);obtain⟨x,F⟩:=eG U;have c1:=((pJ H).1 b1 (o1+k) a1).trans (V k _ F);have a2:=HL.out x (cN F);obtain⟨y,rfl⟩:∃y:Nat,x=(y:Int):=⟨x.toNat,by omega⟩;have hy:y<21:=by omega
   have a7:(y:Int)<21:=by omega
   have d1:=A.cell (lM 21 _ y hy);have f1:=A.free y;have I:=fun n=>KM U n
   have Z:l.getD k 0=(y:Int):=by rw[bV,F];rfl
   rw[Z] at I;have a3:cL (l.take k) y<=258:=by unfold cL;exact aR DI (by rw[aQ];omega)
   obtain⟨C,J⟩:∃C,C=cL (l.take k) y:=⟨_,rfl⟩;rw[<-J] at d1 a3;have m1:aJ.wrap ((C:Int)+1)=(C:Int)+1:=by rw[aM];omega
   have HT:=hid (uE 21 (fun n=>(cL (l.take k) n:Int)) (fun n=>(cL (l.take (k+1)) n:Int)) y ((C:Int)+1) (fun d hd=>by
    show((cL (l.take (k+1)) d:Nat):Int)=_;rw[I d]
    by_cases e:d=y
    ·subst e;rw[aB (by simp),aB rfl,<-J];omega
    ·rw[aA (by simp;omega),aA e];omega))
   clear J I Z F V O a2;go_wp2_with fail;have G:=HG.out
   go_roundg (l.length-(k+1))
   case measure=>omega
   case rel=>
    refine⟨k+1,by omega,rfl,by go_num,?_,H.setCell (p:=⟨w.heap.size,y,none⟩) (aD _) _⟩;rw[<-HT.out];exact A.set y _
  ·have t1:decide ((k:Int)<(l.length:Int))=false:=aE (by omega);have a4:k=l.length:=by omega
   subst a4;rw[jS] at A;have a8:=aYl 21 A (by simp[tab]) (fun n=>(cL l n:Int));go_upto_region 6 with fail;go_wp2_with (refine wpList_load_row rfl 280 (.tmp 2) rfl w.heap.size rfl _ _ (0,0) (.array 21 3) A TJ rfl (aF4 _) ?_);have a5:Arr (wr.setRow w.heap.size (tab 21 (fun n=>(cL l n:Int))).toArray) w.heap.size 280 (tab 21 (fun n=>(cL l n:Int))):=NY wr w.heap.size _ _ 280 (0,0) A;refine fM (DJ rfl _ _ w.heap.size _ _ (0,0) (.array 21 3) rfl a5 TJ rfl (aF4 _)) rfl ?_;exact⟨rfl,DZ H _ (aD _) _⟩
def TK (l:List Int):Nat->Int
 |0=>1
 |n+1=>sS l n
theorem aYo (l:List Int) (k:Nat):sS l k=(if k=0 then TK l k else 2*TK l k)-(cL l k:Int):=by
 cases k with
 |zero=>rfl
 |succ k=>rfl
theorem FK (v:Value) (l:List Int) (w:World) (hr:RdI w v l):
  Calls pG 178 #[v] w fun e w'=>e=.returned (.int .i64 (bM l))/\Below w.heap.size w w':=by
 have V:=hr;obtain⟨a,ca,rfl,b5,a8,hA⟩:=hr.open;unfold maxLen at a8;clear hr hA
 by_cases J:2<=l.length/\l.length<=258
 rotate_left
 ·have d:=hid (aEw J)
  by_cases h3:l.length<2
  ·have t1:decide ((l.length:Int)<2)=true:=aG (by omega);go_enter func178,ntmps178;go_wp2_with fail;go_ret;exact⟨by rw[d.out];rfl,aH _ _⟩
  ·have t1:decide ((l.length:Int)<2)=false:=aE (by omega);have t2:decide ((l.length:Int)>258)=true:=aG (by omega);have t3:decide ((258:Int)<(l.length:Int))=true:=aG (by omega);go_enter func178,ntmps178;go_wp2_with fail;go_ret;exact⟨by rw[d.out];rfl,aH _ _⟩
 ·have t1:decide ((l.length:Int)<2)=false:=aE (by omega);have t2:decide ((l.length:Int)>258)=false:=aE (by omega);have t3:decide ((258:Int)<(l.length:Int))=false:=aE (by omega);have a0:=aYj _ l w V (by omega);have Z:=aF3 _ l w V (by omega);have L:=aYn _ l w V;clear V;go_enter func178,ntmps178;go_wp2_with fail;refine a0.mono ?_;rintro e w1 ⟨m,rfl,a6,a1,rfl⟩
  by_cases hm:m<1
  ·have u1:decide (m<1)=true:=aG hm;obtain⟨k,I⟩:=XQ a6;have d:=hid (LU I (by omega));clear I a1 L Z a0;go_wp2_with fail;go_ret;exact⟨by rw[d.out];rfl,aH _ _⟩
  ·have u1:decide (m<1)=false:=aE hm;have HM:=hid a1;clear a1 a0 a6;go_wp2_with fail;refine Z.mono ?_;rintro e w2 ⟨x,rfl,a9,a2,rfl⟩
   by_cases hx:20<x
   ·have u2:decide (x>20)=true:=aG hx;have u3:decide (20<x)=true:=aG hx;obtain⟨k,I⟩:=XQ a9;have d:=hid (LU I (by omega));clear I a2 L Z;go_wp2_with fail;go_ret;exact⟨by rw[d.out];rfl,aH _ _⟩
   ·have u2:decide (x>20)=false:=aE hx;have u3:decide (20<x)=false:=aE hx;have F:∀y∈l,1<=y/\y<=20:=fun y hy=>by
     have:=HM.out y hy;have:=a2 y hy;omega
    have b6:=hid F;have d:=hid (aEx ⟨J.1,J.2,F⟩);have L:=L F J.2;have b0:=hid (fun n (M:n<=20)=>aSx F M);have b1:=hid (aSy F);have b2:=hid (fun n=>aSz (l:=l) (n:=n) (fun y hy=>(F y hy).1));clear F a2 HM Z;go_wp2_with fail;refine L.mono ?_;rintro e w3 ⟨rfl,a3⟩;go_wp2_with fail
    go_loopg [3,4,5,26] 21 (fun g s3 _s4 _s5 b3 wr=>∃(k:Nat) (X:Int),k<=21/\g=21-k/\b3=.int .i64 (k:Int)/\s3=.int .i64 X/\Hid (X=TK l k)/\Hid (∀n,n<k->0<=sS l n)/\wr=w3)
    case atStart=>exact⟨0,1,by omega,rfl,rfl,rfl,hid rfl,hid (fun n M=>by omega),rfl⟩
    case round=>
     obtain⟨k,X,I,hg,rfl,rfl,HX,HN,rfl⟩:=hrel;have HG:=hid hg;clear hg
     by_cases b4:k<21
     ·have v1:decide ((k:Int)<21)=true:=aG (by omega);have ix:=aYm (fun n=>(cL l n:Int)) k b4 wr;have O:cL l k<=258:=by unfold cL;exact aR DI J.2
      have hB:0<=X/\X<=1048576:=by
       rw[HX.out]
       cases k with
       |zero=>exact⟨show(0:Int)<=1 by decide,show(1:Int)<=1048576 by decide⟩
       |succ k=>
        refine⟨HN.out k (by omega),Int.le_trans (b2.out k) ?_⟩;have:(2:Nat)^k<=2^20:=Nat.pow_le_pow_right (by decide) (by omega);have e:(2:Nat)^20=1048576:=by decide
        have:(((2:Nat)^k:Nat):Int)<=1048576:=by omega
        simpa using this
      have A:=aYo l k;rw[<-HX.out] at A;have G:=b0.out k (by omega);obtain⟨Y,a4⟩:∃Y,Y=sS l k:=⟨_,rfl⟩;obtain⟨C,a5⟩:∃C,C=cL l k:=⟨_,rfl⟩;rw[<-a4] at A G;simp only[<-a5] at ix;rw[<-a5] at A O;have HY:=hid a4;clear a4 a5
      by_cases a7:k=0
      ·subst a7;rw[aB rfl] at A;rw[show((0:Nat):Int)=0 from rfl] at ix;have v2:decide ((0:Int)>0)=false:=by decide
       have v3:decide (((0:Nat):Int)>0)=false:=by decide
       have m4:X-(C:Int)=Y:=by omega
       have m5:aJ.wrap Y=Y:=by rw[aM];omega
       by_cases H:Y<0
       ·have w1:decide (Y<0)=true:=aG H;have U:=hid (show bM l=6 by rw[d.out,aB (G H)]);clear G A hB O;go_wp2_with fail;go_ret;exact⟨by rw[U.out];rfl,a3⟩
       ·have w1:decide (Y<0)=false:=aE H;clear G A hB O;go_wp2_with fail;have hg:=HG.out
        go_roundg (21-(0+1))
        case measure=>omega
        case rel=>exact⟨0+1,Y,by omega,rfl,by go_num,rfl,HY,hid (fun n M=>by
         rcases cF n 0 with h|h
         ·exact HN.out n h
         ·rw[show n=0 by omega,<-HY.out];omega),rfl⟩
      ·rw[aA a7] at A;have v2:decide ((k:Int)>0)=true:=aG (by omega);have v3:decide (0<k)=true:=aG (by omega);have v4:0<k:=by omega
       obtain⟨D,hD⟩:∃D,D=2*X:=⟨_,rfl⟩;have m1:aJ.wrap (X*2)=D:=by rw[aM];omega
       have m2:X*2=D:=by omega
       have m3:aJ.wrap D=D:=by rw[aM];omega
       rw[<-hD] at A;have m4:D-(C:Int)=Y:=by omega
       have m5:aJ.wrap Y=Y:=by rw[aM];omega
       by_cases H:Y<0
       ·have w1:decide (Y<0)=true:=aG H;have U:=hid (show bM l=6 by rw[d.out,aB (G H)]);clear G A hB O hD;go_wp2_with fail;go_ret;exact⟨by rw[U.out];rfl,a3⟩
       ·have w1:decide (Y<0)=false:=aE H;clear G A hB O hD;go_wp2_with fail;have hg:=HG.out
        go_roundg (21-(k+1))
        case measure=>omega
        case rel=>exact⟨k+1,Y,by omega,rfl,by go_num,rfl,HY,hid (fun n M=>by
         rcases cF n k with h|h
         ·exact HN.out n h
         ·rw[show n=k by omega,<-HY.out];omega),rfl⟩
     ·have v1:decide ((k:Int)<21)=false:=aE (by omega);have U:=hid (show bM l=0 by rw[d.out,aA (by have:=b1.out (fun n M=>HN.out n (by omega));omega)]);go_wp2_with fail;go_ret;exact⟨by rw[U.out];rfl,a3⟩
end
section
open Go.RowKit Go Go.Shelf
attribute [local go_sem] Oper.semAt_some
theorem bBa {n:Nat} {F:Fence} {G:Array Oper} {rest:List Oper} {o:Oper} {a:Act} {Q:Exit->Act->World->Prop} {w:World} (J:o.guard=none) (s x:Operand)
  (L:o.op=.call {callee:=.builtin .append,args:=#[s,x],argTypes:=#[26,26]}) (base:Nat) (v:Value) (l:List Int) (hs:a.eval s=v) (hown:OwI w base v l)
  (g:Nat) (y:Int) (hx:a.eval x=.slice (some ⟨g,0,none⟩) 1 1) (hc:w.cell? ⟨g,0,none⟩=some (.int .i64 y)) (hroom:(l.length+1)*8<=140737488355328) (hbase:base<=w.heap.size)
  (h:∀d w',OwI w' base d (l++[y])->Below base w w'->w.grownBy w' v.ownBlock->wpListIn F n pG G Q rest (a.put o.dst d) w'):wpListIn F n pG G Q (o::rest) a w:=by
 obtain⟨i,hi,M,O,U⟩:=jL.info;have V:(bQ .i64 0).cells.size=1:=by rw[jL.cells];rfl
 have H:w.ownsRow base 3 1 v l.length (l.map (bQ .i64)):=by have:=hown;unfold OwI Ow at this;rwa[aS] at this
 refine wpListIn_append_own w J s x 26 L base 3 i (.int .i64 0) 1 8 jL.under hi M O U V (by decide) v l.length (l.map (bQ .i64)) hs H ⟨g,0,none⟩ 1 1 [.int .i64 y] hx rfl ?_ (by simp[Value.oneCell']) (by simp only[maxLen];omega) hroom hbase (fun d w' Z I _=>h d w' ?_ (rJ H I hbase) I)
 ·intro j u' A
  cases j with
  |zero=>simp at A;subst A;simpa [gP] using hc
  |succ j=>simp at A
 ·unfold OwI Ow;rw[dY,aL]
  simpa using Z
def lU (l:List Int) (k:Nat):List Nat:=(eT k).filter (fun n=>decide (cL l n≠0))
theorem aH9 (l:List Int) (k:Nat):lU l (k+1)=lU l k++if cL l k≠0 then[k] else[]:=by grind [lU,List.range_succ,cL,List.filter_cons_of_pos,bGo]
theorem aIa (l:List Int):∀m k,∃r,lU l (k+m)=lU l k++r
 |0,k=>⟨[],by simp⟩
 |m+1,k=>by
  obtain⟨r,d⟩:=aIa l m k
  grind [aH9,lU]
def pA (l:List Int) (n i:Nat):List Int:=(qG l n i).map (fun s:Nat=>(s:Int))
theorem MU (l:List Int) (n i:Nat) (h:i<=l.length):(pA l n i).length=cL (l.take i) n:=by grind [pA,KN,cL]
theorem bBb (l:List Int) (n i:Nat):pA l n (i+1)=pA l n i++if l.getD i 0==(n:Int) then[(i:Int)] else[]:=by grind [pA,RF]
def yB (l:List Int) (x:Nat×Value):Array Value:=#[.agg #[.int .i64 (x.1:Int),.int .u64 (gY l x.1:Int),x.2]]
def CS (l:List Int) (B:Nat) (pre:List (Nat×Value)) (x:Nat×Value) (W:World):Prop:=
 (∃r,pre.map (·.1)++x.1::r=lU l 21)/\(1<=x.1/\x.1<=20)/\0<cL l x.1/\pre.map (·.1)=lU l x.1/\OwI W B x.2 (pA l x.1 l.length)
theorem bBc (n:Nat) (hn:1<=n) (l0 Bs I M o1 ca:Nat) (d:List Int) (hE:bM d=0) (J Jx:List (Nat×Value)->World->Prop) (W:World)
  (hA:Arr W Bs 26 [.slice (some ⟨M,o1,none⟩) d.length ca]) (hc:∀i x,d[i]? =some x->W.cell? ⟨M,o1+i,none⟩=some (.int .i64 x)) (d6:M≠I) (d7:Bs≠I) (g9:I<W.heap.size) (d8:M<W.heap.size)
  (b6:∀s A B,J s A->Below W.heap.size A B->J s B)
  (hY:∀pre x W1,J pre W1->W.heap.size<=W1.heap.size->CS d W.heap.size pre x W1->YieldAt cZ (n-1) pG l0 (yB d x) W1 fun e W'=>(e=.returned (.bool true)/\J (pre++[x]) W'/\bW (some I) W1 W')\/(e=.returned (.bool false)/\Jx (pre++[x]) W'))
  (h0:J [] W):
  CallsIn cZ n pG 248 #[.func (.yield l0) #[] #[],.pointer (some ⟨Bs,0,none⟩)] W fun e W'=>(∃v,e=.returned v)/\((∃xs:List (Nat×Value),xs.map (·.1)=lU d 21/\J xs W')\/∃pre,Jx pre W'):=by
 have O:=gE hE;have d9:=hid (fun i (h:i<d.length)=>(lX O.1 h));have i0:=O.1.2.1;have e0:=hid (fun k (hk:k<=20)=>LY (i:=d.length) O.1 O.2 hk);have e1:=hid (aBw (fun x U=>(O.1.2.2 x U).1));have e4:=hid (show lU d 1=[] by
  unfold lU;rw[show eT 1=[0] from rfl,bGo (by simp[aBv (fun x U=>(O.1.2.2 x U).1)]),List.filter_nil])
 have b7:=hid b6;have e5:=hid hc;clear O b6 hc;refine callsIn_of_wp func248 rfl trivial ?_ rfl;simp only[ntmps248,List.size_toArray,List.length_cons,List.length_nil,Nat.reduceAdd,Nat.reduceSub,Array.replicate_succ,Array.replicate_zero,List.push_toArray,List.append_toArray,List.nil_append,List.cons_append]
 gi_wp2_with fail
 gi_loopg [3,4] 20 (fun g s3 s4 wr=>∃(k V:Nat) (pre:List (Nat×Value)),1<=k/\k<=21/\g=21-k/\s4=.int .i64 (k:Int)/\s3=.int .u64 (V:Int)/\Hid (2*V=gY d k)/\V<=1048576/\Hid (pre.map (·.1)=lU d k)/\J pre wr/\W.heap.size<=wr.heap.size/\bW (some I) W wr)
 case atStart=>exact⟨1,0,[],by omega,by omega,rfl,rfl,rfl,hid (by rw[e1.out]),by omega,hid (by rw[e4.out];rfl),h0,aD _,bW.refl _ _⟩
 case round=>
  obtain⟨k,V,pre,e6,i1,Z,rfl,rfl,HV,i2,HP,hJ,b8,a2⟩:=hrel;have HG:=hid Z;clear Z
  by_cases hk:k<=20
  ·have t1:decide ((k:Int)<=20)=true:=aG (by omega);obtain⟨X,hX⟩:∃X,X=2*V:=⟨_,rfl⟩;have HX:=hid (show X=gY d k by rw[hX,HV.out]);have m1:eZ.wrap ((V:Int)*2)=(X:Int):=by rw[fC];omega
   have m2:(V:Int)*2=(X:Int):=by omega
   have m3:(V:Int)*2%18446744073709551616=(X:Int):=by omega
   have m4:eZ.wrap (X:Int)=(X:Int):=by rw[fC];omega
   have i3:X<=2097152:=by omega
   have a9:=a2.arr hA (by simp;exact d7);have e7:=a9.lt;have c0:=a9.cell (i:=0) rfl;clear hX a9
   gi_wp2_with fail
   have F:=Arr.new wr 268 [.int .i64 (k:Int),.int .u64 (X:Int),.slice none 0 0];change Arr (wr.alloc (.cells #[.int .i64 (k:Int),.int .u64 (X:Int),.slice none 0 0] 268)) _ _ _ at F;have G:Below wr.heap.size wr (wr.alloc (.cells #[.int .i64 (k:Int),.int .u64 (X:Int),.slice none 0 0] 268)):=bD (aH _ _) _;have e8:(wr.alloc (.cells #[.int .i64 (k:Int),.int .u64 (X:Int),.slice none 0 0] 268)).heap.size=wr.heap.size+1:=by simp
   generalize wr.alloc (.cells #[.int .i64 (k:Int),.int .u64 (X:Int),.slice none 0 0] 268)=w1 at*
   obtain⟨S,hS⟩:∃S,S=wr.heap.size:=⟨_,rfl⟩;rw[<-hS] at F G e8 ⊢;have b9:∀i x,d[i]? =some x->wr.cell? ⟨M,o1+i,none⟩=some (.int .i64 x):=fun i x hi=>a2.cell (e5.out i x hi) (by simp;exact d6)
   have c2:=hid b9;have e9:M<S:=by rw[hS];exact Nat.lt_of_lt_of_le d8 b8
   have f0:J pre w1:=b7.out _ _ _ hJ (G.mono (by omega));have f1:bW (some I) W w1:=a2.trans (bW.of_below (by rw[<-hS];exact G));have f2:W.heap.size<=S:=by omega
   obtain⟨W0,f3⟩:∃W0,W0=wr:=⟨_,rfl⟩;rw[<-f3] at G c2 b8 a2 hJ hS;have f4:=hid hJ;have HS:=hid hS;clear hS b9 c0 e7 hJ f0 f1
   gi_loopg [6,7,19] d.length (fun g _s6 _s7 f5 wx=>∃(i:Nat) (u:Value),i<=d.length/\g=d.length-i/\f5=.int .i64 (i:Int)/\Arr wx S 268 [.int .i64 (k:Int),.int .u64 (X:Int),u]/\OwI wx (S+1) u (pA d k i)/\Below S W0 wx/\S<wx.heap.size)
   case atStart=>exact⟨0,.slice none 0 0,aO _,rfl,rfl,F,OwI.nil _ _,G,by omega⟩
   case round=>
    clear F G;obtain⟨i,u,hi,Z,rfl,F,ho,G,f6⟩:=hrel;have c4:=hid Z;clear Z
    by_cases f7:i<d.length
    ·have t2:decide ((i:Int)<(d.length:Int))=true:=aG (by omega);obtain⟨f8,f9,U⟩:=d9.out i f7;have c1:=(G.cell (p:=⟨M,o1+i,none⟩) e9).trans (c2.out i _ U);have c5:d.getD i 0=(bL d i:Int):=by rw[bV,U];rfl
     have a0:=bBb d k i;rw[c5] at a0;obtain⟨x,c6⟩:∃x,x=bL d i:=⟨_,rfl⟩;rw[<-c6] at c1 a0 f8 f9;clear c6 U c5;have d2:=F.cell (i:=2) rfl;have a6:(pA d k i).length<=258:=by rw[MU d k i (by omega)];unfold cL;exact aR DI (by rw[aQ];omega)
     have g0:some S≠u.ownBlock:=fun e=>by have:=(Ow.lt ho S e.symm).1;omega
     by_cases g1:x=k
     ·subst g1;have t3:decide ((x:Int)=(x:Int))=true:=aG rfl;have b0:=a0;rw[aB (by simp)] at b0;have b2:=hid b0;clear a0 b0
      gi_wp2_with (gi_at_builtin;refine bBa rfl _ _ rfl (S+1) _ _ rfl (OwI.alloc ho _) _ (i:Int) rfl (bX _ _ _) ?_ ?_ ?_;(omega);(simp;omega);intro v3 w3 p1 p2 p3;(obtain⟨a3,c3,g3,_,_,_⟩:=(OwI.rd p1).open);subst g3;(have a4:=(F.alloc (.cells #[.int .i64 (i:Int)] 3)).grown p3 g0);(have e2:=a4.cell (i:=2) rfl);(have g2:=a4.free 2))
      have g4:=c4.out
      gi_roundg (d.length-(i+1))
      case measure=>omega
      case rel=>
       have e3:(pA d x i++[(i:Int)]).length=(pA d x i).length+1:=by simp
       rw[e3] at p1;have g5:Value.ownBlock (.slice a3 ((pA d x i).length+1) c3)≠some S:=fun e=>by have:=(Ow.lt p1 S e).1;omega
       refine⟨i+1,.slice a3 ((pA d x i).length+1) c3,by omega,rfl,by go_num,a4.set 2 _,?_,(((G.alloc (by omega) _).trans (p2.mono (by omega))).setCell (p:=⟨S,2,none⟩) (aD _) _),?_⟩
       ·rw[b2.out];exact Ow.kept p1 (TW w3 S 2 _) (.inr g5)
       ·have:=p2.size;simp at this ⊢;omega
     ·have t3:decide ((x:Int)=(k:Int))=false:=aE (by omega);rw[aA (by simp;omega),dI] at a0;have b2:=hid a0;clear a0
      gi_wp2_with fail
      have g4:=c4.out
      gi_roundg (d.length-(i+1))
      case measure=>omega
      case rel=>exact⟨i+1,u,by omega,rfl,by go_num,F,by rw[b2.out];exact ho,G,f6⟩
    ·have t2:decide ((i:Int)<(d.length:Int))=false:=aE (by omega);have g6:i=d.length:=by omega
     subst g6;obtain⟨C,hC⟩:∃C,C=cL d k:=⟨_,rfl⟩;have a6:(pA d k d.length).length=C:=by rw[MU d k _ (aD _),jS,hC]
     have a7:=e0.out k hk;unfold lS at a7;rw[jS,<-HX.out,<-hC] at a7;obtain⟨H,b3⟩:∃H,H=X+C:=⟨_,rfl⟩;have m5:eZ.wrap (C:Int)=(C:Int):=by rw[fC];omega
     have m6:(C:Int)%18446744073709551616=(C:Int):=by omega
     have m7:eZ.wrap (H:Int)=(H:Int):=by rw[fC];omega
     have m8:(X:Int)+(C:Int)=(H:Int):=by omega
     have c7:H<=1048576:=by omega
     have c8:=hid (show 2*H=gY d (k+1) by rw[b3,HX.out,hC];rfl);have L:=aH9 d k;rw[<-hC] at L;have c9:J pre wr:=b7.out _ _ _ f4.out (G.mono f2);have d3:bW (some I) W wr:=a2.trans (bW.of_below (by rw[<-HS.out];exact G));obtain⟨r',a8⟩:=aIa d (21-(k+1)) (k+1);rw[show k+1+(21-(k+1))=21 by omega] at a8;obtain⟨a',a1,d4,_,_,_⟩:=(OwI.rd ho).open;rw[a6] at d4;subst d4;have d2:=F.cell (i:=2) rfl;have d0:=F.cell (i:=0) rfl;have d1:=F.cell (i:=1) rfl
     by_cases d5:C=0
     ·have t3:decide ((C:Int)>0)=false:=aE (by omega);have t4:decide (0<C)=false:=aE (by omega);have t5:¬0<C:=by omega
      rw[aA (fun q=>q d5),dI] at L;obtain rfl:H=X:=by omega
      have a5:=hid (show pre.map (·.1)=lU d (k+1) by rw[HP.out,L]);clear hC L b3 a8 a7 a6
      gi_wp2_with fail
      refine⟨fun _ h=>(by cases h),?_⟩
      gi_wp2_with fail
      have Z:=HG.out
      gi_roundg (21-(k+1))
      case measure=>omega
      case rel=>exact⟨k+1,H,pre,by omega,by omega,rfl,by go_num,rfl,c8,c7,a5,c9,by omega,d3⟩
     ·have t3:decide ((C:Int)>0)=true:=aG (by omega);have t4:decide (0<C)=true:=aG (by omega);have t5:0<C:=by omega
      rw[aB d5] at L;have a5:=hid (show(pre++[(k,Value.slice a' C a1)]).map (·.1)=lU d (k+1) by rw[dY,HP.out,L];rfl);obtain⟨fn,tmps,assign,body,hy,hR⟩:=hY pre (k,.slice a' C a1) wr c9 (by omega) ⟨⟨r',by rw[HP.out,a8,L,List.append_assoc];rfl⟩,⟨e6,hk⟩,by rw[<-hC];omega,HP.out,OwI.base ho (by omega)⟩;have i4:(Instr.yield l0 #[.agg #[.int .i64 (k:Int),.int .u64 (X:Int),.slice a' C a1]]).run pG wr=.ok (.round l0 fn tmps assign body) wr:=by
       have e:yB d (k,.slice a' C a1)=#[.agg #[.int .i64 (k:Int),.int .u64 (X:Int),.slice a' C a1]]:=by unfold yB;rw[HX.out]
       rw[<-e];exact hy
      have g7:some S≠some I:=fun e=>by injection e with e;omega
      clear hC L b3 a8 a7 a6 hy
      gi_wp2_with fail
      refine hR.mono ?_;rintro e W3 (⟨rfl,b4,b5⟩|⟨rfl,b4⟩)
      ·have a4:=b5.arr F g7;have e2:=a4.cell (i:=2) rfl;have i5:=b5.1;clear d0 d1 d2
       gi_wp2_with fail
       have Z:=HG.out
       gi_roundg (21-(k+1))
       case measure=>omega
       case rel=>exact⟨k+1,H,pre++[(k,.slice a' C a1)],by omega,by omega,rfl,by go_num,rfl,c8,c7,a5,b4,by omega,d3.trans b5⟩
      ·gi_wp2_with fail
       refine fM (results_none rfl _ _ _) rfl ?_;exact⟨⟨_,rfl⟩,.inr ⟨_,b4⟩⟩
  ·have t1:decide ((k:Int)<=20)=false:=aE (by omega);have g8:k=21:=by omega
   have a5:=hid (show pre.map (·.1)=lU d 21 by rw[HP.out,g8])
   gi_wp2_with fail
   go_end0
   exact⟨⟨_,rfl⟩,.inl ⟨pre,a5.out,hJ⟩⟩
end
end Go.Proofs.YtihbnmlinkbnkaaGreatDoor
