/-
  Texts put together (part 13): the walks and the plain laws on which the statement stands.
-/
import Derived.Test.YtfckbfofgeilgaaGreatDoorZ5
import Derived.Test.YtfckbfofgeilgaaGreatDoorZ9
set_option maxRecDepth 100000
set_option maxHeartbeats 12800000
set_option linter.unusedVariables false
set_option linter.unusedSimpArgs false
open Go.Proofs.Tryz
open Go.Proofs.Tryz renaming prog->pG
open Bool renaming or_eq_false_iff->DL,or_false->OZ
open Go renaming bodyPost_ret->fM,results_cell_row->DJ
open Go.IntKind renaming i64->aJ,u32->sH,wrap_i64->aM,wrap_u32->uB
open Go.RowKit.Below renaming refl->aH
open List renaming append_nil->dI,drop_drop->kG,length_append->aL,mem_map->eK,mem_range->qM,range->eT,range_succ->wU,take_of_length_le->cD
open Nat renaming le_refl->aD,zero_le->aO
open UInt8 renaming ofNat->eA
namespace Go.Proofs.YtfckbfofgeilgaaGreatDoor
section
open Go.RowKit Go
theorem aEm (a:BitVec 32):bits .xor .u32 (a.toNat:Int) 4294967295=((~~~ a).toNat:Int):=by
 have h:=CG a (0xffffffff#32);have e:(((0xffffffff#32:BitVec 32).toNat:Nat):Int)=4294967295:=by decide
 rw[e] at h;rw[h];have:a^^^(0xffffffff#32)= ~~~ a:=by
  have:=BitVec.xor_allOnes (x:=a);exact this
 rw[this]
theorem aWo (a:BitVec 32):sH.wrap (2*(a.toNat:Int))=((a<<<1).toNat:Int):=by grind [SZ]
theorem aEn (a:BitVec 32):bits .xor .u32 (a.toNat:Int) 79764919=((a^^^79764919#32).toNat:Int):=by
 have h:=CG a (79764919#32)
 grind
theorem aWp (X:Nat) (x:BitVec 32) (A:X=x.toNat) (b:Bool) (w:World):
  Calls pG 137 #[.int .u32 (X:Int),.int .u32 (b.toNat:Int)] w fun e w'=>e=.returned (.int .u32 ((wI x b).toNat:Int))/\w'=w:=by
 have M:=aEl x;have J:=aWo x;obtain⟨y,D⟩:=ex1 (x<<<1);have L:=aEn y;rw[<-D] at J;have F:=hid (show wI x b=if x.msb != b then y^^^79764919#32 else y by rw[D];rfl);obtain⟨Y,d⟩:=ex1 (y.toNat);obtain⟨Z,G⟩:=ex1 ((y^^^79764919#32).toNat);obtain⟨m,I⟩:=ex1 (x.msb);rw[<-A,<-I] at M;rw[<-A,<-d] at J;rw[<-d,<-G] at L;rw[<-I] at F;have O:=hid d;have R:=hid G;clear A D d G I
 by_cases h:m=b
 ·subst h;have U:((m.toNat:Int) != (m.toNat:Int))=false:=by simp
  have V:((m.toNat:Int)==(m.toNat:Int))=true:=by simp
  clear L;go_enter func137,ntmps137;go_wp2_with fail;go_ret;exact⟨eI (by rw[F.out,O.out];cases m<;>rfl),rfl⟩
 ·have U:((m.toNat:Int) != (b.toNat:Int))=true:=by cases m<;>cases b<;>simp_all
  have V:((m.toNat:Int)==(b.toNat:Int))=false:=by cases m<;>cases b<;>simp_all
  have H:=hid h;clear h;go_enter func137,ntmps137;go_wp2_with fail;go_ret;refine⟨eI ?_,rfl⟩;have h:=H.out;rw[F.out,R.out,aB (by cases m<;>cases b<;>simp_all)]
theorem aEo (c:BitVec 32) (s:List UInt8) (k:Nat) (b:UInt8) (h:s[k]? =some b):nM c (s.take (k+1))=rP (nM c (s.take k)) b.toNat 8:=by
 rw[List.take_add_one,h,Option.toList_some,aTm]
theorem aWq (c:BitVec 32) (s:ByteArray) (w:World) (hs:s.size<=140737488355328):
  Calls pG 103 #[.int .u32 (c.toNat:Int),.string s] w fun e w'=>e=.returned (.int .u32 ((~~~ nM (~~~ c) s.data.toList).toNat:Int))/\w'=w:=by
 have HL:=hid (mV s);have J:=aEm c;obtain⟨C,hC⟩:=ex1 (c.toNat);obtain⟨D,L⟩:=ex1 ((~~~ c).toNat);rw[<-hC] at J ⊢;rw[<-L] at J;have HD:=hid L;obtain⟨F,a1⟩:=ex1 (~~~ c);rw[<-a1] at HD ⊢;clear hC L a1;go_enter func103,ntmps103;go_wp2_with fail
 go_loopg [5,6,7] s.size (fun g M s6 _s7 wr=>∃k X:Nat,k<=s.size/\g=s.size-k/\s6=.int .i64 (k:Int)/\M=.int .u32 (X:Int)/\Hid (X=(nM F (s.data.toList.take k)).toNat)/\wr=w)
 case atStart=>exact⟨0,D,aO _,rfl,rfl,rfl,HD,rfl⟩
 case round=>
  obtain⟨k,X,hk,d,rfl,rfl,O,rfl⟩:=hrel;have R:=hid d;clear d J
  by_cases a3:k<s.size
  ·have t1:decide ((k:Int)<(s.size:Int))=true:=aG (by omega);have hb:=s[k].toNat_lt;have HS:=hid (aEo F s.data.toList k s[k] (fW s k a3));have a4:=R;obtain⟨x,A⟩:=ex1 (nM F (s.data.toList.take k));rw[<-A] at O HS;clear A;go_wp2_with fail
   go_loopg [5,7] 8 (fun g M s7 wx=>∃j Y:Nat,j<=8/\g=8-j/\s7=.int .i64 (7-(j:Int))/\M=.int .u32 (Y:Int)/\Hid (Y=(rP x s[k].toNat j).toNat)/\wx=wr)
   case atStart=>exact⟨0,X,by omega,rfl,by go_num,rfl,O,rfl⟩
   case round=>
    obtain⟨j,Y,hj,d,rfl,rfl,HY,rfl⟩:=hrel;have R:=hid d;clear d
    by_cases a5:j<8
    ·obtain⟨q,G⟩:∃q:Nat,q=7-j:=⟨_,rfl⟩;have I:(7:Int)-(j:Int)=(q:Int):=by omega
     have t2:decide ((q:Int)>=0)=true:=aG (by omega);have t3:decide (0<=(q:Int))=true:=aG (by omega);have e4:=FA s[k].toNat q;have e7:min q 8=q:=by omega
     rw[I];have HQ:=hid G;obtain⟨z,U⟩:=ex1 (s[k].toNat.testBit q);rw[<-U] at e4;have e5:(z.toNat:Int)%4294967296=(z.toNat:Int):=by cases z<;>decide
     have a2:=fun W=>aWp Y (rP x s[k].toNat j) HY.out z W
     have HC:=hid (show rP x s[k].toNat (j+1)=wI (rP x s[k].toNat j) z by rw[U,G];rfl);obtain⟨V,hV⟩:=ex1 ((wI (rP x s[k].toNat j) z).toNat);rw[<-hV] at a2;have HV:=hid hV;clear G I U hV;go_wp2_with fail;refine(a2 _).mono ?_;rintro e w1 ⟨rfl,rfl⟩;go_wp2_with fail;have d:=R.out;have G:=HQ.out
     go_roundg (8-(j+1))
     ·exact⟨j+1,V,by omega,rfl,by go_num,rfl,hid (by rw[HV.out,HC.out]),rfl⟩
     ·omega
    ·have t2:decide ((7:Int)-(j:Int)>=0)=false:=aE (by omega);have t3:decide (0<=(7:Int)-(j:Int))=false:=aE (by omega);have I:j=8:=by omega
     subst I;go_wp2_with fail;have d:=a4.out
     go_roundg (s.size-(k+1))
     ·exact⟨k+1,Y,by omega,rfl,by go_num,rfl,hid (by rw[HS.out];exact HY.out),rfl⟩
     ·omega
  ·have t1:decide ((k:Int)<(s.size:Int))=false:=aE (by omega);obtain⟨x,A⟩:=ex1 (nM F (s.data.toList.take k));have a0:=O.out;rw[<-A] at a0;have x2:=aEm x;rw[<-a0] at x2;obtain⟨Z,hZ⟩:=ex1 ((~~~ x).toNat);rw[<-hZ] at x2;have HF:=hid (show((Z:Nat):Int)=((~~~ nM F s.data.toList).toNat:Int) by rw[hZ,A,cD (by rw[HL.out];omega)]);clear A a0 hZ;go_wp2_with fail;go_ret;exact⟨eI HF.out,rfl⟩
theorem TA (s:ByteArray) (w:World) (A:s.size<=140737488355328):
  Calls pG 64 #[.string s] w fun e w'=>e=.returned (.int .u32 ((cH s.data.toList).toNat:Int))/\w'=w:=by
 have d:=aWq (0#32) s w A;have D:(((0#32:BitVec 32).toNat:Nat):Int)=0:=rfl;have F:(~~~ nM (~~~ (0#32)) s.data.toList)=cH s.data.toList:=rfl;rw[D,F] at d;go_enter func64,ntmps64;go_wp2_with fail;refine d.mono ?_;rintro e G ⟨rfl,rfl⟩;go_wp2_with fail;go_ret;exact⟨rfl,rfl⟩
end
section
open Go.RowKit Go Go.Shelf
theorem aWr (k:Nat) (x:BitVec 32):mB (k+1) x=if(mB k x).msb then(mB k x)<<<1^^^79764919#32 else(mB k x)<<<1:=rfl
theorem aEp (a:BitVec 32):bits .xor .u32 sH.max (a.toNat:Int)=((~~~ a).toNat:Int):=by
 have h:=CG (0xffffffff#32) a;have e:(((0xffffffff#32:BitVec 32).toNat:Nat):Int)=sH.max:=by decide
 rw[e] at h;rw[h];have:(0xffffffff#32)^^^a= ~~~ a:=by
  have:=BitVec.allOnes_xor (x:=a);exact this
 rw[this]
theorem aWs (i:Nat) (hi:i<256) (w:World):
  Calls pG 123 #[.int .i64 (i:Int)] w fun e w'=>e=.returned (.int .u32 ((nL i).toNat:Int))/\w'=w:=by
 have R:=aWl i hi;have m0:sH.wrap (i:Int)=(i:Int):=by rw[uB];omega
 have a0:(i:Int)%4294967296=(i:Int):=by omega
 obtain⟨D,U⟩:=ex1 (BitVec.ofNat 32 i<<<24);obtain⟨X0,V⟩:=ex1 (D.toNat);rw[<-U,<-V] at R;have a1:(i:Int)*16777216%4294967296=(X0:Int):=by rw[<-R,uB]
 have HT:=hid (show nL i=mB 8 D by rw[U];rfl);have a2:=hid V;clear V U;go_enter func123,ntmps123;go_wp2_with fail
 go_loopg [3,7] 8 (fun g s3 s7 wr=>∃j X:Nat,j<=8/\g=8-j/\s7=.int .i64 (j:Int)/\s3=.int .u32 (X:Int)/\Hid (X=(mB j D).toNat)/\wr=w)
 case atStart=>exact⟨0,X0,by omega,rfl,rfl,rfl,a2,rfl⟩
 case round=>
  obtain⟨j,X,hj,I,rfl,rfl,HX,rfl⟩:=hrel;have HG:=hid I;clear I R a1 m0 a0
  by_cases a3:j<8
  ·have t1:decide ((j:Int)<8)=true:=aG (by omega);obtain⟨x,J⟩:=ex1 (mB j D);have F:=HX.out;rw[<-J] at F;have d:=aWr j D;rw[<-J] at d;have e1:=aWn x;have e2:=SZ x;obtain⟨y,L⟩:=ex1 (x<<<1);obtain⟨Y,G⟩:=ex1 (y.toNat);have e3:=aEn y;obtain⟨z,M⟩:=ex1 (y^^^79764919#32);obtain⟨Z,O⟩:=ex1 (z.toNat);rw[<-F] at e1;rw[<-F,<-L,<-G] at e2;rw[<-G,<-M,<-O] at e3;rw[<-L,<-M] at d;have a4:(X:Int)*2%4294967296=(Y:Int):=by rw[<-e2,uB]
   have HY:=hid G;have HZ:=hid O
   by_cases A:x.msb=true
   ·rw[aB A] at e1;rw[aB A] at d;have HS:=hid d;clear J F L G M O d A;go_wp2_with fail;have I:=HG.out
    go_roundg (8-(j+1))
    ·exact⟨j+1,Z,by omega,rfl,by go_num,rfl,hid (by rw[HS.out];exact HZ.out),rfl⟩
    ·omega
   ·rw[aA A] at e1;rw[aA A] at d;have HS:=hid d;clear J F L G M O d A e3;go_wp2_with fail;have I:=HG.out
    go_roundg (8-(j+1))
    ·exact⟨j+1,Y,by omega,rfl,by go_num,rfl,hid (by rw[HS.out];exact HY.out),rfl⟩
    ·omega
  ·have t1:decide ((j:Int)<8)=false:=aE (by omega);have ej:j=8:=by omega
   subst ej;go_wp2_with fail;go_ret;exact⟨eI (by rw[HT.out,<-HX.out]),rfl⟩
def iO (f:Nat->Nat):List Value:=(eT 256).map fun c=>.int .u32 (f c:Int)
theorem LT (f:Nat->Nat) (c:Nat) (h:c<256):(iO f)[c]? =some (.int .u32 (f c:Int)):=by simp[iO,h]
theorem aWt (f e:Nat->Nat) (c:Nat) (v:Nat) (h:∀d,e d=if d=c then v else f d):(iO f).set c (.int .u32 (v:Int))=iO e:=by
 apply List.ext_getElem?
 grind [iO,LT]
theorem aEq:Tryz.zeroCells210=(iO (fun _=>0)).toArray:=by kernel_rfl
theorem aWu (f:Nat->Nat):(iO f).toArray.size=256:=by simp[iO]
theorem aEr (f:Nat->Nat):(pG.info? 210).map (·.size)=some (iO f).toArray.size:=by rw[aWu];kernel_rfl
theorem aEs:pG.underlying 210=some (.array 256 87):=by kernel_rfl
theorem aEt {w:World} {b:Nat} {e:TypeId} {l:List Value} (h:Arr w b e l) (d:l.length=256) (f:Nat->Nat):
  (storeCells ⟨b,0,none⟩ (iO f)).run pG w=.ok () (w.setRow b (iO f).toArray):=by
 have A:(iO f).length=256:=by simp[iO]
 have D:=run_storeCells_from (P:=pG) b e (iO f) 0 l.toArray w h (by simp[d,A]) (fun v F=>by obtain⟨c,_,rfl⟩:=eK.1 F;rfl);rw[D]
 congr 2
def uT (k c:Nat):Nat:=if c<k then(nL c).toNat else 0
theorem aWv (k c:Nat):uT (k+1) c=if c=k then(nL k).toNat else uT k c:=by grind [uT,nL]
theorem aWw (w:World):
  Calls pG 122 #[.func (.func 123) #[] #[]] w fun e w'=>e=.returned (.agg (iO (fun c=>(nL c).toNat)).toArray)/\Below w.heap.size w w':=by
 go_enter func122,ntmps122;go_wp2_with fail
 go_loopg [3,4] 256 (fun J _s3 L wr=>∃k:Nat,k<=256/\J=256-k/\L=.int .i64 k/\Arr wr w.heap.size 210 (iO (uT k))/\Below w.heap.size w wr)
 case atStart=>
  refine⟨0,aO _,rfl,rfl,?_,(aH _ _).alloc (aD _) _⟩;rw[aEq,show uT 0=fun _=>0 from by funext c;simp[uT]];exact Arr.new w _ _
 case round=>
 obtain⟨k,V,A,rfl,d,D⟩:=hrel;have M:=hid A;clear A
 by_cases F:k<256
 ·have O:decide ((k:Int)<256)=true:=aG (by omega);have Y:=d.cell (LT (uT k) k F);have Z:=d.free k;go_wp2_with fail;refine(aWs k F _).mono ?_;rintro e w1 ⟨rfl,rfl⟩;have a0:(k:Int)<256:=by omega
  go_wp2_with fail;have A:=M.out
  go_roundg (256-(k+1))
  ·
   refine⟨k+1,by omega,rfl,by go_num,?_,D.setCell (p:=⟨w.heap.size,k,none⟩) (aD _) _⟩;have:=d.set k (.int .u32 ((nL k).toNat:Int));rwa[aWt _ (uT (k+1)) _ _ (aWv k)] at this
  ·omega
 ·have R:k=256:=by omega
  subst R;have O:decide ((256:Int)<256)=false:=by decide
  have G:iO (uT 256)=iO (fun c=>(nL c).toNat):=by
   unfold iO;apply List.map_congr_left;intro c I;rw[qM] at I;unfold uT;rw[aB I]
  rw[G] at d;clear G;go_wp2_with fail;refine wp_load_row 210 (.tmp 2) rfl w.heap.size rfl _ _ (0,0) (.array 256 87) d aEs rfl (aEr _) ?_;have a1:=aEt d (by simp[iO]) (fun c=>(nL c).toNat);go_wp2_with fail;have U:Arr (wr.setRow w.heap.size (iO (fun c=>(nL c).toNat)).toArray) w.heap.size 210 (iO (fun c=>(nL c).toNat)):=setRow_heap wr w.heap.size _ _ 210 (0,0) d;refine fM (DJ rfl _ _ w.heap.size _ _ (0,0) (.array 256 87) rfl U aEs rfl (aEr _)) rfl ?_;exact⟨rfl,DZ D _ (aD _) _⟩
theorem aWx (c:BitVec 32) (s:ByteArray) (w:World) (hs:s.size<=140737488355328):
  Calls pG 81 #[.int .u32 (c.toNat:Int),.string s] w fun e w'=>e=.returned (.int .u32 ((~~~ nM (~~~ c) s.data.toList).toNat:Int))/\Below w.heap.size w w':=by
 have HL:=hid (mV s);have J:=aEp c;obtain⟨C,hC⟩:=ex1 (c.toNat);obtain⟨D,L⟩:=ex1 ((~~~ c).toNat);rw[<-hC] at J ⊢;rw[<-L] at J;have HD:=hid L;obtain⟨F,a2⟩:=ex1 (~~~ c);rw[<-a2] at HD ⊢;clear hC L a2;go_enter func81,ntmps81;go_wp2_with fail;refine(aWw _).mono ?_;rintro e d ⟨rfl,M⟩;have O:Arr (d.alloc (.cells Tryz.zeroCells210 210)) d.heap.size 210 (iO (fun _=>0)):=by rw[aEq];exact Arr.new d _ _
 have a4:=aEt O (by simp[iO]) (fun c=>(nL c).toNat);have a3:Arr ((d.alloc (.cells Tryz.zeroCells210 210)).setRow d.heap.size (iO (fun c=>(nL c).toNat)).toArray) d.heap.size 210 (iO (fun c=>(nL c).toNat)):=setRow_heap (d.alloc (.cells Tryz.zeroCells210 210)) d.heap.size _ _ 210 (0,0) O;have a5:Below w.heap.size w ((d.alloc (.cells Tryz.zeroCells210 210)).setRow d.heap.size (iO (fun c=>(nL c).toNat)).toArray):=DZ (M.alloc M.size _) _ M.size _;go_wp2_with fail
 generalize (d.alloc (.cells Tryz.zeroCells210 210)).setRow d.heap.size (iO (fun c=>(nL c).toNat)).toArray=w2 at*
 have a6:=hid (fun c (hc:c<256)=>a3.cell (LT (fun c=>(nL c).toNat) c hc));clear a4 O a3;go_wp2_with fail
 go_loopg [0,6,12] s.size (fun g s0 _s6 a7 wr=>∃k X:Nat,k<=s.size/\g=s.size-k/\a7=.int .i64 (k:Int)/\s0=.int .u32 (X:Int)/\Hid (X=(nM F (s.data.toList.take k)).toNat)/\wr=w2)
 case atStart=>exact⟨0,D,aO _,rfl,rfl,rfl,HD,rfl⟩
 case round=>
  obtain⟨k,X,hk,U,rfl,rfl,V,rfl⟩:=hrel;have HG:=hid U;clear U J
  by_cases a8:k<s.size
  ·have t1:decide ((k:Int)<(s.size:Int))=true:=aG (by omega);have hb:=s[k].toNat_lt;have HS:=hid (aEo F s.data.toList k s[k] (fW s k a8));obtain⟨x,G⟩:=ex1 (nM F (s.data.toList.take k));rw[<-G] at V HS;have hX:=V.out;have I:=aTl x s[k].toNat hb;have e1:=aWk x;have e2:=aWm x;have a0:(x>>>24).toNat<256:=by
    have:(x>>>24).toNat=x.toNat/16777216:=by simp[Nat.shiftRight_eq_div_pow]
    have:=x.isLt;omega
   obtain⟨y,hy⟩:=ex1 (x<<<8);obtain⟨Y,hY⟩:=ex1 (y.toNat);obtain⟨Q,hQ⟩:=ex1 ((x>>>24).toNat);rw[<-hX] at e1 e2;rw[<-hy,<-hY] at e1;rw[<-hQ] at e2 a0;rw[<-hy,<-hQ] at I;have e3:(Q:Int)%256=(Q:Int):=by omega
   have e6:(X:Int)/16777216=(Q:Int):=by omega
   clear e2;have e4:=u8_xor_nat Q s[k].toNat a0 hb;obtain⟨R,hR⟩:=ex1 (Q^^^s[k].toNat);have a9:R<256:=by rw[hR];exact Nat.xor_lt_two_pow (n:=8) a0 hb
   rw[<-hR] at e4 I;have c1:=a6.out R a9;have b0:(R:Int)<256:=by omega
   obtain⟨t,ht⟩:=ex1 (nL R);have e5:=CG y t;rw[<-ht] at c1 I;obtain⟨T,hT⟩:=ex1 (t.toNat);obtain⟨z,hz⟩:=ex1 (y^^^t);obtain⟨Z,A⟩:=ex1 (z.toNat);rw[<-hT] at c1;rw[<-hY,<-hT,<-hz,<-A] at e5;have HZ:=hid (show Z=(nM F (s.data.toList.take (k+1))).toNat by rw[HS.out,I,A,hz]);have b1:(X:Int)*256%4294967296=(Y:Int):=by rw[<-e1,uB]
   clear G hX I hy hY hQ hR ht hT hz A HS;go_wp2_with fail;have U:=HG.out
   go_roundg (s.size-(k+1))
   ·exact⟨k+1,Z,by omega,rfl,by go_num,rfl,HZ,rfl⟩
   ·omega
  ·have t1:decide ((k:Int)<(s.size:Int))=false:=aE (by omega);obtain⟨x,G⟩:=ex1 (nM F (s.data.toList.take k));have a1:=V.out;rw[<-G] at a1;have x2:=aEp x;rw[<-a1] at x2;obtain⟨Z,A⟩:=ex1 ((~~~ x).toNat);rw[<-A] at x2;have HF:=hid (show((Z:Nat):Int)=((~~~ nM F s.data.toList).toNat:Int) by rw[A,G,cD (by rw[HL.out];omega)]);clear G a1 A;go_wp2_with fail;go_ret;exact⟨eI HF.out,a5⟩
theorem zQ (s:ByteArray) (w:World) (A:s.size<=140737488355328):
  Calls pG 43 #[.string s] w fun e w'=>e=.returned (.int .u32 ((cH s.data.toList).toNat:Int))/\Below w.heap.size w w':=by
 have d:=aWx (0#32) s w A;have D:(((0#32:BitVec 32).toNat:Nat):Int)=0:=rfl;have F:(~~~ nM (~~~ (0#32)) s.data.toList)=cH s.data.toList:=rfl;rw[D,F] at d;go_enter func43,ntmps43;go_wp2_with fail;refine d.mono ?_;rintro e I ⟨rfl,G⟩;go_wp2_with fail;go_ret;exact⟨rfl,G⟩
def sW (s:List UInt8) (k j:Nat):List Bool:=(eT j).map (fun i=>dZ s (16*k+i))
theorem aGe (s:List UInt8) (k j:Nat):sW s k (j+1)=sW s k j++[dZ s (16*k+j)]:=by grind [sW,wU,dZ]
theorem aGf (s:List UInt8) (k j:Nat):(sW s k j).length=j:=by simp[sW]
theorem TM (s:List UInt8) (k:Nat):sW s k 16=iK s k:=rfl
theorem aGg (l:List Bool) (b:Bool):(l++[b]).any id=(l.any id||b):=by simp
theorem aYv (s:ByteArray) (k:Nat) (w:World) (hs:s.size<=140737488355328) (hk:k<16):
  Calls pG 113 #[.string s,.int .i64 (k:Int)] w fun e w'=>∃v,e=.returned (.tuple #[v,.bool (lP s.data.toList k)])/\OwI w' w.heap.size v (bI (iK s.data.toList k))/\Below w.heap.size w w':=by
 obtain⟨q,Y⟩:=ex1 (16*k);have m1:aJ.wrap (16*(k:Int))=(q:Int):=by rw[aM];omega
 have a7:16*(k:Int)=(q:Int):=by omega
 obtain⟨d,L⟩:=ex1 (q+16);have m2:aJ.wrap ((q:Int)+16)=(d:Int):=by rw[aM];omega
 have a8:(q:Int)+16=(d:Int):=by omega
 have HQ:=hid Y;have a9:=hid L;have b0:d<=256:=by omega
 have A:d=q+16:=L;have a3:=hid A;clear Y L A;go_enter func113,ntmps113;go_wp2_with fail
 go_loopg [6,7,8,9] 16 (fun g s6 s7 s8 _s9 wr=>∃(j c:Nat) (T:Bool),j<=16/\g=16-j/\s8=.int .i64 (c:Int)/\s7=.bool T/\Hid (c=q+j)/\Hid (T=(sW s.data.toList k j).any id)/\OwI wr w.heap.size s6 (bI (sW s.data.toList k j))/\Below w.heap.size w wr)
 case atStart=>exact⟨0,q,false,by omega,rfl,rfl,rfl,hid rfl,hid rfl,OwI.nil _ _,aH _ _⟩
 case round=>
  obtain⟨j,c,T,hj,D,rfl,rfl,M,HT,F,G⟩:=hrel;have Z:=hid D;clear D;have O:=M.out;have A:=a3.out
  by_cases b1:j<16
  ·have t1:decide ((c:Int)<(d:Int))=true:=aG (by omega);have t2:decide (c<d)=true:=aG (by omega);have a4:c<256:=by omega
   have a0:(bI (sW s.data.toList k j)).length=j:=by rw[cX,aGf]
   have a1:=fun W=>ZX s c W hs a4
   have a2:=G.size;have I:=hid (aGe s.data.toList k j);obtain⟨h,R⟩:=ex1 (dZ s.data.toList c);rw[<-R] at a1;have J:=hid (show dZ s.data.toList (16*k+j)=h by rw[R,O,HQ.out]);have b2:aJ.wrap ((c:Int)+1)=((c+1:Nat):Int):=by rw[aM];omega
   clear R O A;go_wp2_with fail;refine(a1 _).mono ?_;rintro e w1 ⟨rfl,rfl⟩
   cases h with
   |true=>
    go_wp2_with (at_builtin;refine gK rfl _ _ rfl w.heap.size _ _ rfl (F.alloc _) w1.heap.size (1:Int) rfl ?_ ?_ ?_ ?_;(exact bX _ _ _);(rw[a0];omega);(simp;omega);intro v' w2 U V a5);have D:=Z.out
    go_roundg (16-(j+1))
    ·exact⟨j+1,c+1,true,by omega,rfl,by go_num,rfl,hid (by have:=M.out;omega),hid (by rw[I.out,J.out,aGg,Bool.or_true]),by rw[I.out,J.out,iT];exact U,(G.alloc a2 _).trans V⟩
    ·omega
   |false=>
    go_wp2_with (at_builtin;refine gK rfl _ _ rfl w.heap.size _ _ rfl (F.alloc _) w1.heap.size (0:Int) rfl ?_ ?_ ?_ ?_;(exact bX _ _ _);(rw[a0];omega);(simp;omega);intro v' w2 U V a5);have D:=Z.out
    go_roundg (16-(j+1))
    ·exact⟨j+1,c+1,T,by omega,rfl,by go_num,rfl,hid (by have:=M.out;omega),hid (by rw[I.out,J.out,aGg,OZ];exact HT.out),by rw[I.out,J.out,iT];exact U,(G.alloc a2 _).trans V⟩
    ·omega
  ·have t1:decide ((c:Int)<(d:Int))=false:=aE (by omega);have t2:decide (c<d)=false:=aE (by omega);have a6:j=16:=by omega
   subst a6;rw[TM] at F;have HF:=hid (show T=lP s.data.toList k by rw[HT.out,TM];rfl);clear O A;go_wp2_with fail
   go_ret2
   exact⟨_,by rw[HF.out];rfl,F,G⟩
def tV (a b:Value):Prop:=a.ownBlock=none\/b.ownBlock=none\/a.ownBlock≠b.ownBlock
theorem tV.symm {a b:Value} (h:tV a b):tV b a:=by grind [tV]
theorem tV.keeps {a b:Value} (h:tV a b):b.ownBlock=none\/b.ownBlock≠a.ownBlock:=by grind [tV]
theorem tV.left {w:World} {B:Nat} {a d b:Value} {l:List Int} (h:tV a b) (D:OwI w B b l) (F:d.ownBlock=a.ownBlock\/d.ownBlock=some w.heap.size):tV d b:=by
 rcases F with e|e
 ·grind [tV,OwI]
 ·right
  cases G:b.ownBlock with
  |none=>exact .inl rfl
  |some k=>
   right
   rw[e];have:=(Ow.lt D k G).2;intro A
   injection A with A
   omega
def pQ (s:List UInt8) (k:Nat):List Bool:=(eT k).map (lP s)
theorem aGh (s:List UInt8) (k:Nat):pQ s (k+1)=pQ s k++[lP s k]:=by grind [pQ,wU,lP]
theorem FM (s:List UInt8) (k:Nat):(pQ s k).length=k:=by simp[pQ]
theorem TN (s:List UInt8) (k:Nat):iA s (k+1)=iA s k++if lP s k then iK s k else[]:=rfl
theorem aYw {s:List UInt8} (h:s≠[]):0<(iA s 16).length:=by
 have d:=aCr h;rw[Ne,EN,Bool.not_eq_false,List.any_eq_true] at d;obtain⟨b,e,D⟩:=d;unfold pO at e;obtain⟨k,A,rfl⟩:=eK.1 e;rw[qM] at A;obtain⟨m,F⟩:=aCq s (k+1) (by omega)
 grind [lP,TN,zJ,iA]
theorem aYx {w w':World} {B:Nat} {a v:Value} {l m:List Int} (h:OwI w B a l) (D:OwI w' w.heap.size v m):tV a v:=by
 cases d:a.ownBlock with
 |none=>exact .inl d
 |some k=>
  cases A:v.ownBlock with
  |none=>exact .inr (.inl A)
  |some j=>
   right;right
   rw[d,A];have F:=(Ow.lt h k d).2;have G:=(Ow.lt D j A).1;intro e
   injection e with e
   omega
theorem aGi (w:World) (x:Int):RdI (w.alloc (.cells #[.int .i64 x] 3)) (.slice (some ⟨w.heap.size,0,none⟩) 1 1) [x]:=uF w 3 [.int .i64 x] 1 rfl (by decide)
theorem aYy (s:ByteArray) (w:World) (hs:s.size<=1000000) (h0:s.data.toList≠[]):
  Calls pG 70 #[.string s] w fun e w'=>e=.returned (fT (iL s.data.toList))/\Below w.heap.size w w':=by
 have H0:=hid (aYw h0);have a1:=hid (fun k=>KP s.data.toList k);clear h0;go_enter func70,ntmps70;go_wp2_with fail;have Y:=Arr.new w 69 [.string ⟨#[]⟩,.int .i64 0];change Arr (w.alloc (.cells #[.string ⟨#[]⟩,.int .i64 0] 69)) _ _ _ at Y;have c0:(w.alloc (.cells #[.string ⟨#[]⟩,.int .i64 0] 69)).heap.size=w.heap.size+1:=by simp
 have a2:Below w.heap.size w (w.alloc (.cells #[.string ⟨#[]⟩,.int .i64 0] 69)):=bD (aH _ _) _;generalize w.alloc (.cells #[.string ⟨#[]⟩,.int .i64 0] 69)=w0 at*
 go_loopg [3,4,5,6,7] 16 (fun g s3 s4 s5 _s6 _s7 wr=>∃k:Nat,k<=16/\g=16-k/\s5=.int .i64 (k:Int)/\OwI wr (w.heap.size+1) s3 (bI (pQ s.data.toList k))/\OwI wr (w.heap.size+1) s4 (bI (iA s.data.toList k))/\tV s3 s4/\Below (w.heap.size+1) w0 wr)
 case atStart=>exact⟨0,by omega,rfl,rfl,OwI.nil _ _,OwI.nil _ _,.inl rfl,aH _ _⟩
 case round=>
  obtain⟨k,hk,L,rfl,F,M,O,G⟩:=hrel;have HG:=hid L;clear L;have c1:=G.size
  by_cases b1:k<16
  ·have t1:decide ((k:Int)<16)=true:=aG (by omega);have a3:=fun W=>aYv s k W (by omega) b1
   have R:(bI (pQ s.data.toList k)).length=k:=by rw[cX,FM]
   have b2:(bI (iA s.data.toList k)).length<=16*k:=by rw[cX];exact a1.out k
   have a4:(bI (iK s.data.toList k)).length=16:=by rw[cX,zJ]
   have Z:=hid (aGh s.data.toList k);have HR:=hid (TN s.data.toList k);obtain⟨T,hT⟩:=ex1 (lP s.data.toList k);rw[<-hT] at a3 Z HR;clear hT;go_wp2_with fail;refine(a3 _).mono ?_;rintro e w1 ⟨v,rfl,a5,U⟩;have a6:=OwI.below F U (aD _);have V:=OwI.below M U (aD _);have c2:=U.size;have a7:=G.trans (U.mono (by omega));have b3:=aYx F a5;clear F M
   cases T with
   |true=>
    go_wp2_with (first
     |(at_builtin;refine lR rfl _ _ rfl (w.heap.size+1) _ _ [1] rfl (OwI.alloc a6 _) _ rfl (aGi w1 1) (by decide) ?_ ?_ ?_;(rw[R];show(k+1)*8<=_;omega);(simp;omega);intro v3 w3 A d D I;(have b4:=Ow.kept (OwI.alloc V (.cells #[.int .i64 1] 3)) D O.keeps);(have b5:=(Ow.kept (OwI.alloc a5 (.cells #[.int .i64 1] 3)) D b3.keeps));(have a8:=O.left (OwI.alloc V (.cells #[.int .i64 1] 3)) I);(have b6:=d.size))
     |(at_builtin;refine lR rfl _ _ rfl (w.heap.size+1) _ _ (bI (iK s.data.toList k)) rfl b4 v rfl (OwI.rd b5) ?_ ?_ ?_ ?_;(rw[a4];decide);(rw[a4];omega);(simp at b6;omega);intro v4 w4 r1 r2 r3 r4))
    have L:=HG.out
    go_roundg (16-(k+1))
    ·exact⟨k+1,by omega,rfl,by go_num,by rw[Z.out,iT];exact Ow.kept A r3 a8.symm.keeps,by rw[HR.out,aB trivial,iT];exact r1,(a8.symm.left A r4).symm,((a7.alloc (by omega) _).trans d).trans r2⟩
    ·omega
   |false=>
    go_wp2_with (at_builtin;refine lR rfl _ _ rfl (w.heap.size+1) _ _ [0] rfl (OwI.alloc a6 _) _ rfl (aGi w1 0) (by decide) ?_ ?_ ?_;(rw[R];show(k+1)*8<=_;omega);(simp;omega);intro v3 w3 A d D I);have L:=HG.out
    go_roundg (16-(k+1))
    ·exact⟨k+1,by omega,rfl,by go_num,by rw[Z.out,iT];exact A,by rw[HR.out,aA (by decide),dI];exact Ow.kept (OwI.alloc V (.cells #[.int .i64 0] 3)) D O.keeps,O.left (OwI.alloc V (.cells #[.int .i64 0] 3)) I,(a7.alloc (by omega) _).trans d⟩
    ·omega
  ·have t1:decide ((k:Int)<16)=false:=aE (by omega);have b7:k=16:=by omega
   subst b7;have R:(bI (pQ s.data.toList 16)).length=16:=by rw[cX,FM]
   have b2:(bI (iA s.data.toList 16)).length<=16*16:=by rw[cX];exact a1.out 16
   have b8:0<(bI (iA s.data.toList 16)).length:=by rw[cX];exact H0.out
   have a9:=OwI.rd M;go_wp2_with (at_builtin;refine lR rfl _ _ rfl (w.heap.size+1) _ _ (bI (iA s.data.toList 16)) rfl F _ rfl a9 b8 ?_ ?_ ?_;(rw[R];omega);(omega);intro v5 w5 A d D I);have hm:bI (pQ s.data.toList 16)++bI (iA s.data.toList 16)=bI (iL s.data.toList):=by rw[<-iT];rfl
   rw[hm] at A;have c3:=KR s.data.toList;refine(CF v5 (iL s.data.toList) w5 (OwI.rd A) (by omega)).mono ?_;rintro e w6 ⟨rfl,a0⟩;have J:=((Y.below G (by omega)).below d (by omega)).below a0 (by have:=d.size;omega);have b9:Below w.heap.size w w6:=((a2.trans (G.mono (by omega))).trans (d.mono (by omega))).trans (a0.mono (by have:=d.size;omega));have d0:=J.cell (i:=0) rfl;have d1:=J.cell (i:=1) rfl;have f0:=J.free 0;have f1:=J.free 1;clear Y hm a0 A d D I F M a9 G a2;generalize b0:iL s.data.toList=m at*
   have HM:=hid b0;clear b0;go_wp2_with fail;have z0:Arr ((w6.setCell ⟨w.heap.size,0,none⟩ (.string (mkS (aI m)))).setCell ⟨w.heap.size,1,none⟩ (.int .i64 (m.length:Int))) w.heap.size 69 [.string (mkS (aI m)),.int .i64 (m.length:Int)]:=(J.set 0 _).set 1 _;refine fM (DJ rfl _ _ w.heap.size _ _ (0,0) _ rfl z0 underlying69 rfl rQ) rfl ?_;exact⟨by rw[HM.out];rfl,(b9.setCell (p:=⟨w.heap.size,0,none⟩) (aD _) _).setCell (p:=⟨w.heap.size,1,none⟩) (aD _) _⟩
theorem gbB {W d:World} {g:Option Nat} (h:Below W.heap.size W d):W.grownBy d g:=⟨h.os,h.tape,h.output,h.size,fun k e _=>h.block k e⟩
theorem gbT {A B C:World} {g:Option Nat} (h:A.grownBy B g) (k:B.grownBy C g):A.grownBy C g:=
 ⟨k.os.trans h.os,k.tape.trans h.tape,k.output.trans h.output,Nat.le_trans h.size k.size,fun i d e=>(k.block i (Nat.lt_of_lt_of_le d h.size) e).trans (h.block i d e)⟩
theorem gbS (W:World) (g i:Nat) (v:Value):W.grownBy (W.setCell ⟨g,i,none⟩ v) (some g):=
 ⟨rfl,rfl,rfl,by simp,fun k _ d=>heap_setCell_other W ⟨g,i,none⟩ k v (fun e=>d (by rw[e]))⟩
theorem UI {s:List UInt8} {at':Int} {k:Nat} {e:Int} (d:e≠0) (D:k<=16) (h:(dQ s at' k).2.2.2=e):dF s at'=([],0,e):=by
 have A:=CC (s:=s) (at':=at') (k:=k) (by rw[h];exact d) (16-k);rw[show k+(16-k)=16 by omega] at A;unfold dF
 grind
theorem aHv (s:List UInt8) (at':Int):dQ s at' 0=([],at'+16,aK s at' 16==0,aP s.length at' 16):=rfl
theorem aHw {s:List UInt8} {at':Int} {k:Nat} {o:List UInt8} {d:Int} {e:Bool} (h:dQ s at' k=(o,d,e,0)) (A:(aK s at' 16).testBit (15-k)=false):dQ s at' (k+1)=(o,d,e,0):=by grind [dQ,aK]
theorem aHx {s:List UInt8} {at':Int} {k:Nat} {o:List UInt8} {d:Int} {e:Bool} (h:dQ s at' k=(o,d,e,0)) (A:(aK s at' 16).testBit (15-k)=true) (D:aP s.length d 16≠0):(dQ s at' (k+1)).2.2.2=aP s.length d 16:=by grind [dQ,aK,aP]
theorem aHy {s:List UInt8} {at':Int} {k:Nat} {o:List UInt8} {d:Int} {e:Bool} (h:dQ s at' k=(o,d,e,0)) (A:(aK s at' 16).testBit (15-k)=true) (D:aP s.length d 16=0):
  dQ s at' (k+1)=(o++nJ (aK s d 16) k 16,d+16,e||aK s d 16==0,0):=by grind [dQ,aK,aP,nJ]
theorem aHz {s:List UInt8} {at':Int} {o:List UInt8} {d:Int} {e:Bool} (h:dQ s at' 16=(o,d,e,0)):dF s at'=if e then([],0,3) else(o,d,0):=by grind [dF,dQ]
theorem aH0 (v k i:Nat):nJ v k (i+1)=nJ v k i++if v.testBit (15-i) then[eA (16*k+i)] else[]:=rfl
theorem bCi (s:ByteArray) (p:Int) (w:World) (hs:s.size<=1000000) (d0: -9223372036854775808<=p) (d1:p<=9223372036854775807):
  Calls pG 173 #[.string s,.int .i64 p] w fun e w'=>e=.returned (.tuple #[.string (mkS (dF s.data.toList p).1),.int .i64 (dF s.data.toList p).2.1,.int .i64 (dF s.data.toList p).2.2])/\Below w.heap.size w w':=by
 have hL:=mV s;have hz:=aHv s.data.toList p;have b9:=fun W=>uQ s p 16 W hs (by decide) d0 d1
 have d2:=jV s.data.toList p 16;rw[hL] at hz;obtain⟨G,a6⟩:=ex1 (aP s.size p 16);obtain⟨F,hF⟩:=ex1 (aK s.data.toList p 16);rw[<-hF,<-a6] at hz b9;rw[<-hF] at d2;have d3:F<18446744073709551616:=by omega
 have a7:G=0->0<=p/\p<=8000000:=fun h=>by
  have:=iG (n:=s.size) (at':=p) (k:=16) (by rw[<-a6];exact h);omega
 obtain⟨L,a8⟩:∃L:Bool,L=(F==0):=⟨_,rfl⟩;have t0:((F:Int)==0)=L:=by
  rw[a8]
  by_cases h:F=0
  ·rw[h];rfl
  ·rw[beq_eq_false_iff_ne.2 h,cB];omega
 obtain⟨a9,b0⟩:∃q:Int,q=aJ.wrap (p+16):=⟨_,rfl⟩;have c0:G=0->a9=p+16:=fun h=>by
  have:=a7 h;rw[b0,aM];omega
 have HF:=hid hF;have HL:=hid hL;have c1:=hid (show(G=0/\dQ s.data.toList p 0=([],a9,L||false,0))\/(G≠0/\(dQ s.data.toList p 0).2.2.2=G) by
  by_cases h:G=0
  ·left;exact⟨h,by rw[hz,c0 h,<-a8,h,OZ]⟩
  ·right;exact⟨h,by rw[hz]⟩)
 have d4:=hid a7;have m0:=b0.symm;clear hF hz hL a8 c0 a7 b0 a6;go_enter func173,ntmps173;go_wp2_with fail;refine(b9 _).mono ?_;rintro e O ⟨rfl,rfl⟩;go_wp2_with fail
 go_loopg [1,6,7,8,10] 16 (fun g s1 s6 s7 s8 d5 wr=>∃(k:Nat) (o:List UInt8) (d:Int) (D:Bool) (E:Int),k<=16/\g=16-k/\d5=.int .i64 (k:Int)/\s1=.int .i64 d/\s8=.bool D/\s6=.int .i64 E/\Hid ((E=0/\dQ s.data.toList p k=(o,d,L||D,0))\/(E≠0/\(dQ s.data.toList p k).2.2.2=E))/\o.length<=16*k/\OwB wr O.heap.size s7 o/\Below O.heap.size O wr)
 case atStart=>exact⟨0,[],a9,false,G,by omega,rfl,rfl,rfl,rfl,rfl,c1,by simp,Ow.nil _ _ _,aH _ _⟩
 case round=>
  obtain⟨k,o,d,D,E,hk,I,rfl,rfl,rfl,rfl,HU,f0,a3,M⟩:=hrel;have HG:=hid I;clear I m0;have f1:=M.size
  by_cases U:E=0
  rotate_left
  ·have t2:(E==0)=false:=by rw[cB];exact U
   have t3:(E != 0)=true:=by rw[bne_iff_ne];exact U
   have A:dF s.data.toList p=([],0,E):=by
    rcases HU.out with⟨h,_⟩|⟨_,h⟩
    ·exact absurd h U
    ·exact UI U hk h
   have c2:=hid A;clear A U
   by_cases d6:k<16
   ·have t1:decide ((k:Int)<16)=true:=aG (by omega);go_wp2_with fail
    go_ret3
    exact⟨by rw[c2.out];rfl,M⟩
   ·have t1:decide ((k:Int)<16)=false:=aE (by omega);go_wp2_with fail
    go_ret3
    exact⟨by rw[c2.out];rfl,M⟩
  ·subst U;have A:dQ s.data.toList p k=(o,d,L||D,0):=by
    rcases HU.out with⟨_,h⟩|⟨h,_⟩
    ·exact h
    ·exact absurd rfl h
   have f2:0<=p/\p<=8000000:=by
    apply d4.out
    by_cases h:G=0
    ·exact h
    ·have h0:(dQ s.data.toList p 0).2.2.2=G:=by
      rcases c1.out with⟨h1,_⟩|⟨_,h1⟩
      ·exact absurd h1 h
      ·exact h1
     have h2:=CC (s:=s.data.toList) (at':=p) (k:=0) (by rw[h0];exact h) k;rw[Nat.zero_add] at h2;rw[h2] at A;rw[A] at h0;exact h0.symm
   have b1:=EO s.data.toList p k;rw[A] at b1;have d7:=b1.2 rfl;simp only at d7;clear b1
   by_cases d6:k<16
   ·have t1:decide ((k:Int)<16)=true:=aG (by omega);obtain⟨q,hq⟩:=ex1 (15-k);have m1:aJ.wrap (15-(k:Int))=(q:Int):=by rw[aM];omega
    have f3:(15:Int)-(k:Int)=(q:Int):=by omega
    have m2:min q 64=q:=by omega
    have e4:=SW F q d3;obtain⟨b,R⟩:=ex1 (F.testBit q);rw[<-R] at e4;have HB:=hid (show(aK s.data.toList p 16).testBit (15-k)=b by rw[<-HF.out,<-hq,R]);clear hq R
    cases b with
    |false=>
     have HS:=hid (aHw A HB.out);have e5:((false.toNat:Nat):Int)=0:=rfl;rw[e5] at e4;clear A;go_wp2_with fail;have I:=HG.out
     go_roundg (16-(k+1))
     ·exact⟨k+1,o,d,D,0,by omega,rfl,by go_num,rfl,rfl,rfl,hid (.inl ⟨rfl,HS.out⟩),by omega,a3,M⟩
     ·omega
    |true=>
     have e5:((true.toNat:Nat):Int)=1:=rfl;rw[e5] at e4;have c3:=fun W=>uQ s d 16 W hs (by decide) (by omega) (by omega)
     have hV:=jV s.data.toList d 16;have b2:=KS (aK s.data.toList d 16) k;obtain⟨b3,c4⟩:∃q:Int,q=d+16:=⟨_,rfl⟩;have m3:aJ.wrap (d+16)=b3:=by rw[aM];omega
     have a4:(aP s.size d 16=0/\dQ s.data.toList p (k+1)=(o++nJ (aK s.data.toList d 16) k 16,b3,L||(D||aK s.data.toList d 16==0),0))\/(aP s.size d 16≠0/\(dQ s.data.toList p (k+1)).2.2.2=aP s.size d 16):=by
      by_cases h:aP s.size d 16=0
      ·left
       have:=aHy A HB.out (by rw[HL.out];exact h);rw[Bool.or_assoc] at this;exact⟨h,by rw[this,c4]⟩
      ·right
       have:=aHx A HB.out (by rw[HL.out];exact h);rw[HL.out] at this;exact⟨h,this⟩
     obtain⟨V,b4⟩:=ex1 (aK s.data.toList d 16);obtain⟨E2,c5⟩:=ex1 (aP s.size d 16);rw[<-b4,<-c5] at c3 a4;rw[<-b4] at hV b2;have d8:V<18446744073709551616:=by omega
     obtain⟨T1,b5⟩:∃T1:Bool,T1=(V==0):=⟨_,rfl⟩;have u1:((V:Int)==0)=T1:=by
      rw[b5]
      by_cases h:V=0
      ·rw[h];rfl
      ·rw[beq_eq_false_iff_ne.2 h,cB];omega
     rw[<-b5] at a4;have d9:=hid a4;obtain⟨Y,c6⟩:=ex1 (16*k);have m4:aJ.wrap ((k:Int)*16)=(Y:Int):=by rw[aM];omega
     have m5:(k:Int)*16=(Y:Int):=by omega
     have e0:=hid c6;have f4:Y<=240:=by omega
     have c7:=hid b2;clear c6 b5 c4 b4 b2 a4 A c5;go_wp2_with fail;refine(c3 _).mono ?_;rintro e w2 ⟨rfl,rfl⟩;go_upto_region 12 with fail
     go_cut [8] (fun c8 wx=>c8=.bool (D||T1)/\wx=w2)
     case first=>
      cases D with
      |true=>go_wp2_with fail;go_meet;exact⟨rfl,rfl⟩
      |false=>go_wp2_with fail;go_meet;exact⟨rfl,rfl⟩
     case rest=>
      obtain⟨rfl,rfl⟩:=hcut;go_wp2_with fail
      go_loopg [7,48] 16 (fun g s7 e1 wx=>∃i:Nat,i<=16/\g=16-i/\e1=.int .i64 (i:Int)/\OwB wx O.heap.size s7 (o++nJ V k i)/\Below O.heap.size O wx)
      case atStart=>exact⟨0,by omega,rfl,rfl,by rw[show nJ V k 0=[] from rfl,dI];exact a3,M⟩
      case round=>
       obtain⟨i,hi,I,rfl,b6,a5⟩:=hrel;have c9:=hid I;clear I e4
       by_cases f5:i<16
       ·have u2:decide ((i:Int)<16)=true:=aG (by omega);obtain⟨Z,b7⟩:=ex1 (15-i);have m6:aJ.wrap (15-(i:Int))=(Z:Int):=by rw[aM];omega
        have f6:(15:Int)-(i:Int)=(Z:Int):=by omega
        have m7:min Z 64=Z:=by omega
        have e6:=SW V Z d8;have a1:=hid (aH0 V k i);rw[<-b7] at a1;have f7:=c7.out i
        cases a0:V.testBit Z with
        |false=>
         rw[a0,show((false.toNat:Nat):Int)=0 from rfl] at e6;rw[a0] at a1;clear a0 b7;go_wp2_with fail;have I:=c9.out
         go_roundg (16-(i+1))
         ·exact⟨i+1,by omega,rfl,by go_num,by rw[a1.out,aA (by decide),dI];exact b6,a5⟩
         ·omega
        |true=>
         rw[a0,show((true.toNat:Nat):Int)=1 from rfl] at e6;rw[a0] at a1;obtain⟨c,hc⟩:∃c:Nat,c=Y+i:=⟨_,rfl⟩;have m8:aJ.wrap ((Y:Int)+(i:Int))=(c:Int):=by rw[aM];omega
         have f8:(Y:Int)+(i:Int)=(c:Int):=by omega
         obtain⟨b,R⟩:∃b:UInt8,b=eA c:=⟨_,rfl⟩;have b8:b.toNat=c:=by rw[R,UInt8.toNat_ofNat'];omega
         have m9:IntKind.u8.wrap (c:Int)=(b.toNat:Int):=by rw[b8,IntKind.wrap_u8];omega
         have f9:(c:Int)%256=(b.toNat:Int):=by rw[b8];omega
         have e2:=hid (show eA (16*k+i)=b by rw[R,hc,e0.out]);have e3:=a5.size;clear a0 b7 hc R b8;go_wp2_with (at_builtin;refine DX rfl _ _ rfl O.heap.size _ _ rfl (Ow.alloc b6 _) wr.heap.size b rfl ?_ ?_ ?_ ?_;(exact bX _ _ _);(rw[aL];omega);(simp;omega);intro v' w3 e7 hB g0);have I:=c9.out
         go_roundg (16-(i+1))
         ·exact⟨i+1,by omega,rfl,by go_num,by rw[a1.out,aB trivial,e2.out,<-List.append_assoc];exact e7,(a5.alloc e3 _).trans hB⟩
         ·omega
       ·have u2:decide ((i:Int)<16)=false:=aE (by omega);have e8:i=16:=by omega
        subst e8;have g1:=c7.out 16;go_wp2_with fail;have I:=HG.out
        go_roundg (16-(k+1))
        ·exact⟨k+1,_,b3,D||T1,E2,by omega,rfl,by go_num,rfl,rfl,rfl,d9,by rw[aL];omega,b6,a5⟩
        ·omega
   ·have t1:decide ((k:Int)<16)=false:=aE (by omega);have e9:k=16:=by omega
    subst e9;have J:=aHz A
    cases D with
    |true=>
     rw[Bool.or_true,aB rfl] at J;have a2:=hid J;clear J A;go_wp2_with fail
     go_ret3
     exact⟨by rw[a2.out];rfl,M⟩
    |false=>
     cases L with
     |true=>
      rw[OZ,aB rfl] at J;have a2:=hid J;clear J A;go_wp2_with fail
      go_ret3
      exact⟨by rw[a2.out];rfl,M⟩
     |false=>
      rw[OZ,aA (by decide)] at J;have a2:=hid J;clear J A;obtain⟨a,n,c,rfl,HN,g2,g3⟩:=a3.openN;have g4:(convert 84 9 (.slice a n c)).run pG wr=.ok (.string (mkS o)) wr:=mP a3.rd;go_wp2_with fail
      go_ret3
      exact⟨by rw[a2.out];rfl,M⟩
end
section
open Go
instance entDec:DecidableEq Ent:=fun x y=>
 if h:x.a=y.a/\x.r=y.r/\x.f=y.f/\x.n=y.n/\x.y=y.y then isTrue (by
  obtain⟨a,r,f,n,c⟩:=x;obtain⟨a',r',f',n',c'⟩:=y;obtain⟨h1,h2,h3,h4,h5⟩:=h;dsimp only at h1 h2 h3 h4 h5;rw[h1,h2,h3,h4,h5]) else isFalse (fun e=>h (by rw[e];exact⟨rfl,rfl,rfl,rfl,rfl⟩))
def AJ (s:List UInt8):Ent:=⟨aJ.wrap (bP (s.take 8):Int),bP ((s.drop 8).take 2),aJ.wrap (bP ((s.drop 10).take 8):Int),bP ((s.drop 18).take 4),bP ((s.drop 22).take 4)⟩
def wR (s:List UInt8):Bool:=decide (9223372036854775808<=bP (s.take 8))||decide (9223372036854775808<=bP ((s.drop 10).take 8))
def qK:Nat->List UInt8->List Ent
 |0,_=>[]
 |n+1,s=>AJ s::qK n (s.drop 26)
def rC:Nat->List UInt8->Bool
 |0,_=>false
 |n+1,s=>wR s||rC n (s.drop 26)
theorem DD {s:List UInt8} {k n:Nat} (h:s.length<=k) (d:256^k=n):bP s<n:=by
 have:=VQ s;have:=Nat.pow_le_pow_right (n:=256) (by decide) h;omega
theorem aKh:∀(n:Nat) (s:List UInt8),qK (n+1) s=qK n s++[AJ (s.drop (26*n))]
 |0,s=>by simp[qK]
 |n+1,s=>by
  show AJ s::qK (n+1) (s.drop 26)=AJ s::(qK n (s.drop 26)++_);rw[aKh n,kG,show 26+26*n=26*(n+1) by omega]
theorem aKi:∀(n:Nat) (s:List UInt8),rC (n+1) s=(rC n s||wR (s.drop (26*n)))
 |0,s=>by simp[rC]
 |n+1,s=>by
  show(wR s||rC (n+1) (s.drop 26))=(wR s||rC n (s.drop 26)||_);rw[aKi n,kG,Bool.or_assoc,show 26+26*n=26*(n+1) by omega]
theorem VZ:∀(n:Nat) (s:List UInt8),(qK n s).length=n
 |0,s=>rfl
 |n+1,s=>by simp[qK,VZ]
theorem aKj {s:List UInt8} (h:wR s=false):AJ s=qJ s/\(qJ s).a<9223372036854775808/\(qJ s).f<9223372036854775808:=by
 unfold wR at h;obtain⟨d,e⟩:=DL.1 h;have d:=of_decide_eq_false d;have e:=of_decide_eq_false e;have A:aJ.wrap (bP (s.take 8):Int)=(bP (s.take 8):Int):=by rw[aM];omega
 have D:aJ.wrap (bP ((s.drop 10).take 8):Int)=(bP ((s.drop 10).take 8):Int):=by rw[aM];omega
 grind [AJ,qJ,bP,wR]
theorem bEd (s:List UInt8):wR s=false↔(qJ s).a<9223372036854775808/\(qJ s).f<9223372036854775808:=by grind [aKj,bP,wR,qJ]
theorem aKk:∀(n:Nat) (s:List UInt8),rC n s=false->qK n s=jC n s
 |0,_,_=>rfl
 |n+1,s,h=>by
  obtain⟨d,e⟩:=DL.1 h;show AJ s::_=qJ s::_;rw[(aKj d).1,aKk n _ e]
theorem WA:∀(n:Nat) (s:List UInt8),rC n s=false↔∀x∈jC n s,x.a<9223372036854775808/\x.f<9223372036854775808
 |0,_=>⟨fun _ _ h=>(nomatch h),fun _=>rfl⟩
 |n+1,s=>by
  show(wR s||rC n (s.drop 26))=false↔∀x∈qJ s::jC n (s.drop 26),_;rw[DL,bEd,WA n,List.forall_mem_cons]
theorem bEe (s:List UInt8) (h:s.length<=1000000):(dX s).1.length<=1000000:=by grind [dX,jC,VT]
end
end Go.Proofs.YtfckbfofgeilgaaGreatDoor
