/-
  Texts put together (part 23): the walks and the plain laws on which the statement stands.
-/
import Derived.LaidEql
import Derived.Stop.Asserts
import Derived.RowKitTokens
import Derived.Test.YtihbnmlinkbnkaaGreatDoorZ19
set_option maxRecDepth 100000
set_option maxHeartbeats 12800000
set_option linter.unusedVariables false
set_option linter.unusedSimpArgs false
open Go.Proofs.Tryz
open Go.Proofs.Tryz renaming prog->pG
open Bool renaming or_eq_false_iff->DL
open Go renaming wpAnyH_done->nY,wp_region_held_drew->rF
open Go.Act renaming put->bJ
open Go.Extern.ReflectliteType renaming abiMethod->aLr,assignableTo->aLt,implements_->bGg,method->WZ,relation->OJ,toType->bGf,typeOf->OL
open Go.Extern.ReflectliteValue renaming elem->aLv,flagAddr->aLu,isNil->aLs,method->OI,methodAny->bGe,parts->IN,set->aLw,unpack->WY,valueError->IM
open Go.Extern.Rtype renaming directlyAssignable->bGh
open Go.IntKind renaming i64->aJ,u8->oQ,wrap_i64->aM
open Go.Result renaming andThen->lW
open Go.RowKit.Below renaming refl->aH
open Go.Sem renaming run_bind->vI
open Go.Value renaming func->lK,int->bQ
open Go.World renaming setCell_alloc_new->aLq
open List renaming getElem?_cons_succ->gH,getElem?_cons_zero->gB,getElem?_toArray->gA,length_cons->aU,length_nil->aV,setIfInBounds_toArray->bK,set_cons_succ->bB,set_cons_zero->bH,size_toArray->dB
open Nat renaming add_sub_cancel->oR,le_refl->aD,lt_of_lt_of_le->fB,lt_trans->IL,reduceAdd->cV,reduceSub->dC
open Option.some renaming inj->cC
open Or renaming inl->gJ,inr->gI
namespace Go.Proofs.YtihbnmlinkbnkaaGreatDoor
section
open Go.RowKit Go.Shelf
def KG (w0:World) (g:Nat) (d:Array Value) (p:Int->Bool) (l:List Int):Prop:=
 ∀W,Below w0.heap.size w0 W->∀x∈l,Calls pG g (#[bQ .i64 x]++d) W fun e A=>e=.returned (.bool (p x))/\Below W.heap.size W A
theorem aQy (g:Nat) (J:Array Value) (p:Int->Bool) (v:Value) (l:List Int) (w:World) (L:RdI w v l) (A:Enters pG g) (M:KG w g J p l):
  Calls pG 204 #[v,.func (.func g) #[] J] w fun e w'=>e=.returned (.int .i64 (iR p l))/\Below w.heap.size w w':=by
 obtain⟨a,ca,rfl,a5,a1,O⟩:=L.open;unfold maxLen at a1;clear L;have HP:=hid M;have hE:∀args W,(callFunc g args).run pG W=.ok (.enter g args) W:=A;clear M A;go_enter func204,ntmps204;go_wp2_with fail
 go_loopg [8] l.length (fun gh s8 wr=>∃k:Nat,k<=l.length/\gh=l.length-k/\s8=.int .i64 k/\Hid (∀x∈l.take k,p x=false)/\Below w.heap.size w wr)
 case atStart=>exact⟨0,Nat.zero_le _,rfl,rfl,hid (fun x F=>by simp at F),aH _ _⟩
 case round=>
  obtain⟨k,hk,A,rfl,HT,G⟩:=hrel;have HG:=hid A;clear A
  by_cases H:k<l.length
  ·obtain⟨b1,o1,rfl,a2,U⟩:=O (by omega);obtain⟨x,F⟩:=eG H;have c1:=(G.cell (p:=⟨b1,o1+k,none⟩) a2).trans (U k x F);have a3:x∈l:=List.mem_of_getElem? F;have V:=hid F;have hP:=HP.out _ G x a3;clear U F O;go_wp2_with fail;refine hP.mono ?_;rintro e w1 ⟨rfl,a4⟩;have Z:=G.trans (a4.mono G.size)
   by_cases I:p x=true
   ·rw[I];go_wp2_with fail;go_ret;refine⟨eI ?_,Z⟩;rw[JD HT.out H (by have:=V.out;rw[List.getElem?_eq_getElem H] at this;rw[cC this];exact I)]
   ·have a0:p x=false:=by simpa using I
    rw[a0];go_wp2_with fail;have A:=HG.out
    go_roundg (l.length-(k+1))
    case measure=>omega
    case rel=>
     refine⟨k+1,by omega,rfl,by go_num,hid (fun y d=>?_),Z⟩;rw[List.take_add_one,V.out] at d;rcases List.mem_append.1 d with d|d
     ·exact HT.out y d
     ·simp at d;rw[d];exact a0
  ·go_wp2_with fail;go_ret;exact⟨eI (by rw[sK];have:=HT.out;rwa[List.take_of_length_le (by omega)] at this),G⟩
theorem aBa (g:Nat) (d:Array Value) (p:Int->Bool) (v:Value) (l:List Int) (w:World) (A:RdI w v l) (F:Enters pG g) (G:KG w g d p l):
  Calls pG 141 #[v,.func (.func g) #[] d] w fun e w'=>e=.returned (.bool (decide (0<=iR p l)))/\Below w.heap.size w w':=by
 have H:=hid (aQy g d p v l w A F G);obtain⟨i,hi⟩:∃i,i=iR p l:=⟨_,rfl⟩;rw[<-hi] at H ⊢;clear A F G hi;go_enter func141,ntmps141;go_wp2_with fail;refine H.out.mono ?_;rintro e w1 ⟨rfl,I⟩;go_wp2_with fail;go_ret;exact⟨rfl,I⟩
def pM (e:Int) (x:Int):Bool:=decide (x<0)||decide (e<=x)
theorem aBb (x:Int) (bx F:Nat) (a:ByteArray) (o most:Int) (v lv:Value) (b:ByteArray) (w:World) (H:a.size<=140737488355328) (I:v.oneCell'=true) (L:w.cell? ⟨bx,0,none⟩=some (.pointer (some ⟨F,0,none⟩))) (A:Arr w F 236 [.string a,.int .i64 o,v,.int .i64 most,lv,.string b]):
  Calls pG 229 #[.int .i64 x,.pointer (some ⟨bx,0,none⟩)] w fun e w'=>e=.returned (.bool (pM ((a.size:Int)+1) x))/\Below w.heap.size w w':=by
 have M:=A.cell (i:=0) rfl;have O:=A.cell (i:=1) rfl;have U:=A.cell (i:=2) rfl
 by_cases G:x<0
 ·have t1:decide (x<0)=true:=aG G;have d:pM ((a.size:Int)+1) x=true:=by unfold pM;rw[t1];rfl
  rw[d];go_enter func229,ntmps229;go_wp2_with fail;go_ret;exact⟨rfl,aH _ _⟩
 ·have t1:decide (x<0)=false:=aE G;have d:pM ((a.size:Int)+1) x=decide ((a.size:Int)+1<=x):=by unfold pM;rw[t1];rfl
  rw[d];clear d;go_enter func229,ntmps229;go_wp2_with fail;refine(BQ a o v I _ H).mono ?_;rintro e w1 ⟨rfl,J⟩;go_wp2_with fail;go_ret;exact⟨rfl,J⟩
abbrev kM (W:World) (d:Nat) (a:ByteArray) (o:Int) (v:Value) (A q:Nat) (y:Int) (w':World):Prop:=
 w'.cell? ⟨W.heap.size,0,none⟩=some (.pointer (some ⟨d,0,none⟩))/\w'.cell? ⟨d,0,none⟩=some (.string a)/\w'.cell? ⟨d,1,none⟩=some (.int .i64 o)/\w'.cell? ⟨d,2,none⟩=some v/\w'.cell? ⟨A,q,none⟩=some (.int .i64 y)/\Below W.heap.size W w'/\W.heap.size<w'.heap.size
theorem kM.keep {W w w':World} {A:Nat} {a:ByteArray} {o:Int} {v:Value} {G q:Nat} {y:Int} (h:kM W A a o v G q y w) (H:A<W.heap.size) (J:G<W.heap.size) (d:Below w.heap.size w w'):kM W A a o v G q y w':=by
 obtain⟨L,M,O,U,V,I,F⟩:=h;refine⟨?_,?_,?_,?_,?_,I.trans (d.mono I.size),fB F d.size⟩
 ·rw[d.cell (p:=⟨W.heap.size,0,none⟩) F];exact L
 ·rw[d.cell (p:=⟨A,0,none⟩) (IL H F)];exact M
 ·rw[d.cell (p:=⟨A,1,none⟩) (IL H F)];exact O
 ·rw[d.cell (p:=⟨A,2,none⟩) (IL H F)];exact U
 ·rw[d.cell (p:=⟨G,q,none⟩) (IL J F)];exact V
theorem kM.drew {W w:World} {d:Nat} {a:ByteArray} {o:Int} {v:Value} {A q:Nat} {y:Int} (h:kM W d a o v A q y w):kM W d a o v A q y w.drew:=
 ⟨h.1,h.2.1,h.2.2.1,h.2.2.2.1,h.2.2.2.2.1,h.2.2.2.2.2.1.drew,h.2.2.2.2.2.2⟩
theorem aQz (d:Nat) (a:ByteArray) (o most:Int) (v lv:Value) (l:List Int) (b:ByteArray) (w:World) (ha:a.size<=256) (M:Arr w d 236 [.string a,.int .i64 o,v,.int .i64 most,lv,.string b]) (hr:RdI w v l) (a4:¬jU l ((a.size:Int)+1)):
  Calls pG 183 #[.pointer (some ⟨d,0,none⟩)] w fun e w'=>e=.returned (.int .i64 3)/\Below w.heap.size w w':=by
 obtain⟨ad,J,rfl,a5,a0,hA⟩:=hr.open;have a6:=a0;unfold maxLen at a0;have H:=M.lt;have c2:=M.cell (i:=2) rfl
 by_cases h0:l.length=0
 ·have t1:decide ((l.length:Int)-1<0)=true:=aG (by omega);have e1:aJ.wrap ((l.length:Int)-1)= -1:=by rw[aM];omega
  go_enter func183,ntmps183;go_wp2_with fail
  go_quiet (fail)
  go_wp2_with fail;go_ret;exact⟨rfl,kY ((aH _ _).alloc (aD _) _) _⟩
 ·obtain⟨m,hm⟩:∃m,l.length=m+1:=⟨l.length-1,by omega⟩;obtain⟨A,F,rfl,L,V⟩:=hA (by omega);obtain⟨y,Z⟩:=eG (show m<l.length by omega);have cy:=V m y Z;have r1:aJ.wrap ((l.length:Int)-1)=(m:Int):=by rw[aM];omega
  have r2:m<=J:=by omega
  have r3:(m:Int)<=(J:Int):=by omega
  have r4:(0:Int)<=(m:Int):=by omega
  have r5:m<l.length:=by omega
  have r6:(m:Int)<(l.length:Int):=by omega
  have r7:decide ((m:Int)<0)=false:=aE (by omega);have HM:=hid hm;have HC:=hid V;have HY:=hid Z;have c0:=M.cell (i:=0) rfl;have c1:=M.cell (i:=1) rfl;have z0:kM w d a o (.slice (some ⟨A,F,none⟩) l.length J) A (F+m) y (w.alloc (.cells #[.pointer (some ⟨d,0,none⟩)] 239)):=by
   have O:Below w.heap.size w (w.alloc (.cells #[.pointer (some ⟨d,0,none⟩)] 239)):=(aH _ _).alloc (aD _) _;exact⟨bX _ _ _,by rw[O.cell (p:=⟨d,0,none⟩) H];exact c0,by rw[O.cell (p:=⟨d,1,none⟩) H];exact c1,by rw[O.cell (p:=⟨d,2,none⟩) H];exact c2,by rw[O.cell (p:=⟨A,F+m,none⟩) L];exact cy,O,by simp⟩
  clear hm V Z hA
  by_cases a1:y=(a.size:Int)+1
  ·subst a1;have f2:(((a.size:Int)+1) != ((a.size:Int)+1))=false:=by simp
   have a2:decide (0<=iR (pM ((a.size:Int)+1)) (l.take m))=true:=by
    refine aG ?_;rcases Int.lt_or_le (iR (pM ((a.size:Int)+1)) (l.take m)) 0 with q|q
    ·exfalso;refine a4 ⟨by omega,by rw[HM.out,oR];exact HY.out,fun x hx=>?_⟩;rw[HM.out,oR] at hx;have:=(JC (pM ((a.size:Int)+1)) (l.take m)).2.2.1 q x hx;unfold pM at this;rw[DL,decide_eq_false_iff_not,decide_eq_false_iff_not] at this;omega
    ·exact q
   have a7:=hid (KF L HC.out m (by omega) a5 a6);have a3:∀W,kM w d a o (.slice (some ⟨A,F,none⟩) l.length J) A (F+m) ((a.size:Int)+1) W->KG W 229 #[.pointer (some ⟨w.heap.size,0,none⟩)] (pM ((a.size:Int)+1)) (l.take m):=fun W hW W' a8 x _=>by
    have hk:=kM.keep hW H L a8;exact aBb x w.heap.size d a o most _ lv b W' (by omega) rfl hk.1 (M.below hk.2.2.2.2.2.1 H)
   have a9:=hid a3;have HF:=hid a2;clear a3 a2;go_enter func183,ntmps183;go_upto_region 2 with fail;generalize w.alloc (.cells #[.pointer (some ⟨d,0,none⟩)] 239)=wa at*
   refine rF (S:=(fun w'=>w'.cell? ⟨w.heap.size,0,none⟩=some (.pointer (some ⟨d,0,none⟩))/\w'.cell? ⟨d,0,none⟩=some (.string a)/\w'.cell? ⟨d,1,none⟩=some (.int .i64 o)/\w'.cell? ⟨d,2,none⟩=some (.slice (some ⟨A,F,none⟩) l.length J)/\w'.cell? ⟨A,F+m,none⟩=some (.int .i64 ((a.size:Int)+1))/\Below w.heap.size w w'/\w.heap.size<w'.heap.size)) (by kernel_rfl) (kM.drew z0) (fun b1=>?_)
   iterate 15
    refine fV 0 0 (by simp only[dB,aU,aV,cV,dC]<;>rfl) (by simp only[gA,gH,gB];rfl) (by kernel_rfl) (by exact fun _ _ _ h=>h) (by first|exact gI ⟨by rfl,rfl⟩|(refine gJ ⟨by rfl,?_⟩;intro w' G;(try dsimp only at G);(try go_simp);try with_reducible rfl)) (by assumption) ?_
    try simp only[bJ,bK,bH,bB]
   refine dJ (i:=15) (by kernel_rfl) rfl (fun K I=>?_);go_simp
   go_at_call 132
   refine(BQ a o _ rfl _ (by omega)).mono ?_;rintro e w' ⟨rfl,U⟩
   (try go_wp2_with fail)
   refine I.out _ _ (kM.keep (by assumption) H L U) (fun b2=>?_);clear I K
   try simp only[bJ,bK,bH,bB]
   iterate 11
    refine fV 0 0 (by simp only[dB,aU,aV,cV,dC]<;>rfl) (by simp only[gA,gH,gB];rfl) (by kernel_rfl) (by exact fun _ _ _ h=>h) (by first|exact gI ⟨by rfl,rfl⟩|(refine gJ ⟨by rfl,?_⟩;intro w' G;(try dsimp only at G);(try go_simp);try with_reducible rfl)) (by assumption) ?_
    try simp only[bJ,bK,bH,bB]
   refine dJ (i:=27) (by kernel_rfl) rfl (fun K I=>?_);go_simp
   go_at_call 141
   refine(aBa _ _ (pM ((a.size:Int)+1)) _ (l.take m) _ (a7.out.below (show kM w d a o _ A (F+m) _ _ by assumption).2.2.2.2.2.1) (enters_of func229 rfl rfl) (a9.out _ (by assumption))).mono ?_;rintro e w' ⟨rfl,U⟩;rw[HF.out]
   (try go_wp2_with fail)
   refine I.out _ _ (kM.keep (by assumption) H L U) (fun b3=>?_);clear I K
   try simp only[bJ,bK,bH,bB]
   refine fV 0 0 (by simp only[dB,aU,aV,cV,dC]<;>rfl) (by simp only[gA,gH,gB];rfl) (by kernel_rfl) (by exact fun _ _ _ h=>h) (by first|exact gI ⟨by rfl,rfl⟩|(refine gJ ⟨by rfl,?_⟩;intro w' G;(try dsimp only at G);(try go_simp);try with_reducible rfl)) (by assumption) ?_
   try simp only[bJ,bK,bH,bB]
   refine nY (by kernel_rfl) ?_ _;go_wp2_with fail;go_ret;exact⟨rfl,(show kM w d a o _ A (F+m) _ _ by assumption).2.2.2.2.2.1⟩
  ·have f2:(y != (a.size:Int)+1)=true:=by simp[a1]
   go_enter func183,ntmps183;go_upto_region 2 with fail;generalize w.alloc (.cells #[.pointer (some ⟨d,0,none⟩)] 239)=wa at*
   refine rF (S:=(fun w'=>w'.cell? ⟨w.heap.size,0,none⟩=some (.pointer (some ⟨d,0,none⟩))/\w'.cell? ⟨d,0,none⟩=some (.string a)/\w'.cell? ⟨d,1,none⟩=some (.int .i64 o)/\w'.cell? ⟨d,2,none⟩=some (.slice (some ⟨A,F,none⟩) l.length J)/\w'.cell? ⟨A,F+m,none⟩=some (.int .i64 y)/\Below w.heap.size w w'/\w.heap.size<w'.heap.size)) (by kernel_rfl) (kM.drew z0) (fun b1=>?_)
   iterate 15
    refine fV 0 0 (by simp only[dB,aU,aV,cV,dC]<;>rfl) (by simp only[gA,gH,gB];rfl) (by kernel_rfl) (by exact fun _ _ _ h=>h) (by first|exact gI ⟨by rfl,rfl⟩|(refine gJ ⟨by rfl,?_⟩;intro w' G;(try dsimp only at G);(try go_simp);try with_reducible rfl)) (by assumption) ?_
    try simp only[bJ,bK,bH,bB]
   refine dJ (i:=15) (by kernel_rfl) rfl (fun K I=>?_);go_simp
   go_at_call 132
   refine(BQ a o _ rfl _ (by omega)).mono ?_;rintro e w' ⟨rfl,U⟩
   (try go_wp2_with fail)
   refine I.out _ _ (kM.keep (by assumption) H L U) (fun b2=>?_);clear I K
   try simp only[bJ,bK,bH,bB]
   iterate 13
    refine fV 0 0 (by simp only[dB,aU,aV,cV,dC]<;>rfl) (by simp only[gA,gH,gB];rfl) (by kernel_rfl) (by exact fun _ _ _ h=>h) (by first|exact gI ⟨by rfl,rfl⟩|(refine gJ ⟨by rfl,?_⟩;intro w' G;(try dsimp only at G);(try go_simp);try with_reducible rfl)) (by assumption) ?_
    try simp only[bJ,bK,bH,bB]
   refine nY (by kernel_rfl) ?_ _;go_wp2_with fail;go_ret;exact⟨rfl,(show kM w d a o _ A (F+m) y _ by assumption).2.2.2.2.2.1⟩
theorem vY {w w':World} (h:Below w.heap.size w w') (row:Option Nat):w.grownBy w' row:=⟨h.os,h.tape,h.output,h.size,fun k d _=>h.block k d⟩
theorem EJ {a b c:World} {row:Option Nat} (h:a.grownBy b row) (k:b.grownBy c row):a.grownBy c row:=
 ⟨k.os.trans h.os,k.tape.trans h.tape,k.output.trans h.output,Nat.le_trans h.size k.size,fun i hi d=>(k.block i (fB hi h.size) d).trans (h.block i hi d)⟩
theorem aQ0 (d:Nat) (a:ByteArray) (o most:Int) (v lv:Value) (l:List Int) (b:ByteArray) (w:World) (ha:a.size<=256) (H:Arr w d 236 [.string a,.int .i64 o,v,.int .i64 most,lv,.string b]) (hr:RdI w v l) (Z:jU l ((a.size:Int)+1)):
  Calls pG 183 #[.pointer (some ⟨d,0,none⟩)] w fun e w'=>e=.returned (.int .i64 0)/\w.grownBy w' (some d)/\∃a1,Arr w' d 236 [.string a,.int .i64 o,v,.int .i64 most,a1,.string b]/\∀W,RdI W v l->RdI W a1 (l.take (l.length-1)):=by
 obtain⟨ad,J,rfl,a2,a3,hA⟩:=hr.open;have a4:=a3;unfold maxLen at a3;have G:=H.lt;have c2:=H.cell (i:=2) rfl;obtain⟨m,hm⟩:∃m,l.length=m+1:=⟨l.length-1,by have:=Z.1;omega⟩;obtain⟨A,F,rfl,L,a0⟩:=hA (by omega);have hy:l[m]? =some ((a.size:Int)+1):=by have:=Z.2.1;rwa[hm,oR] at this
 have cy:=a0 m _ hy;have r1:aJ.wrap ((l.length:Int)-1)=(m:Int):=by rw[aM];omega
 have r2:m<=J:=by omega
 have r3:(m:Int)<=(J:Int):=by omega
 have r4:(0:Int)<=(m:Int):=by omega
 have r5:m<l.length:=by omega
 have r6:(m:Int)<(l.length:Int):=by omega
 have r7:decide ((m:Int)<0)=false:=aE (by omega);have HM:=hid hm;have HC:=hid a0;have c0:=H.cell (i:=0) rfl;have c1:=H.cell (i:=1) rfl;have z0:kM w d a o (.slice (some ⟨A,F,none⟩) l.length J) A (F+m) ((a.size:Int)+1) (w.alloc (.cells #[.pointer (some ⟨d,0,none⟩)] 239)):=by
  have M:Below w.heap.size w (w.alloc (.cells #[.pointer (some ⟨d,0,none⟩)] 239)):=(aH _ _).alloc (aD _) _;exact⟨bX _ _ _,by rw[M.cell (p:=⟨d,0,none⟩) G];exact c0,by rw[M.cell (p:=⟨d,1,none⟩) G];exact c1,by rw[M.cell (p:=⟨d,2,none⟩) G];exact c2,by rw[M.cell (p:=⟨A,F+m,none⟩) L];exact cy,M,by simp⟩
 have f2:(((a.size:Int)+1) != ((a.size:Int)+1))=false:=by simp
 have a5:decide (0<=iR (pM ((a.size:Int)+1)) (l.take m))=false:=by
  refine aE (Int.not_le.2 ((JC (pM ((a.size:Int)+1)) (l.take m)).2.2.2 fun x hx=>?_));have:=Z.2.2 x (by rw[HM.out,oR];exact hx);unfold pM;rw[DL,decide_eq_false_iff_not,decide_eq_false_iff_not];omega
 have a8:=hid (KF L HC.out m (by omega) a2 a4);have a6:∀W,kM w d a o (.slice (some ⟨A,F,none⟩) l.length J) A (F+m) ((a.size:Int)+1) W->KG W 229 #[.pointer (some ⟨w.heap.size,0,none⟩)] (pM ((a.size:Int)+1)) (l.take m):=fun W hW W' a9 x _=>by
  have hk:=kM.keep hW G L a9;exact aBb x w.heap.size d a o most _ lv b W' (by omega) rfl hk.1 (H.below hk.2.2.2.2.2.1 G)
 have b2:=hid a6;have HF:=hid a5;have HY:=hid hy;clear a6 a5 hm a0 hy hA;go_enter func183,ntmps183;go_upto_region 2 with fail;generalize w.alloc (.cells #[.pointer (some ⟨d,0,none⟩)] 239)=wa at*
 refine rF (S:=(fun w'=>w'.cell? ⟨w.heap.size,0,none⟩=some (.pointer (some ⟨d,0,none⟩))/\w'.cell? ⟨d,0,none⟩=some (.string a)/\w'.cell? ⟨d,1,none⟩=some (.int .i64 o)/\w'.cell? ⟨d,2,none⟩=some (.slice (some ⟨A,F,none⟩) l.length J)/\w'.cell? ⟨A,F+m,none⟩=some (.int .i64 ((a.size:Int)+1))/\Below w.heap.size w w'/\w.heap.size<w'.heap.size)) (by kernel_rfl) (kM.drew z0) (fun b3=>?_)
 iterate 15
  refine fV 0 0 (by simp only[dB,aU,aV,cV,dC]<;>rfl) (by simp only[gA,gH,gB];rfl) (by kernel_rfl) (by exact fun _ _ _ h=>h) (by first|exact gI ⟨by rfl,rfl⟩|(refine gJ ⟨by rfl,?_⟩;intro w' O;(try dsimp only at O);(try go_simp);try with_reducible rfl)) (by assumption) ?_
  try simp only[bJ,bK,bH,bB]
 refine dJ (i:=15) (by kernel_rfl) rfl (fun K U=>?_);go_simp
 go_at_call 132
 refine(BQ a o _ rfl _ (by omega)).mono ?_;rintro e w' ⟨rfl,hb⟩
 (try go_wp2_with fail)
 refine U.out _ _ (kM.keep (by assumption) G L hb) (fun b4=>?_);clear U K
 try simp only[bJ,bK,bH,bB]
 iterate 11
  refine fV 0 0 (by simp only[dB,aU,aV,cV,dC]<;>rfl) (by simp only[gA,gH,gB];rfl) (by kernel_rfl) (by exact fun _ _ _ h=>h) (by first|exact gI ⟨by rfl,rfl⟩|(refine gJ ⟨by rfl,?_⟩;intro w' O;(try dsimp only at O);(try go_simp);try with_reducible rfl)) (by assumption) ?_
  try simp only[bJ,bK,bH,bB]
 refine dJ (i:=27) (by kernel_rfl) rfl (fun K U=>?_);go_simp
 go_at_call 141
 refine(aBa _ _ (pM ((a.size:Int)+1)) _ (l.take m) _ (a8.out.below (show kM w d a o _ A (F+m) _ _ by assumption).2.2.2.2.2.1) (enters_of func229 rfl rfl) (b2.out _ (by assumption))).mono ?_;rintro e I ⟨rfl,a7⟩;rw[HF.out]
 (try go_wp2_with fail)
 refine U.out _ _ (kM.keep (by assumption) G L a7) (fun b5=>?_);clear U K
 try simp only[bJ,bK,bH,bB]
 refine fV 0 0 (by simp only[dB,aU,aV,cV,dC]<;>rfl) (by simp only[gA,gH,gB];rfl) (by kernel_rfl) (by exact fun _ _ _ h=>h) (by first|exact gI ⟨by rfl,rfl⟩|(refine gJ ⟨by rfl,?_⟩;intro w' O;(try dsimp only at O);(try go_simp);try with_reducible rfl)) (by assumption) ?_
 try simp only[bJ,bK,bH,bB]
 refine nY (by kernel_rfl) ?_ _;clear b3 b4;obtain⟨k0,k1,k2,k3,k4,k5,k6⟩:=b5;have V:=H.below k5 G;have k7:=V.cell (i:=4) rfl;have k8:=V.free;clear a7 hb H z0;go_upto_region 4 with fail
 go_still_tail 10,(by kernel_rfl)
 change wpList _ _ _ _ _ I.drew;have b6:Arr I.drew d 236 _:=V;have c3:I.drew.cell? ⟨w.heap.size,0,none⟩=some (.pointer (some ⟨d,0,none⟩)):=k0;have c4:I.drew.cell? ⟨d,4,none⟩=some lv:=k7;have c5:∀i,I.drew.frozen? ⟨d,i,none⟩=false:=k8;have b7:Below w.heap.size w I.drew:=k5.drew;generalize I.drew=w4 at*
 clear V k0 k1 k2 k3 k4 k5 k6 k7 k8;go_wp2_with fail;go_ret;exact⟨rfl,qS (vY b7 _) 4 _,_,b6.set 4 _,fun W hW=>by
  obtain⟨b1,o1,e1,b8,b9⟩:=aA7 hW (by omega);obtain⟨rfl,rfl⟩:A=b1/\F=o1:=by simpa using e1
  rw[HM.out,oR];exact KF b8 b9 m (by omega) a2 a4⟩
theorem QT (x:Int) (w:World):Calls pG 182 #[.int .i64 x] w fun e w'=>e=.returned (.int .i64 x)/\w'=w:=by
 go_enter func182,ntmps182;go_wp2_with fail;go_ret;exact⟨rfl,rfl⟩
theorem aBc (x:Int) (w:World):Calls pG 186 #[.int .i64 x] w fun e w'=>e=.returned (.int .i64 (if x=0 then 0 else 3))/\w'=w:=by
 by_cases h:x=0
 ·subst h;go_enter func186,ntmps186;go_wp2_with fail;go_ret;exact⟨rfl,rfl⟩
 ·have t1:(x != 0)=true:=by simpa using h
  rw[aA h];go_enter func186,ntmps186;go_wp2_with fail;go_ret;exact⟨rfl,rfl⟩
theorem QV {w w1:World} {d:Nat} (A:Below w.heap.size w w1) (i:Nat) (v:Value):w.grownBy (w1.setCell ⟨d,i,none⟩ v) (some d):=qS (vY A _) i v
theorem OwI.setW {w w1:World} {B d:Nat} {v:Value} {l:List Int} (h:OwI w1 B v l) (A:d<w.heap.size) (F:w.heap.size<=B) (i:Nat) (x:Value):RdI (w1.setCell ⟨d,i,none⟩ x) v l:=
 (h.setLow (p:=⟨d,i,none⟩) (fB A F) x).rd
theorem aQ1 (d:Nat) (a:ByteArray) (o most:Int) (v lv:Value) (m:List Int) (b:ByteArray) (w:World) (A:Arr w d 236 [.string a,.int .i64 o,v,.int .i64 most,lv,.string b]) (I:RdI w lv m) (J:m.length<=1000000) (L:∀x∈m,0<=x/\x<=1000000) (M: -9223372036854775808<=most) (O:most<=1000000):
  Calls pG 184 #[.pointer (some ⟨d,0,none⟩)] w fun e w'=>e=.returned (.int .i64 (rM m most))/\w.grownBy w' (some d)/\∃U,Arr w' d 236 [.string a,.int .i64 o,v,.int .i64 most,U,.string b]/\RdI w' U (sQ m most):=by
 obtain⟨F,G,rfl,a2,a4,_⟩:=I.open;have V:=A.lt;have c3:=A.cell (i:=3) rfl;have c4:=A.cell (i:=4) rfl;have HD:∀W:World,RdI W (.slice F m.length G) m->Hid (Calls pG 230 #[.slice F m.length G,.int .i64 most] W fun e w'=>∃H,e=.returned (.tuple #[H,.int .i64 (rM m most)])/\OwI w' W.heap.size H (sQ m most)/\Below W.heap.size W w'):=fun W hW=>hid (aP4 _ m most W hW J L M O)
 have a5:RdI w.drew (.slice F m.length G) m:=I;clear J L M O;go_enter func184,ntmps184;go_upto_region 1 with fail
 go_region_with (go_at_call 230;refine((HD _ (by assumption)).out).mono ?_;rintro e w1 ⟨H,rfl,Z,hb⟩;obtain⟨a3,k3,e3,_,_,_⟩:=Z.rd.open;subst e3;have a0:Below w.heap.size w w1:=(aH _ _).drew.trans hb;have a1:OwI w1 w.heap.size _ _:=Z;have k:=A.below a0 V;have k4:=k.cell (i:=4) rfl;have k5:=k.free)
 all_goals go_wp2_with fail
 all_goals go_ret
 all_goals exact⟨rfl,QV a0 4 _,_,k.set 4 _,a1.setW V (aD _) 4 _⟩
theorem aQ2 (d:Nat) (a:ByteArray) (o most:Int) (v lv:Value) (b:ByteArray) (w:World) (A:Arr w d 236 [.string a,.int .i64 o,v,.int .i64 most,lv,.string b]) (F:RdI w lv []):
  Calls pG 185 #[.pointer (some ⟨d,0,none⟩)] w fun e w'=>e=.returned (.int .i64 3)/\w'=w:=by
 obtain⟨G,H,rfl,_,_,_⟩:=F.open;have I:=A.cell (i:=4) rfl;go_enter func185,ntmps185;go_wp2_with fail;go_ret;exact⟨rfl,rfl⟩
theorem aQ3 (d:Nat) (a:ByteArray) (o most:Int) (v lv:Value) (m:List Int) (b:ByteArray) (w:World) (A:Arr w d 236 [.string a,.int .i64 o,v,.int .i64 most,lv,.string b]) (H:RdI w lv m) (h0:0<m.length) (I:a.size<=1000) (J:m.length<=1000000) (L:a.data.toList.Nodup) (M:∀x∈m,0<=x/\x<(a.size:Int)):
  Calls pG 185 #[.pointer (some ⟨d,0,none⟩)] w fun e w'=>e=.returned (.int .i64 0)/\w.grownBy w' (some d)/\Arr w' d 236 [.string a,.int .i64 o,v,.int .i64 most,lv,.string (mkS (unL a.data.toList m))]:=by
 obtain⟨F,G,rfl,_,_,_⟩:=H.open;have U:=A.lt;have c0:=A.cell (i:=0) rfl;have c4:=A.cell (i:=4) rfl;have t1:((m.length:Int)==0)=false:=by rw[cB];omega
 have t2:decide (m.length=0)=false:=aE (by omega);have V:∀W:World,RdI W (.slice F m.length G) m->Hid (Calls pG 231 #[.string a,.slice F m.length G] W fun e w'=>e=.returned (.tuple #[.string (mkS (unL a.data.toList m)),.int .i64 0])/\Below W.heap.size W w'):=fun W Z=>hid (aOl a _ m W I J L Z M)
 have a0:RdI w.drew (.slice F m.length G) m:=H;clear I J L M;go_enter func185,ntmps185;go_upto_region 3 with fail
 go_region_with (go_at_call 231;refine((V _ (by assumption)).out).mono ?_;rintro e w1 ⟨rfl,hb⟩;have O:Below w.heap.size w w1:=(aH _ _).drew.trans hb;have k:=A.below O U;have k4:=k.cell (i:=5) rfl;have k5:=k.free)
 all_goals go_wp2_with fail
 all_goals go_ret
 all_goals exact⟨rfl,QV O 5 _,k.set 5 _⟩
theorem aQ4 (d:Nat) (a:ByteArray) (o most:Int) (v lv:Value) (b:ByteArray) (w:World) (A:Arr w d 236 [.string a,.int .i64 o,v,.int .i64 most,lv,.string b]) (F:b.size<=1000000000) (G: -9223372036854775808<=o) (H:o<=9223372036854775807):
  Calls pG 187 #[.pointer (some ⟨d,0,none⟩)] w fun e w'=>e=.returned (.int .i64 (rK b.data.toList o))/\w.grownBy w' (some d)/\Arr w' d 236 [.string a,.int .i64 o,v,.int .i64 most,lv,.string (mkS (oU b.data.toList o))]:=by
 have J:=A.lt;have M:=A.cell (i:=1) rfl;have O:=A.cell (i:=5) rfl;have L:∀W:World,Hid (Calls pG 232 #[.string b,.int .i64 o] W fun e w'=>e=.returned (.tuple #[.string (mkS (oU b.data.toList o)),.int .i64 (rK b.data.toList o)])/\Below W.heap.size W w'):=fun W=>hid (aQt b o W F G H)
 clear F G H;go_enter func187,ntmps187;go_upto_region 1 with fail
 go_region_with (go_at_call 232;refine((L _).out).mono ?_;rintro e w1 ⟨rfl,F⟩;have I:Below w.heap.size w w1:=(aH _ _).drew.trans F;have k:=A.below I J;have U:=k.cell (i:=5) rfl;have V:=k.free)
 all_goals go_wp2_with fail
 all_goals go_ret
 all_goals exact⟨rfl,QV I 5 _,k.set 5 _⟩
def QW (w:World) (d:Nat) (E:Nat->Int) (S:Nat->World->Prop) (e:Ending) (w':World):Prop:=
 w.grownBy w' (some d)/\((∃k,k<5/\E k≠0/\(∀j,j<k->E j=0)/\e=.returned (.iface 284 (.agg #[.int .i64 (k:Int),.iface 237 (.int .i64 (E k))])))\/((∀j,j<5->E j=0)/\S 5 w'/\e=.returned .nilIface))
theorem aQ5 {w w':World} {d:Nat} {E:Nat->Int} {S:Nat->World->Prop} {k:Nat} (A:w.grownBy w' (some d)) (F:k<5) (G:E k≠0) (H:∀j,j<k->E j=0):QW w d E S (.returned (.iface 284 (.agg #[.int .i64 (k:Int),.iface 237 (.int .i64 (E k))]))) w':=by grind [QW]
theorem aQ6 {w w':World} {d:Nat} {E:Nat->Int} {S:Nat->World->Prop} (A:w.grownBy w' (some d)) (F:∀j,j<5->E j=0) (G:S 5 w'):QW w d E S (.returned .nilIface) w':=by grind [QW]
abbrev vZ (W:World) (F A d y:Nat) (w':World):Prop:=w'.cell? ⟨A,0,none⟩=some (lK (.func d) #[] #[])/\w'.cell? ⟨A,1,none⟩=some (lK (.func y) #[] #[])/\W.grownBy w' (some F)/\A<w'.heap.size
theorem vZ.drew {W w:World} {A F d y:Nat} (h:vZ W A F d y w):vZ W A F d y w.drew:=⟨h.1,h.2.1,EJ h.2.2.1 ⟨rfl,rfl,rfl,aD _,fun _ _ _=>rfl⟩,h.2.2.2⟩
theorem vZ.keep {W w w':World} {A G d y:Nat} (h:vZ W A G d y w) (H:G≠A) (F:w.grownBy w' (some A)):vZ W A G d y w':=
 ⟨F.cell h.1 (by grind),F.cell h.2.1 (by grind),EJ h.2.2.1 F,fB h.2.2.2 F.size⟩
theorem aQ7 (A M:Nat) (w:World) (O U:Nat->Nat) (D E:Nat->Int) (S:Nat->World->Prop)
  (hc:∀k,k<5->w.cell? ⟨M,k*2,none⟩=some (lK (.func (O k)) #[] #[])/\w.cell? ⟨M,k*2+1,none⟩=some (lK (.func (U k)) #[] #[])) (a7:M≠A) (c4:A<w.heap.size)
  (a8:∀k,k<5->Enters pG (O k)) (a9:∀k,k<5->Enters pG (U k))
  (hd:∀k,k<5->∀W,S k W->w.grownBy W (some A)->(∀j,j<k->E j=0)->Calls pG (O k) #[.pointer (some ⟨A,0,none⟩)] W fun e F=>e=.returned (.int .i64 (D k))/\W.grownBy F (some A)/\(E k=0->S (k+1) F))
  (hy:∀k,k<5->∀W,Calls pG (U k) #[.int .i64 (D k)] W fun e F=>e=.returned (.int .i64 (E k))/\F=W)
  (hS:∀k W F,S k W->Below W.heap.size W F->S k F) (h0:S 0 w):
  Calls pG 180 #[.pointer (some ⟨A,0,none⟩),.slice (some ⟨M,0,none⟩) 5 5] w (QW w A E S):=by
 have HC:=hid hc;have b4:=hid a8;have b5:=hid a9;have HD:=hid hd;have HY:=hid hy;have HS:=hid hS;clear hc a8 a9 hd hy hS;go_enter func180,ntmps180;go_wp2_with fail
 go_loopg [10,5,6,7] 5 (fun gh b6 _s5 _s6 _s7 wr=>∃k:Nat,k<=5/\gh=5-k/\b6=.int .i64 k/\S k wr/\w.grownBy wr (some A)/\Hid (∀j,j<k->E j=0))
 case atStart=>exact⟨0,by omega,rfl,rfl,h0,vY (aH _ _) _,hid (fun j hj=>by omega)⟩
 case round=>
  obtain⟨k,hk,hg,rfl,b0,H,V⟩:=hrel;have HG:=hid hg;clear hg
  by_cases G:k<5
  ·obtain⟨p1,p2⟩:=HC.out k G;have c1:=H.cell p1 (by simpa using a7);have c2:=H.cell p2 (by simpa using a7);obtain⟨d,Z⟩:∃d,d=O k:=⟨_,rfl⟩;obtain⟨y,a0⟩:∃y,y=U k:=⟨_,rfl⟩;obtain⟨xD,a3⟩:∃x,x=D k:=⟨_,rfl⟩;obtain⟨I,a1⟩:∃x,x=E k:=⟨_,rfl⟩;have c5:∀args W,(callFunc d args).run pG W=.ok (.enter d args) W:=by rw[Z];exact b4.out k G
   have c6:∀args W,(callFunc y args).run pG W=.ok (.enter y args) W:=by rw[a0];exact b5.out k G
   have b7:Hid (∀W,S k W->w.grownBy W (some A)->Calls pG d #[.pointer (some ⟨A,0,none⟩)] W fun e F=>e=.returned (.int .i64 xD)/\W.grownBy F (some A)/\(I=0->S (k+1) F)):=hid (fun W h1 h2=>by rw[Z,a3,a1];exact HD.out k G W h1 h2 V.out);have b8:Hid (∀W,Calls pG y #[.int .i64 xD] W fun e F=>e=.returned (.int .i64 I)/\F=W):=hid (fun W=>by rw[a0,a3,a1];exact HY.out k G W);rw[<-Z] at c1;rw[<-a0] at c2;have a4:=hid a1;clear Z a0 a3 a1 p1 p2
   have s1:(store ⟨wr.heap.size,0,none⟩ (lK (.func d) #[] #[])).run pG (wr.alloc (.cells #[.nilFunc,.nilFunc] 243))=.ok () (wr.alloc (.cells #[lK (.func d) #[] #[],.nilFunc] 243)):=by
    rw[run_store _ _ _ _ _ rfl];simp[aLq]
   have s2:(store ⟨wr.heap.size,1,none⟩ (lK (.func y) #[] #[])).run pG (wr.alloc (.cells #[lK (.func d) #[] #[],.nilFunc] 243))=.ok () (wr.alloc (.cells #[lK (.func d) #[] #[],lK (.func y) #[] #[]] 243)):=by
    rw[run_store _ _ _ _ _ rfl];simp[aLq]
   go_upto_region 4 with fail;have z0:vZ w A wr.heap.size d y (wr.alloc (.cells #[lK (.func d) #[] #[],lK (.func y) #[] #[]] 243)):=by
    have ha:=Arr.new wr 243 [lK (.func d) #[] #[],lK (.func y) #[] #[]];exact⟨ha.cell (i:=0) rfl,ha.cell (i:=1) rfl,EJ H (vY ((aH _ _).alloc (aD _) _) _),by simp⟩
   have z1:S k (wr.alloc (.cells #[lK (.func d) #[] #[],lK (.func y) #[] #[]] 243)).drew:=HS.out k _ _ b0 ((aH _ _).alloc (aD _) _).drew;have b9:wr.heap.size≠A:=by have:=H.size;omega
   generalize wr.alloc (.cells #[lK (.func d) #[] #[],lK (.func y) #[] #[]] 243)=wa at*
   refine rF (S:=(fun w'=>w'.cell? ⟨wr.heap.size,0,none⟩=some (lK (.func d) #[] #[])/\w'.cell? ⟨wr.heap.size,1,none⟩=some (lK (.func y) #[] #[])/\w.grownBy w' (some A)/\wr.heap.size<w'.heap.size)) (by kernel_rfl) (vZ.drew z0) (fun a2=>?_)
   iterate 5
    refine fV 0 0 (by simp only[dB,aU,aV,cV,dC]<;>rfl) (by simp only[gA,gH,gB];rfl) (by kernel_rfl) (by exact fun _ _ _ h=>h) (by first|exact gI ⟨by rfl,rfl⟩|(refine gJ ⟨by rfl,?_⟩;intro w' a5;(try dsimp only at a5);(try go_simp);try with_reducible rfl)) (by assumption) ?_
    try simp only[bJ,bK,bH,bB]
   refine dJ (i:=5) (by kernel_rfl) rfl (fun K J=>?_);go_simp;refine(b7.out _ z1 a2.2.2.1).mono ?_;rintro e w1 ⟨rfl,c0,a6⟩
   (try go_wp2_with fail)
   refine J.out _ _ (vZ.keep a2 b9 c0) (fun b1=>?_);clear J K
   try simp only[bJ,bK,bH,bB]
   refine dJ (i:=6) (by kernel_rfl) rfl (fun K J=>?_);go_simp;refine(b8.out _).mono ?_;rintro e w2 ⟨rfl,rfl⟩
   (try go_wp2_with fail)
   refine J.out _ _ b1 (fun b2=>?_);clear J K
   try simp only[bJ,bK,bH,bB]
   refine fV 0 0 (by simp only[dB,aU,aV,cV,dC]<;>rfl) (by simp only[gA,gH,gB];rfl) (by kernel_rfl) (by exact fun _ _ _ h=>h) (by first|exact gI ⟨by rfl,rfl⟩|(refine gJ ⟨by rfl,?_⟩;intro w' a5;(try dsimp only at a5);(try go_simp);try with_reducible rfl)) (by assumption) ?_
   try simp only[bJ,bK,bH,bB]
   refine nY (by kernel_rfl) ?_ _;obtain⟨_,_,b3,_⟩:=b1
   by_cases L:I=0
   ·have c3:=hid (a6 L);have t1:(I != 0)=false:=by simp[L]
    clear b2 a2 a6 z0 z1 c1 c2;go_wp2_with fail;have hg:=HG.out
    go_roundg (5-(k+1))
    case measure=>omega
    case rel=>
     refine⟨k+1,by omega,rfl,by go_num,c3.out,b3,hid (fun j hj=>?_)⟩;rcases Nat.lt_succ_iff_lt_or_eq.1 hj with q|rfl
     ·exact V.out j q
     ·rw[<-a4.out];exact L
   ·have t1:(I != 0)=true:=by simpa using L
    clear b2 a2 a6 z0 z1 c1 c2;go_wp2_with fail;go_ret;rw[a4.out];exact aQ5 b3 G (by rw[<-a4.out];exact L) V.out
  ·go_wp2_with fail;go_ret;exact aQ6 H (fun j hj=>V.out j (by omega)) (by(obtain rfl:k=5:=(by omega));exact b0)
end
section
open Go.RowKit Go.Extern.Stop Go.Stop Go.Extern
theorem aQ8 (t:Addr) (w:World):(WY (.iface 245 (.pointer (some t)))).run pG w
  =.ok (.agg #[.pointer (some ⟨2,245,none⟩),.pointer (some ⟨w.heap.size,0,none⟩),.int .u64 150]) (w.alloc (.cells #[.pointer (some t)] 245)):=by kernel_rfl
theorem aQ9 (a:Addr) (w:World):(bGe (IM "reflectlite.Value.Type" 0) (fun t _ _ _=>bGf t) #[.agg #[.pointer (some ⟨2,245,none⟩),.pointer (some a),.int .u64 150]]).run pG w
  =.ok (.iface 328 (.agg #[.pointer (some ⟨2,245,none⟩)])) w:=by kernel_rfl
theorem aRa (w:World):((aLr fun t=>(fun a:Nat=>bQ oQ (a:Int)) <$> Rtype.kind t) #[.pointer (some ⟨2,245,none⟩)]).run pG w=.ok (.int .u8 22) w:=by kernel_rfl
theorem aRb (w:World):((aLr fun t=>(fun a:Nat=>bQ oQ (a:Int)) <$> Rtype.kind t) #[.pointer (some ⟨2,237,none⟩)]).run pG w=.ok (.int .u8 2) w:=by kernel_rfl
theorem aBd (z:Sem Value) (f:TypeId->Addr->Nat->Nat->Sem Value) (v:Value):
  OI z f #[v]=(do match<-IN v with|none=>z|some (t,a,fl)=>f t a fl (fl%32)):=rfl
theorem aBe (a:Addr) (w:World):(IN (.agg #[.pointer (some ⟨2,245,none⟩),.pointer (some a),.int .u64 150])).run pG w=.ok (some (245,a,150)) w:=by kernel_rfl
theorem aRc (a p:Addr) (W:World) (d:W.cell? a=some (.pointer (some p))):
  (OI (IM "reflectlite.Value.IsNil" 0) aLs #[.agg #[.pointer (some ⟨2,245,none⟩),.pointer (some a),.int .u64 150]]).run pG W=.ok (.bool false) W:=by
 rw[aBd];simp only[vI,aBe,lW];simp[aLs,loadVar,isAgg,underlying,underlying245,d,lW]
theorem aRd (h:Value) (w:World):(Go.method 503 328 (.agg #[h]) "Kind").run pG w=.ok (326,h) w:=by kernel_rfl
theorem aRe (h:Value) (w:World):(Go.method 503 328 (.agg #[h]) "Elem").run pG w=.ok (339,.agg #[h]) w:=by kernel_rfl
theorem aRf (h:Value) (w:World):(Go.method 503 328 (.agg #[h]) "Implements").run pG w=.ok (340,.agg #[h]) w:=by kernel_rfl
theorem aRg (h:Value) (w:World):(Go.method 503 328 (.agg #[h]) "AssignableTo").run pG w=.ok (337,.agg #[h]) w:=by kernel_rfl
theorem aRh (h:Value) (w:World):(Go.method 503 284 h "Unwrap").run pG w=.ok (332,h) w:=by kernel_rfl
theorem aRi (w:World):(WZ ReflectliteType.elem #[.agg #[.pointer (some ⟨2,245,none⟩)]]).run pG w=.ok (.iface 328 (.agg #[.pointer (some ⟨2,237,none⟩)])) w:=by kernel_rfl
theorem aRj (w:World):(OJ "Implements" bGg #[.agg #[.pointer (some ⟨2,237,none⟩)],.iface 328 (.agg #[.pointer (some ⟨2,107,none⟩)])]).run pG w=.ok (.bool true) w:=by kernel_rfl
theorem aRk (v:Value) (w:World):(OL #[.iface 284 v]).run pG w=.ok (.iface 328 (.agg #[.pointer (some ⟨2,284,none⟩)])) w:=by kernel_rfl
theorem aRl (v:Value) (w:World):(OL #[.iface 237 v]).run pG w=.ok (.iface 328 (.agg #[.pointer (some ⟨2,237,none⟩)])) w:=by kernel_rfl
theorem aRm (w:World):(OJ "AssignableTo" aLt #[.agg #[.pointer (some ⟨2,284,none⟩)],.iface 328 (.agg #[.pointer (some ⟨2,237,none⟩)])]).run pG w=.ok (.bool false) w:=by kernel_rfl
theorem aRn (w:World):(OJ "AssignableTo" aLt #[.agg #[.pointer (some ⟨2,237,none⟩)],.iface 328 (.agg #[.pointer (some ⟨2,237,none⟩)])]).run pG w=.ok (.bool true) w:=by kernel_rfl
theorem aRo (x:Int) (w:World):(WY (.iface 237 (.int .i64 x))).run pG w
  =.ok (.agg #[.pointer (some ⟨2,237,none⟩),.pointer (some ⟨w.heap.size,0,none⟩),.int .u64 130]) (w.alloc (.cells #[.int .i64 x] 237)):=by kernel_rfl
theorem aRp (w:World):(Rtype.elem? 245).run pG w=.ok (some 237) w:=by kernel_rfl
theorem aRq (p:Addr) (w:World):(ReflectliteValue.mk 237 p aLu).run pG w=.ok (.agg #[.pointer (some ⟨2,237,none⟩),.pointer (some p),.int .u64 386]) w:=by kernel_rfl
theorem aRr (a p:Addr) (W:World) (d:W.cell? a=some (.pointer (some p))):
  (OI (IM "reflectlite.Value.Elem" 0) aLv #[.agg #[.pointer (some ⟨2,245,none⟩),.pointer (some a),.int .u64 150]]).run pG W
   =.ok (.agg #[.pointer (some ⟨2,237,none⟩),.pointer (some p),.int .u64 386]) W:=by
 rw[aBd];simp only[vI,aBe,lW];simp[aLv,loadVar,isAgg,underlying,underlying245,d,lW,aRp,aRq]
theorem aRs (v x:Value):aLw #[v,x]=(do
  let(some (dst,a,fl),some (src,b,_)):=(<-IN v,<-IN x)
   |unsupported (.noEntry "extern/(internal/reflectlite.Value).Set.zeroValue")
  if fl/aLu%2==0 then unsupported (.noEntry "extern/(internal/reflectlite.Value).Set.unaddressable")
  let d<-loadVar src b
  if<-bGh dst src then storeVar dst a d
  else if<-Rtype.implements dst src then
   if(<-Rtype.kind src)==20 then
    match d with
    |.nilIface=>unsupported (.noEntry "extern/reflectlite: a nil value of one interface type handed on as a value of another")
    |_=>storeVar dst a d
   else storeVar dst a (.iface src d)
  else panicString ("reflectlite.Set: value of type "++(<-Rtype.spelt src)++ " is not assignable to type "++(<-Rtype.spelt dst))
  pure (.tuple #[])):=rfl
theorem aRt (a:Addr) (w:World):(IN (.agg #[.pointer (some ⟨2,237,none⟩),.pointer (some a),.int .u64 386])).run pG w=.ok (some (237,a,386)) w:=by kernel_rfl
theorem aRu (a:Addr) (w:World):(IN (.agg #[.pointer (some ⟨2,237,none⟩),.pointer (some a),.int .u64 130])).run pG w=.ok (some (237,a,130)) w:=by kernel_rfl
theorem aRv (w:World):(bGh 237 237).run pG w=.ok true w:=by kernel_rfl
theorem aRw (d b:Addr) (x:Int) (A:Value) (W:World) (F:W.cell? b=some (.int .i64 x)) (G:W.cell? d=some A) (H:W.frozen? d=false):
  (aLw #[.agg #[.pointer (some ⟨2,237,none⟩),.pointer (some d),.int .u64 386],.agg #[.pointer (some ⟨2,237,none⟩),.pointer (some b),.int .u64 130]]).run pG W
   =.ok (.tuple #[]) (W.setCell d (.int .i64 x)):=by
 rw[aRs];simp only[vI,aRt,aRu,lW];simp[aLu,loadVar,isAgg,underlying,underlying237,F,lW,aRv,storeVar,Value.cells,storeCells,Addr.add];rw[run_store pG W d _ _ (by rfl)];simp[G,H]
end
end Go.Proofs.YtihbnmlinkbnkaaGreatDoor
