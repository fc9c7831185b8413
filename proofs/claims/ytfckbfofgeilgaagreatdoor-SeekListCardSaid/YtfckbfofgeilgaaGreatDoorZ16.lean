/-
  Texts put together (part 16): the walks and the plain laws on which the statement stands.
-/
import Derived.LaidEql
import Derived.Stop.Asserts
import Derived.RowKitTokens
import Derived.Test.YtfckbfofgeilgaaGreatDoorZ10
set_option maxRecDepth 100000
set_option maxHeartbeats 12800000
set_option linter.unusedVariables false
set_option linter.unusedSimpArgs false
open Go.Proofs.Tryz
open Go.Proofs.Tryz renaming prog->pG
open Bool renaming or_eq_false_iff->DL
open Classical renaming byContradiction->aLh
open Go renaming wpAnyH_done->nY,wp_region_held_drew->rF
open Go.Act renaming put->bJ
open Go.Extern.ReflectliteType renaming abiMethod->aLr,assignableTo->aLt,implements_->bGg,method->WZ,relation->OJ,toType->bGf,typeOf->OL
open Go.Extern.ReflectliteValue renaming elem->aLv,flagAddr->aLu,isNil->aLs,method->OI,methodAny->bGe,parts->IN,set->aLw,unpack->WY,valueError->IM
open Go.Extern.Rtype renaming directlyAssignable->bGh
open Go.IntKind renaming i64->aJ,u8->oQ,wrap_i64->aM
open Go.Result renaming andThen->lW
open Go.RowKit.Below renaming refl->aH
open Go.Sem renaming run_bind->vI
open Go.Value renaming func->lK,int->bQ
open Go.World renaming setCell_alloc_new->aLq
open List renaming getElem?_cons_succ->gH,getElem?_cons_zero->gB,getElem?_toArray->gA,setIfInBounds_toArray->bK,set_cons_succ->bB,set_cons_zero->bH
open Nat renaming add_mul_mod_self_left->bGi,add_sub_cancel->oR,le_refl->aD,lt_of_lt_of_le->fB,lt_trans->IL,mod_add_div->WO,mod_add_mod->IB,mod_eq_of_lt->jT,mod_lt->kU,zero_le->aO
open Option.some renaming inj->cC
open Or renaming inl->gJ,inr->gI
namespace Go.Proofs.YtfckbfofgeilgaaGreatDoor
section
open Go.RowKit Go.Shelf
def KG (w0:World) (g:Nat) (d:Array Value) (p:Int->Bool) (l:List Int):Prop:=
 ∀W,Below w0.heap.size w0 W->∀x∈l,Calls pG g (#[bQ .i64 x]++d) W fun e A=>e=.returned (.bool (p x))/\Below W.heap.size W A
theorem aQy (g:Nat) (J:Array Value) (p:Int->Bool) (v:Value) (l:List Int) (w:World) (L:RdI w v l) (A:Enters pG g) (M:KG w g J p l):
  Calls pG 243 #[v,.func (.func g) #[] J] w fun e w'=>e=.returned (.int .i64 (iR p l))/\Below w.heap.size w w':=by
 obtain⟨a,ca,rfl,a3,Z,O⟩:=L.open;unfold maxLen at Z;clear L;have HP:=hid M;have hE:∀args W,(callFunc g args).run pG W=.ok (.enter g args) W:=A;clear M A;go_enter func243,ntmps243;go_wp2_with fail
 go_loopg [8] l.length (fun gh s8 wr=>∃k:Nat,k<=l.length/\gh=l.length-k/\s8=.int .i64 k/\Hid (∀x∈l.take k,p x=false)/\Below w.heap.size w wr)
 case atStart=>exact⟨0,aO _,rfl,rfl,hid (fun x D=>by simp at D),aH _ _⟩
 case round=>
  obtain⟨k,hk,A,rfl,HT,F⟩:=hrel;have HG:=hid A;clear A
  by_cases G:k<l.length
  ·obtain⟨b1,o1,rfl,a0,R⟩:=O (by omega);obtain⟨x,D⟩:=eG G;have c1:=(F.cell (p:=⟨b1,o1+k,none⟩) a0).trans (R k x D);have a1:x∈l:=List.mem_of_getElem? D;have U:=hid D;have hP:=HP.out _ F x a1;clear R D O;go_wp2_with fail;refine hP.mono ?_;rintro e w1 ⟨rfl,a2⟩;have V:=F.trans (a2.mono F.size)
   by_cases I:p x=true
   ·rw[I];go_wp2_with fail;go_ret;refine⟨eI ?_,V⟩;rw[JD HT.out G (by have:=U.out;rw[List.getElem?_eq_getElem G] at this;rw[cC this];exact I)]
   ·have Y:p x=false:=by simpa using I
    rw[Y];go_wp2_with fail;have A:=HG.out
    go_roundg (l.length-(k+1))
    ·
     refine⟨k+1,by omega,rfl,by go_num,hid (fun y d=>?_),V⟩;rw[List.take_add_one,U.out] at d;rcases List.mem_append.1 d with d|d
     ·exact HT.out y d
     ·simp at d;rw[d];exact Y
    ·omega
  ·go_wp2_with fail;go_ret;exact⟨eI (by rw[sK];have:=HT.out;rwa[List.take_of_length_le (by omega)] at this),F⟩
theorem aBa (g:Nat) (d:Array Value) (p:Int->Bool) (v:Value) (l:List Int) (w:World) (A:RdI w v l) (D:Enters pG g) (F:KG w g d p l):
  Calls pG 230 #[v,.func (.func g) #[] d] w fun e w'=>e=.returned (.bool (decide (0<=iR p l)))/\Below w.heap.size w w':=by
 have G:=hid (aQy g d p v l w A D F);obtain⟨i,I⟩:=ex1 (iR p l);rw[<-I] at G ⊢;clear A D F I;go_enter func230,ntmps230;go_wp2_with fail;refine G.out.mono ?_;rintro e L ⟨rfl,J⟩;go_wp2_with fail;go_ret;exact⟨rfl,J⟩
def pM (e:Int) (x:Int):Bool:=decide (x<0)||decide (e<=x)
theorem aBb (x:Int) (F G:Nat) (a:ByteArray) (o most:Int) (v J:Value) (b:ByteArray) (w:World) (L:a.size<=140737488355328) (M:v.oneCell'=true) (R:w.cell? ⟨F,0,none⟩=some (.pointer (some ⟨G,0,none⟩))) (A:Arr w G 315 [.string a,.int .i64 o,v,.int .i64 most,J,.string b]):
  Calls pG 231 #[.int .i64 x,.pointer (some ⟨F,0,none⟩)] w fun e w'=>e=.returned (.bool (pM ((a.size:Int)+1) x))/\Below w.heap.size w w':=by
 have U:=A.cell (i:=0) rfl;have V:=A.cell (i:=1) rfl;have Y:=A.cell (i:=2) rfl
 by_cases I:x<0
 ·have D:decide (x<0)=true:=aG I;have d:pM ((a.size:Int)+1) x=true:=by unfold pM;rw[D];rfl
  rw[d];go_enter func231,ntmps231;go_wp2_with fail;go_ret;exact⟨rfl,aH _ _⟩
 ·have D:decide (x<0)=false:=aE I;have d:pM ((a.size:Int)+1) x=decide ((a.size:Int)+1<=x):=by unfold pM;rw[D];rfl
  rw[d];clear d;go_enter func231,ntmps231;go_wp2_with fail;refine(BQ a o v M _ L).mono ?_;rintro e Z ⟨rfl,O⟩;go_wp2_with fail;go_ret;exact⟨rfl,O⟩
abbrev kM (W:World) (d:Nat) (a:ByteArray) (o:Int) (v:Value) (e q:Nat) (y:Int) (w':World):Prop:=
 w'.cell? ⟨W.heap.size,0,none⟩=some (.pointer (some ⟨d,0,none⟩))/\w'.cell? ⟨d,0,none⟩=some (.string a)/\w'.cell? ⟨d,1,none⟩=some (.int .i64 o)/\w'.cell? ⟨d,2,none⟩=some v/\w'.cell? ⟨e,q,none⟩=some (.int .i64 y)/\Below W.heap.size W w'/\W.heap.size<w'.heap.size
theorem kM.keep {W w w':World} {e:Nat} {a:ByteArray} {o:Int} {v:Value} {D q:Nat} {y:Int} (h:kM W e a o v D q y w) (F:e<W.heap.size) (I:D<W.heap.size) (d:Below w.heap.size w w'):kM W e a o v D q y w':=by
 obtain⟨J,L,M,O,R,G,A⟩:=h;refine⟨?_,?_,?_,?_,?_,G.trans (d.mono G.size),fB A d.size⟩
 ·rw[d.cell (p:=⟨W.heap.size,0,none⟩) A];exact J
 ·rw[d.cell (p:=⟨e,0,none⟩) (IL F A)];exact L
 ·rw[d.cell (p:=⟨e,1,none⟩) (IL F A)];exact M
 ·rw[d.cell (p:=⟨e,2,none⟩) (IL F A)];exact O
 ·rw[d.cell (p:=⟨D,q,none⟩) (IL I A)];exact R
theorem kM.drew {W w:World} {d:Nat} {a:ByteArray} {o:Int} {v:Value} {e q:Nat} {y:Int} (h:kM W d a o v e q y w):kM W d a o v e q y w.drew:=
 ⟨h.1,h.2.1,h.2.2.1,h.2.2.2.1,h.2.2.2.2.1,h.2.2.2.2.2.1.drew,h.2.2.2.2.2.2⟩
theorem aQz (d:Nat) (a:ByteArray) (o most:Int) (v Y:Value) (l:List Int) (b:ByteArray) (w:World) (ha:a.size<=256) (M:Arr w d 315 [.string a,.int .i64 o,v,.int .i64 most,Y,.string b]) (hr:RdI w v l) (a3:¬jU l ((a.size:Int)+1)):
  Calls pG 203 #[.pointer (some ⟨d,0,none⟩)] w fun e w'=>e=.returned (.int .i64 3)/\Below w.heap.size w w':=by
 obtain⟨ad,J,rfl,a4,Z,hA⟩:=hr.open;have a5:=Z;unfold maxLen at Z;have G:=M.lt;have c2:=M.cell (i:=2) rfl
 by_cases h0:l.length=0
 ·have t1:decide ((l.length:Int)-1<0)=true:=aG (by omega);have e1:aJ.wrap ((l.length:Int)-1)= -1:=by rw[aM];omega
  go_enter func203,ntmps203;go_wp2_with fail
  go_quiet (fail)
  go_wp2_with fail;go_ret;exact⟨rfl,kY ((aH _ _).alloc (aD _) _) _⟩
 ·obtain⟨m,hm⟩:∃m,l.length=m+1:=⟨l.length-1,by omega⟩;obtain⟨A,D,rfl,L,U⟩:=hA (by omega);obtain⟨y,V⟩:=eG (show m<l.length by omega);have cy:=U m y V;have r1:aJ.wrap ((l.length:Int)-1)=(m:Int):=by rw[aM];omega
  have r2:m<=J:=by omega
  have r3:(m:Int)<=(J:Int):=by omega
  have r4:(0:Int)<=(m:Int):=by omega
  have r5:m<l.length:=by omega
  have r6:(m:Int)<(l.length:Int):=by omega
  have r7:decide ((m:Int)<0)=false:=aE (by omega);have HM:=hid hm;have HC:=hid U;have HY:=hid V;have c0:=M.cell (i:=0) rfl;have c1:=M.cell (i:=1) rfl;have z0:kM w d a o (.slice (some ⟨A,D,none⟩) l.length J) A (D+m) y (w.alloc (.cells #[.pointer (some ⟨d,0,none⟩)] 318)):=by
   have O:Below w.heap.size w (w.alloc (.cells #[.pointer (some ⟨d,0,none⟩)] 318)):=(aH _ _).alloc (aD _) _;exact⟨bX _ _ _,by rw[O.cell (p:=⟨d,0,none⟩) G];exact c0,by rw[O.cell (p:=⟨d,1,none⟩) G];exact c1,by rw[O.cell (p:=⟨d,2,none⟩) G];exact c2,by rw[O.cell (p:=⟨A,D+m,none⟩) L];exact cy,O,by simp⟩
  clear hm U V hA
  by_cases a0:y=(a.size:Int)+1
  ·subst a0;have f2:(((a.size:Int)+1) != ((a.size:Int)+1))=false:=by simp
   have a1:decide (0<=iR (pM ((a.size:Int)+1)) (l.take m))=true:=by
    refine aG ?_;rcases Int.lt_or_le (iR (pM ((a.size:Int)+1)) (l.take m)) 0 with q|q
    ·exfalso;refine a3 ⟨by omega,by rw[HM.out,oR];exact HY.out,fun x hx=>?_⟩;rw[HM.out,oR] at hx;have:=(JC (pM ((a.size:Int)+1)) (l.take m)).2.2.1 q x hx;unfold pM at this;rw[DL,decide_eq_false_iff_not,decide_eq_false_iff_not] at this;omega
    ·exact q
   have a6:=hid (KF L HC.out m (by omega) a4 a5);have a2:∀W,kM w d a o (.slice (some ⟨A,D,none⟩) l.length J) A (D+m) ((a.size:Int)+1) W->KG W 231 #[.pointer (some ⟨w.heap.size,0,none⟩)] (pM ((a.size:Int)+1)) (l.take m):=fun W hW W' a7 x _=>by
    have hk:=kM.keep hW G L a7;exact aBb x w.heap.size d a o most _ Y b W' (by omega) rfl hk.1 (M.below hk.2.2.2.2.2.1 G)
   have a8:=hid a2;have HF:=hid a1;clear a2 a1;go_enter func203,ntmps203;go_upto_region 2 with fail;generalize w.alloc (.cells #[.pointer (some ⟨d,0,none⟩)] 318)=wa at*
   refine rF (S:=(fun w'=>w'.cell? ⟨w.heap.size,0,none⟩=some (.pointer (some ⟨d,0,none⟩))/\w'.cell? ⟨d,0,none⟩=some (.string a)/\w'.cell? ⟨d,1,none⟩=some (.int .i64 o)/\w'.cell? ⟨d,2,none⟩=some (.slice (some ⟨A,D,none⟩) l.length J)/\w'.cell? ⟨A,D+m,none⟩=some (.int .i64 ((a.size:Int)+1))/\Below w.heap.size w w'/\w.heap.size<w'.heap.size)) (by kernel_rfl) (kM.drew z0) (fun a9=>?_);refine bKf [0,1,2,3,4,5,6,7,8,9,10,11,12,13,14] ?_
   iterate 15
    refine bKg (by simp only[gA,gH,gB];rfl) (by kernel_rfl) (by exact fun _ _ _ h=>h) (by first|exact gI ⟨by rfl,rfl⟩|(refine gJ ⟨by rfl,?_⟩;intro w' F;(try dsimp only at F);(try go_simp);try with_reducible rfl)) (by assumption) ?_
    try simp only[bJ,bK,bH,bB]
   refine dJ (i:=15) (by kernel_rfl) rfl (fun K I=>?_);go_simp
   go_at_call 195
   refine(BQ a o _ rfl _ (by omega)).mono ?_;rintro e w' ⟨rfl,R⟩
   (try go_wp2_with fail)
   refine I.out _ _ (kM.keep (by assumption) G L R) (fun b1=>?_);clear I K
   try simp only[bJ,bK,bH,bB]
   refine bKf [16,17,18,19,20,21,22,23,24,25,26] ?_
   iterate 11
    refine bKg (by simp only[gA,gH,gB];rfl) (by kernel_rfl) (by exact fun _ _ _ h=>h) (by first|exact gI ⟨by rfl,rfl⟩|(refine gJ ⟨by rfl,?_⟩;intro w' F;(try dsimp only at F);(try go_simp);try with_reducible rfl)) (by assumption) ?_
    try simp only[bJ,bK,bH,bB]
   refine dJ (i:=27) (by kernel_rfl) rfl (fun K I=>?_);go_simp
   go_at_call 230
   refine(aBa _ _ (pM ((a.size:Int)+1)) _ (l.take m) _ (a6.out.below (show kM w d a o _ A (D+m) _ _ by assumption).2.2.2.2.2.1) (enters_of func231 rfl rfl) (a8.out _ (by assumption))).mono ?_;rintro e w' ⟨rfl,R⟩;rw[HF.out]
   (try go_wp2_with fail)
   refine I.out _ _ (kM.keep (by assumption) G L R) (fun b2=>?_);clear I K
   try simp only[bJ,bK,bH,bB]
   refine bKf [28] ?_;refine bKg (by simp only[gA,gH,gB];rfl) (by kernel_rfl) (by exact fun _ _ _ h=>h) (by first|exact gI ⟨by rfl,rfl⟩|(refine gJ ⟨by rfl,?_⟩;intro w' F;(try dsimp only at F);(try go_simp);try with_reducible rfl)) (by assumption) ?_
   try simp only[bJ,bK,bH,bB]
   refine nY (by kernel_rfl) ?_ _;go_wp2_with fail;go_ret;exact⟨rfl,(show kM w d a o _ A (D+m) _ _ by assumption).2.2.2.2.2.1⟩
  ·have f2:(y != (a.size:Int)+1)=true:=by simp[a0]
   go_enter func203,ntmps203;go_upto_region 2 with fail;generalize w.alloc (.cells #[.pointer (some ⟨d,0,none⟩)] 318)=wa at*
   refine rF (S:=(fun w'=>w'.cell? ⟨w.heap.size,0,none⟩=some (.pointer (some ⟨d,0,none⟩))/\w'.cell? ⟨d,0,none⟩=some (.string a)/\w'.cell? ⟨d,1,none⟩=some (.int .i64 o)/\w'.cell? ⟨d,2,none⟩=some (.slice (some ⟨A,D,none⟩) l.length J)/\w'.cell? ⟨A,D+m,none⟩=some (.int .i64 y)/\Below w.heap.size w w'/\w.heap.size<w'.heap.size)) (by kernel_rfl) (kM.drew z0) (fun a9=>?_);refine bKf [0,1,2,3,4,5,6,7,8,9,10,11,12,13,14] ?_
   iterate 15
    refine bKg (by simp only[gA,gH,gB];rfl) (by kernel_rfl) (by exact fun _ _ _ h=>h) (by first|exact gI ⟨by rfl,rfl⟩|(refine gJ ⟨by rfl,?_⟩;intro w' F;(try dsimp only at F);(try go_simp);try with_reducible rfl)) (by assumption) ?_
    try simp only[bJ,bK,bH,bB]
   refine dJ (i:=15) (by kernel_rfl) rfl (fun K I=>?_);go_simp
   go_at_call 195
   refine(BQ a o _ rfl _ (by omega)).mono ?_;rintro e w' ⟨rfl,R⟩
   (try go_wp2_with fail)
   refine I.out _ _ (kM.keep (by assumption) G L R) (fun b1=>?_);clear I K
   try simp only[bJ,bK,bH,bB]
   refine bKf [16,17,18,19,20,21,22,23,24,25,26,27,28] ?_
   iterate 13
    refine bKg (by simp only[gA,gH,gB];rfl) (by kernel_rfl) (by exact fun _ _ _ h=>h) (by first|exact gI ⟨by rfl,rfl⟩|(refine gJ ⟨by rfl,?_⟩;intro w' F;(try dsimp only at F);(try go_simp);try with_reducible rfl)) (by assumption) ?_
    try simp only[bJ,bK,bH,bB]
   refine nY (by kernel_rfl) ?_ _;go_wp2_with fail;go_ret;exact⟨rfl,(show kM w d a o _ A (D+m) y _ by assumption).2.2.2.2.2.1⟩
theorem vY {w w':World} (h:Below w.heap.size w w') (row:Option Nat):w.grownBy w' row:=⟨h.os,h.tape,h.output,h.size,fun k d _=>h.block k d⟩
theorem EJ {a b c:World} {row:Option Nat} (h:a.grownBy b row) (k:b.grownBy c row):a.grownBy c row:=
 ⟨k.os.trans h.os,k.tape.trans h.tape,k.output.trans h.output,Nat.le_trans h.size k.size,fun i d e=>(k.block i (fB d h.size) e).trans (h.block i d e)⟩
theorem aQ0 (d:Nat) (a:ByteArray) (o most:Int) (v V:Value) (l:List Int) (b:ByteArray) (w:World) (ha:a.size<=256) (G:Arr w d 315 [.string a,.int .i64 o,v,.int .i64 most,V,.string b]) (hr:RdI w v l) (Y:jU l ((a.size:Int)+1)):
  Calls pG 203 #[.pointer (some ⟨d,0,none⟩)] w fun e w'=>e=.returned (.int .i64 0)/\w.grownBy w' (some d)/\∃a1,Arr w' d 315 [.string a,.int .i64 o,v,.int .i64 most,a1,.string b]/\∀W,RdI W v l->RdI W a1 (l.take (l.length-1)):=by
 obtain⟨ad,J,rfl,a2,a3,hA⟩:=hr.open;have a4:=a3;unfold maxLen at a3;have F:=G.lt;have c2:=G.cell (i:=2) rfl;obtain⟨m,Z⟩:∃m,l.length=m+1:=⟨l.length-1,by have:=Y.1;omega⟩;obtain⟨A,D,rfl,L,a0⟩:=hA (by omega);have hy:l[m]? =some ((a.size:Int)+1):=by have:=Y.2.1;rwa[Z,oR] at this
 have cy:=a0 m _ hy;have r1:aJ.wrap ((l.length:Int)-1)=(m:Int):=by rw[aM];omega
 have r2:m<=J:=by omega
 have r3:(m:Int)<=(J:Int):=by omega
 have r4:(0:Int)<=(m:Int):=by omega
 have r5:m<l.length:=by omega
 have r6:(m:Int)<(l.length:Int):=by omega
 have r7:decide ((m:Int)<0)=false:=aE (by omega);have HM:=hid Z;have HC:=hid a0;have c0:=G.cell (i:=0) rfl;have c1:=G.cell (i:=1) rfl;have z0:kM w d a o (.slice (some ⟨A,D,none⟩) l.length J) A (D+m) ((a.size:Int)+1) (w.alloc (.cells #[.pointer (some ⟨d,0,none⟩)] 318)):=by
  have M:Below w.heap.size w (w.alloc (.cells #[.pointer (some ⟨d,0,none⟩)] 318)):=(aH _ _).alloc (aD _) _;exact⟨bX _ _ _,by rw[M.cell (p:=⟨d,0,none⟩) F];exact c0,by rw[M.cell (p:=⟨d,1,none⟩) F];exact c1,by rw[M.cell (p:=⟨d,2,none⟩) F];exact c2,by rw[M.cell (p:=⟨A,D+m,none⟩) L];exact cy,M,by simp⟩
 have f2:(((a.size:Int)+1) != ((a.size:Int)+1))=false:=by simp
 have a5:decide (0<=iR (pM ((a.size:Int)+1)) (l.take m))=false:=by
  refine aE (Int.not_le.2 ((JC (pM ((a.size:Int)+1)) (l.take m)).2.2.2 fun x hx=>?_));have:=Y.2.2 x (by rw[HM.out,oR];exact hx);unfold pM;rw[DL,decide_eq_false_iff_not,decide_eq_false_iff_not];omega
 have a8:=hid (KF L HC.out m (by omega) a2 a4);have a6:∀W,kM w d a o (.slice (some ⟨A,D,none⟩) l.length J) A (D+m) ((a.size:Int)+1) W->KG W 231 #[.pointer (some ⟨w.heap.size,0,none⟩)] (pM ((a.size:Int)+1)) (l.take m):=fun W hW W' a9 x _=>by
  have hk:=kM.keep hW F L a9;exact aBb x w.heap.size d a o most _ V b W' (by omega) rfl hk.1 (G.below hk.2.2.2.2.2.1 F)
 have b2:=hid a6;have HF:=hid a5;have HY:=hid hy;clear a6 a5 Z a0 hy hA;go_enter func203,ntmps203;go_upto_region 2 with fail;generalize w.alloc (.cells #[.pointer (some ⟨d,0,none⟩)] 318)=wa at*
 refine rF (S:=(fun w'=>w'.cell? ⟨w.heap.size,0,none⟩=some (.pointer (some ⟨d,0,none⟩))/\w'.cell? ⟨d,0,none⟩=some (.string a)/\w'.cell? ⟨d,1,none⟩=some (.int .i64 o)/\w'.cell? ⟨d,2,none⟩=some (.slice (some ⟨A,D,none⟩) l.length J)/\w'.cell? ⟨A,D+m,none⟩=some (.int .i64 ((a.size:Int)+1))/\Below w.heap.size w w'/\w.heap.size<w'.heap.size)) (by kernel_rfl) (kM.drew z0) (fun b3=>?_);refine bKf [0,1,2,3,4,5,6,7,8,9,10,11,12,13,14] ?_
 iterate 15
  refine bKg (by simp only[gA,gH,gB];rfl) (by kernel_rfl) (by exact fun _ _ _ h=>h) (by first|exact gI ⟨by rfl,rfl⟩|(refine gJ ⟨by rfl,?_⟩;intro w' O;(try dsimp only at O);(try go_simp);try with_reducible rfl)) (by assumption) ?_
  try simp only[bJ,bK,bH,bB]
 refine dJ (i:=15) (by kernel_rfl) rfl (fun K R=>?_);go_simp
 go_at_call 195
 refine(BQ a o _ rfl _ (by omega)).mono ?_;rintro e w' ⟨rfl,hb⟩
 (try go_wp2_with fail)
 refine R.out _ _ (kM.keep (by assumption) F L hb) (fun b4=>?_);clear R K
 try simp only[bJ,bK,bH,bB]
 refine bKf [16,17,18,19,20,21,22,23,24,25,26] ?_
 iterate 11
  refine bKg (by simp only[gA,gH,gB];rfl) (by kernel_rfl) (by exact fun _ _ _ h=>h) (by first|exact gI ⟨by rfl,rfl⟩|(refine gJ ⟨by rfl,?_⟩;intro w' O;(try dsimp only at O);(try go_simp);try with_reducible rfl)) (by assumption) ?_
  try simp only[bJ,bK,bH,bB]
 refine dJ (i:=27) (by kernel_rfl) rfl (fun K R=>?_);go_simp
 go_at_call 230
 refine(aBa _ _ (pM ((a.size:Int)+1)) _ (l.take m) _ (a8.out.below (show kM w d a o _ A (D+m) _ _ by assumption).2.2.2.2.2.1) (enters_of func231 rfl rfl) (b2.out _ (by assumption))).mono ?_;rintro e I ⟨rfl,a7⟩;rw[HF.out]
 (try go_wp2_with fail)
 refine R.out _ _ (kM.keep (by assumption) F L a7) (fun b5=>?_);clear R K
 try simp only[bJ,bK,bH,bB]
 refine bKf [28] ?_;refine bKg (by simp only[gA,gH,gB];rfl) (by kernel_rfl) (by exact fun _ _ _ h=>h) (by first|exact gI ⟨by rfl,rfl⟩|(refine gJ ⟨by rfl,?_⟩;intro w' O;(try dsimp only at O);(try go_simp);try with_reducible rfl)) (by assumption) ?_
 try simp only[bJ,bK,bH,bB]
 refine nY (by kernel_rfl) ?_ _;clear b3 b4;obtain⟨k0,k1,k2,k3,k4,k5,k6⟩:=b5;have U:=G.below k5 F;have k7:=U.cell (i:=4) rfl;have k8:=U.free;clear a7 hb G z0;go_upto_region 4 with fail
 go_still_tail 10,(by kernel_rfl)
 change wpList _ _ _ _ _ I.drew;have b6:Arr I.drew d 315 _:=U;have c3:I.drew.cell? ⟨w.heap.size,0,none⟩=some (.pointer (some ⟨d,0,none⟩)):=k0;have c4:I.drew.cell? ⟨d,4,none⟩=some V:=k7;have c5:∀i,I.drew.frozen? ⟨d,i,none⟩=false:=k8;have b7:Below w.heap.size w I.drew:=k5.drew;generalize I.drew=w4 at*
 clear U k0 k1 k2 k3 k4 k5 k6 k7 k8;go_wp2_with fail;go_ret;exact⟨rfl,qS (vY b7 _) 4 _,_,b6.set 4 _,fun W hW=>by
  obtain⟨b1,o1,e1,b8,b9⟩:=aA7 hW (by omega);obtain⟨rfl,rfl⟩:A=b1/\D=o1:=by simpa using e1
  rw[HM.out,oR];exact KF b8 b9 m (by omega) a2 a4⟩
theorem QT (x:Int) (w:World):Calls pG 202 #[.int .i64 x] w fun e w'=>e=.returned (.int .i64 x)/\w'=w:=by
 go_enter func202,ntmps202;go_wp2_with fail;go_ret;exact⟨rfl,rfl⟩
theorem aBc (x:Int) (w:World):Calls pG 206 #[.int .i64 x] w fun e w'=>e=.returned (.int .i64 (if x=0 then 0 else 3))/\w'=w:=by
 by_cases h:x=0
 ·subst h;go_enter func206,ntmps206;go_wp2_with fail;go_ret;exact⟨rfl,rfl⟩
 ·have d:(x != 0)=true:=by simpa using h
  rw[aA h];go_enter func206,ntmps206;go_wp2_with fail;go_ret;exact⟨rfl,rfl⟩
theorem QV {w d:World} {e:Nat} (A:Below w.heap.size w d) (i:Nat) (v:Value):w.grownBy (d.setCell ⟨e,i,none⟩ v) (some e):=qS (vY A _) i v
theorem OwI.setW {w e:World} {B d:Nat} {v:Value} {l:List Int} (h:OwI e B v l) (A:d<w.heap.size) (D:w.heap.size<=B) (i:Nat) (x:Value):RdI (e.setCell ⟨d,i,none⟩ x) v l:=
 (h.setLow (p:=⟨d,i,none⟩) (fB A D) x).rd
theorem aQ1 (d:Nat) (a:ByteArray) (o most:Int) (v I:Value) (m:List Int) (b:ByteArray) (w:World) (A:Arr w d 315 [.string a,.int .i64 o,v,.int .i64 most,I,.string b]) (J:RdI w I m) (L:m.length<=1000000) (M:∀x∈m,0<=x/\x<=1000000) (O: -9223372036854775808<=most) (R:most<=1000000):
  Calls pG 204 #[.pointer (some ⟨d,0,none⟩)] w fun e w'=>e=.returned (.int .i64 (rM m most))/\w.grownBy w' (some d)/\∃U,Arr w' d 315 [.string a,.int .i64 o,v,.int .i64 most,U,.string b]/\RdI w' U (sQ m most):=by
 obtain⟨D,F,rfl,a2,a4,_⟩:=J.open;have V:=A.lt;have c3:=A.cell (i:=3) rfl;have c4:=A.cell (i:=4) rfl;have HD:∀W:World,RdI W (.slice D m.length F) m->Hid (Calls pG 232 #[.slice D m.length F,.int .i64 most] W fun e w'=>∃G,e=.returned (.tuple #[G,.int .i64 (rM m most)])/\OwI w' W.heap.size G (sQ m most)/\Below W.heap.size W w'):=fun W hW=>hid (aP4 _ m most W hW L M O R)
 have a5:RdI w.drew (.slice D m.length F) m:=J;clear L M O R;go_enter func204,ntmps204;go_upto_region 1 with fail
 go_region_with (go_at_call 232;refine((HD _ (by assumption)).out).mono ?_;rintro e Y ⟨G,rfl,Z,hb⟩;obtain⟨a3,k3,e3,_,_,_⟩:=Z.rd.open;subst e3;have a0:Below w.heap.size w Y:=(aH _ _).drew.trans hb;have a1:OwI Y w.heap.size _ _:=Z;have k:=A.below a0 V;have k4:=k.cell (i:=4) rfl;have k5:=k.free)
 all_goals go_wp2_with fail
 all_goals go_ret
 all_goals exact⟨rfl,QV a0 4 _,_,k.set 4 _,a1.setW V (aD _) 4 _⟩
theorem aQ2 (d:Nat) (a:ByteArray) (o most:Int) (v A:Value) (b:ByteArray) (w:World) (D:Arr w d 315 [.string a,.int .i64 o,v,.int .i64 most,A,.string b]) (F:RdI w A []):
  Calls pG 205 #[.pointer (some ⟨d,0,none⟩)] w fun e w'=>e=.returned (.int .i64 3)/\w'=w:=by
 obtain⟨G,I,rfl,_,_,_⟩:=F.open;have J:=D.cell (i:=4) rfl;go_enter func205,ntmps205;go_wp2_with fail;go_ret;exact⟨rfl,rfl⟩
theorem aQ3 (d:Nat) (a:ByteArray) (o most:Int) (v D:Value) (m:List Int) (b:ByteArray) (w:World) (A:Arr w d 315 [.string a,.int .i64 o,v,.int .i64 most,D,.string b]) (I:RdI w D m) (h0:0<m.length) (J:a.size<=1000) (L:m.length<=1000000) (M:a.data.toList.Nodup) (O:∀x∈m,0<=x/\x<(a.size:Int)):
  Calls pG 205 #[.pointer (some ⟨d,0,none⟩)] w fun e w'=>e=.returned (.int .i64 0)/\w.grownBy w' (some d)/\Arr w' d 315 [.string a,.int .i64 o,v,.int .i64 most,D,.string (mkS (unL a.data.toList m))]:=by
 obtain⟨F,G,rfl,_,_,_⟩:=I.open;have U:=A.lt;have c0:=A.cell (i:=0) rfl;have c4:=A.cell (i:=4) rfl;have t1:((m.length:Int)==0)=false:=by rw[cB];omega
 have t2:decide (m.length=0)=false:=aE (by omega);have V:∀W:World,RdI W (.slice F m.length G) m->Hid (Calls pG 233 #[.string a,.slice F m.length G] W fun e w'=>e=.returned (.tuple #[.string (mkS (unL a.data.toList m)),.int .i64 0])/\Below W.heap.size W w'):=fun W Y=>hid (aOl a _ m W J L M Y O)
 have a0:RdI w.drew (.slice F m.length G) m:=I;clear J L M O;go_enter func205,ntmps205;go_upto_region 3 with fail
 go_region_with (go_at_call 233;refine((V _ (by assumption)).out).mono ?_;rintro e Z ⟨rfl,hb⟩;have R:Below w.heap.size w Z:=(aH _ _).drew.trans hb;have k:=A.below R U;have k4:=k.cell (i:=5) rfl;have k5:=k.free)
 all_goals go_wp2_with fail
 all_goals go_ret
 all_goals exact⟨rfl,QV R 5 _,k.set 5 _⟩
theorem aQ4 (d:Nat) (a:ByteArray) (o most:Int) (v F:Value) (b:ByteArray) (w:World) (A:Arr w d 315 [.string a,.int .i64 o,v,.int .i64 most,F,.string b]) (D:b.size<=1000000000) (G: -9223372036854775808<=o) (I:o<=9223372036854775807):
  Calls pG 207 #[.pointer (some ⟨d,0,none⟩)] w fun e w'=>e=.returned (.int .i64 (rK b.data.toList o))/\w.grownBy w' (some d)/\Arr w' d 315 [.string a,.int .i64 o,v,.int .i64 most,F,.string (mkS (oU b.data.toList o))]:=by
 have L:=A.lt;have R:=A.cell (i:=1) rfl;have U:=A.cell (i:=5) rfl;have M:∀W:World,Hid (Calls pG 234 #[.string b,.int .i64 o] W fun e w'=>e=.returned (.tuple #[.string (mkS (oU b.data.toList o)),.int .i64 (rK b.data.toList o)])/\Below W.heap.size W w'):=fun W=>hid (aQt b o W D G I)
 clear D G I;go_enter func207,ntmps207;go_upto_region 1 with fail
 go_region_with (go_at_call 234;refine((M _).out).mono ?_;rintro e O ⟨rfl,D⟩;have J:Below w.heap.size w O:=(aH _ _).drew.trans D;have k:=A.below J L;have V:=k.cell (i:=5) rfl;have Y:=k.free)
 all_goals go_wp2_with fail
 all_goals go_ret
 all_goals exact⟨rfl,QV J 5 _,k.set 5 _⟩
def QW (w:World) (d:Nat) (E:Nat->Int) (S:Nat->World->Prop) (e:Ending) (w':World):Prop:=
 w.grownBy w' (some d)/\((∃k,k<5/\E k≠0/\(∀j,j<k->E j=0)/\e=.returned (.iface 354 (.agg #[.int .i64 (k:Int),.iface 316 (.int .i64 (E k))])))\/((∀j,j<5->E j=0)/\S 5 w'/\e=.returned .nilIface))
theorem aQ5 {w w':World} {d:Nat} {E:Nat->Int} {S:Nat->World->Prop} {k:Nat} (e:w.grownBy w' (some d)) (A:k<5) (D:E k≠0) (F:∀j,j<k->E j=0):QW w d E S (.returned (.iface 354 (.agg #[.int .i64 (k:Int),.iface 316 (.int .i64 (E k))]))) w':=by grind [QW]
theorem aQ6 {w w':World} {d:Nat} {E:Nat->Int} {S:Nat->World->Prop} (e:w.grownBy w' (some d)) (A:∀j,j<5->E j=0) (D:S 5 w'):QW w d E S (.returned .nilIface) w':=by grind [QW]
abbrev vZ (W:World) (A e d y:Nat) (w':World):Prop:=w'.cell? ⟨e,0,none⟩=some (lK (.func d) #[] #[])/\w'.cell? ⟨e,1,none⟩=some (lK (.func y) #[] #[])/\W.grownBy w' (some A)/\e<w'.heap.size
theorem vZ.drew {W w:World} {e A d y:Nat} (h:vZ W e A d y w):vZ W e A d y w.drew:=⟨h.1,h.2.1,EJ h.2.2.1 ⟨rfl,rfl,rfl,aD _,fun _ _ _=>rfl⟩,h.2.2.2⟩
theorem vZ.keep {W w w':World} {e D d y:Nat} (h:vZ W e D d y w) (F:D≠e) (A:w.grownBy w' (some e)):vZ W e D d y w':=
 ⟨A.cell h.1 (by grind),A.cell h.2.1 (by grind),EJ h.2.2.1 A,fB h.2.2.2 A.size⟩
theorem aQ7 (A O:Nat) (w:World) (R U:Nat->Nat) (D E:Nat->Int) (S:Nat->World->Prop)
  (hc:∀k,k<5->w.cell? ⟨O,k*2,none⟩=some (lK (.func (R k)) #[] #[])/\w.cell? ⟨O,k*2+1,none⟩=some (lK (.func (U k)) #[] #[])) (a6:O≠A) (c3:A<w.heap.size)
  (a7:∀k,k<5->Enters pG (R k)) (a8:∀k,k<5->Enters pG (U k))
  (hd:∀k,k<5->∀W,S k W->w.grownBy W (some A)->(∀j,j<k->E j=0)->Calls pG (R k) #[.pointer (some ⟨A,0,none⟩)] W fun e F=>e=.returned (.int .i64 (D k))/\W.grownBy F (some A)/\(E k=0->S (k+1) F))
  (hy:∀k,k<5->∀W,Calls pG (U k) #[.int .i64 (D k)] W fun e F=>e=.returned (.int .i64 (E k))/\F=W)
  (hS:∀k W F,S k W->Below W.heap.size W F->S k F) (h0:S 0 w):
  Calls pG 200 #[.pointer (some ⟨A,0,none⟩),.slice (some ⟨O,0,none⟩) 5 5] w (QW w A E S):=by
 have HC:=hid hc;have b3:=hid a7;have b4:=hid a8;have HD:=hid hd;have HY:=hid hy;have HS:=hid hS;clear hc a7 a8 hd hy hS;go_enter func200,ntmps200;go_wp2_with fail
 go_loopg [10,5,6,7] 5 (fun gh b5 _s5 _s6 _s7 wr=>∃k:Nat,k<=5/\gh=5-k/\b5=.int .i64 k/\S k wr/\w.grownBy wr (some A)/\Hid (∀j,j<k->E j=0))
 case atStart=>exact⟨0,by omega,rfl,rfl,h0,vY (aH _ _) _,hid (fun j hj=>by omega)⟩
 case round=>
  obtain⟨k,hk,hg,rfl,a9,I,V⟩:=hrel;have HG:=hid hg;clear hg
  by_cases G:k<5
  ·obtain⟨p1,p2⟩:=HC.out k G;have c1:=I.cell p1 (by simpa using a6);have c2:=I.cell p2 (by simpa using a6);obtain⟨d,Y⟩:=ex1 (R k);obtain⟨y,Z⟩:=ex1 (U k);obtain⟨xD,a2⟩:=ex1 (D k);obtain⟨J,a0⟩:=ex1 (E k);have c4:∀args W,(callFunc d args).run pG W=.ok (.enter d args) W:=by rw[Y];exact b3.out k G
   have c5:∀args W,(callFunc y args).run pG W=.ok (.enter y args) W:=by rw[Z];exact b4.out k G
   have b6:Hid (∀W,S k W->w.grownBy W (some A)->Calls pG d #[.pointer (some ⟨A,0,none⟩)] W fun e F=>e=.returned (.int .i64 xD)/\W.grownBy F (some A)/\(J=0->S (k+1) F)):=hid (fun W h1 h2=>by rw[Y,a2,a0];exact HD.out k G W h1 h2 V.out);have b7:Hid (∀W,Calls pG y #[.int .i64 xD] W fun e F=>e=.returned (.int .i64 J)/\F=W):=hid (fun W=>by rw[Z,a2,a0];exact HY.out k G W);rw[<-Y] at c1;rw[<-Z] at c2;have a3:=hid a0;clear Y Z a2 a0 p1 p2
   have s1:(store ⟨wr.heap.size,0,none⟩ (lK (.func d) #[] #[])).run pG (wr.alloc (.cells #[.nilFunc,.nilFunc] 322))=.ok () (wr.alloc (.cells #[lK (.func d) #[] #[],.nilFunc] 322)):=by
    rw[run_store _ _ _ _ _ rfl];simp[aLq]
   have s2:(store ⟨wr.heap.size,1,none⟩ (lK (.func y) #[] #[])).run pG (wr.alloc (.cells #[lK (.func d) #[] #[],.nilFunc] 322))=.ok () (wr.alloc (.cells #[lK (.func d) #[] #[],lK (.func y) #[] #[]] 322)):=by
    rw[run_store _ _ _ _ _ rfl];simp[aLq]
   go_upto_region 4 with fail;have z0:vZ w A wr.heap.size d y (wr.alloc (.cells #[lK (.func d) #[] #[],lK (.func y) #[] #[]] 322)):=by
    have ha:=Arr.new wr 322 [lK (.func d) #[] #[],lK (.func y) #[] #[]];exact⟨ha.cell (i:=0) rfl,ha.cell (i:=1) rfl,EJ I (vY ((aH _ _).alloc (aD _) _) _),by simp⟩
   have z1:S k (wr.alloc (.cells #[lK (.func d) #[] #[],lK (.func y) #[] #[]] 322)).drew:=HS.out k _ _ a9 ((aH _ _).alloc (aD _) _).drew;have b8:wr.heap.size≠A:=by have:=I.size;omega
   generalize wr.alloc (.cells #[lK (.func d) #[] #[],lK (.func y) #[] #[]] 322)=wa at*
   refine rF (S:=(fun w'=>w'.cell? ⟨wr.heap.size,0,none⟩=some (lK (.func d) #[] #[])/\w'.cell? ⟨wr.heap.size,1,none⟩=some (lK (.func y) #[] #[])/\w.grownBy w' (some A)/\wr.heap.size<w'.heap.size)) (by kernel_rfl) (vZ.drew z0) (fun a1=>?_);refine bKf [0,1,2,3,4] ?_
   iterate 5
    refine bKg (by simp only[gA,gH,gB];rfl) (by kernel_rfl) (by exact fun _ _ _ h=>h) (by first|exact gI ⟨by rfl,rfl⟩|(refine gJ ⟨by rfl,?_⟩;intro w' a4;(try dsimp only at a4);(try go_simp);try with_reducible rfl)) (by assumption) ?_
    try simp only[bJ,bK,bH,bB]
   refine dJ (i:=5) (by kernel_rfl) rfl (fun K L=>?_);go_simp;refine(b6.out _ z1 a1.2.2.1).mono ?_;rintro e w1 ⟨rfl,b9,a5⟩
   (try go_wp2_with fail)
   refine L.out _ _ (vZ.keep a1 b8 b9) (fun b0=>?_);clear L K
   try simp only[bJ,bK,bH,bB]
   refine dJ (i:=6) (by kernel_rfl) rfl (fun K L=>?_);go_simp;refine(b7.out _).mono ?_;rintro e w2 ⟨rfl,rfl⟩
   (try go_wp2_with fail)
   refine L.out _ _ b0 (fun b1=>?_);clear L K
   try simp only[bJ,bK,bH,bB]
   refine bKf [7] ?_;refine bKg (by simp only[gA,gH,gB];rfl) (by kernel_rfl) (by exact fun _ _ _ h=>h) (by first|exact gI ⟨by rfl,rfl⟩|(refine gJ ⟨by rfl,?_⟩;intro w' a4;(try dsimp only at a4);(try go_simp);try with_reducible rfl)) (by assumption) ?_
   try simp only[bJ,bK,bH,bB]
   refine nY (by kernel_rfl) ?_ _;obtain⟨_,_,b2,_⟩:=b0
   by_cases M:J=0
   ·have c0:=hid (a5 M);have t1:(J != 0)=false:=by simp[M]
    clear b1 a1 a5 z0 z1 c1 c2;go_wp2_with fail;have hg:=HG.out
    go_roundg (5-(k+1))
    ·
     refine⟨k+1,by omega,rfl,by go_num,c0.out,b2,hid (fun j hj=>?_)⟩;rcases Nat.lt_succ_iff_lt_or_eq.1 hj with q|rfl
     ·exact V.out j q
     ·rw[<-a3.out];exact M
    ·omega
   ·have t1:(J != 0)=true:=by simpa using M
    clear b1 a1 a5 z0 z1 c1 c2;go_wp2_with fail;go_ret;rw[a3.out];exact aQ5 b2 G (by rw[<-a3.out];exact M) V.out
  ·go_wp2_with fail;go_ret;exact aQ6 I (fun j hj=>V.out j (by omega)) (by(obtain rfl:k=5:=(by omega));exact a9)
end
section
open Go.RowKit Go.Extern.Stop Go.Stop Go.Extern
theorem aQ8 (t:Addr) (w:World):(WY (.iface 324 (.pointer (some t)))).run pG w
  =.ok (.agg #[.pointer (some ⟨1,324,none⟩),.pointer (some ⟨w.heap.size,0,none⟩),.int .u64 150]) (w.alloc (.cells #[.pointer (some t)] 324)):=by kernel_rfl
theorem aQ9 (a:Addr) (w:World):(bGe (IM "reflectlite.Value.Type" 0) (fun t _ _ _=>bGf t) #[.agg #[.pointer (some ⟨1,324,none⟩),.pointer (some a),.int .u64 150]]).run pG w
  =.ok (.iface 279 (.agg #[.pointer (some ⟨1,324,none⟩)])) w:=by kernel_rfl
theorem aRa (w:World):((aLr fun t=>(fun a:Nat=>bQ oQ (a:Int)) <$> Rtype.kind t) #[.pointer (some ⟨1,324,none⟩)]).run pG w=.ok (.int .u8 22) w:=by kernel_rfl
theorem aRb (w:World):((aLr fun t=>(fun a:Nat=>bQ oQ (a:Int)) <$> Rtype.kind t) #[.pointer (some ⟨1,316,none⟩)]).run pG w=.ok (.int .u8 2) w:=by kernel_rfl
theorem aBd (z:Sem Value) (f:TypeId->Addr->Nat->Nat->Sem Value) (v:Value):
  OI z f #[v]=(do match<-IN v with|none=>z|some (t,a,fl)=>f t a fl (fl%32)):=rfl
theorem aBe (a:Addr) (w:World):(IN (.agg #[.pointer (some ⟨1,324,none⟩),.pointer (some a),.int .u64 150])).run pG w=.ok (some (324,a,150)) w:=by kernel_rfl
theorem aRc (a p:Addr) (W:World) (d:W.cell? a=some (.pointer (some p))):
  (OI (IM "reflectlite.Value.IsNil" 0) aLs #[.agg #[.pointer (some ⟨1,324,none⟩),.pointer (some a),.int .u64 150]]).run pG W=.ok (.bool false) W:=by
 rw[aBd];simp only[vI,aBe,lW];simp[aLs,loadVar,isAgg,underlying,underlying324,d,lW]
theorem aRd (h:Value) (w:World):(Go.method 521 279 (.agg #[h]) "Kind").run pG w=.ok (272,h) w:=by kernel_rfl
theorem aRe (h:Value) (w:World):(Go.method 521 279 (.agg #[h]) "Elem").run pG w=.ok (283,.agg #[h]) w:=by kernel_rfl
theorem aRf (h:Value) (w:World):(Go.method 521 279 (.agg #[h]) "Implements").run pG w=.ok (284,.agg #[h]) w:=by kernel_rfl
theorem aRg (h:Value) (w:World):(Go.method 521 279 (.agg #[h]) "AssignableTo").run pG w=.ok (281,.agg #[h]) w:=by kernel_rfl
theorem aRh (h:Value) (w:World):(Go.method 521 354 h "Unwrap").run pG w=.ok (293,h) w:=by kernel_rfl
theorem aRi (w:World):(WZ ReflectliteType.elem #[.agg #[.pointer (some ⟨1,324,none⟩)]]).run pG w=.ok (.iface 279 (.agg #[.pointer (some ⟨1,316,none⟩)])) w:=by kernel_rfl
theorem aRj (w:World):(OJ "Implements" bGg #[.agg #[.pointer (some ⟨1,316,none⟩)],.iface 279 (.agg #[.pointer (some ⟨1,93,none⟩)])]).run pG w=.ok (.bool true) w:=by kernel_rfl
theorem aRk (v:Value) (w:World):(OL #[.iface 354 v]).run pG w=.ok (.iface 279 (.agg #[.pointer (some ⟨1,354,none⟩)])) w:=by kernel_rfl
theorem aRl (v:Value) (w:World):(OL #[.iface 316 v]).run pG w=.ok (.iface 279 (.agg #[.pointer (some ⟨1,316,none⟩)])) w:=by kernel_rfl
theorem aRm (w:World):(OJ "AssignableTo" aLt #[.agg #[.pointer (some ⟨1,354,none⟩)],.iface 279 (.agg #[.pointer (some ⟨1,316,none⟩)])]).run pG w=.ok (.bool false) w:=by kernel_rfl
theorem aRn (w:World):(OJ "AssignableTo" aLt #[.agg #[.pointer (some ⟨1,316,none⟩)],.iface 279 (.agg #[.pointer (some ⟨1,316,none⟩)])]).run pG w=.ok (.bool true) w:=by kernel_rfl
theorem aRo (x:Int) (w:World):(WY (.iface 316 (.int .i64 x))).run pG w
  =.ok (.agg #[.pointer (some ⟨1,316,none⟩),.pointer (some ⟨w.heap.size,0,none⟩),.int .u64 130]) (w.alloc (.cells #[.int .i64 x] 316)):=by kernel_rfl
theorem aRp (w:World):(Rtype.elem? 324).run pG w=.ok (some 316) w:=by kernel_rfl
theorem aRq (p:Addr) (w:World):(ReflectliteValue.mk 316 p aLu).run pG w=.ok (.agg #[.pointer (some ⟨1,316,none⟩),.pointer (some p),.int .u64 386]) w:=by kernel_rfl
theorem aRr (a p:Addr) (W:World) (d:W.cell? a=some (.pointer (some p))):
  (OI (IM "reflectlite.Value.Elem" 0) aLv #[.agg #[.pointer (some ⟨1,324,none⟩),.pointer (some a),.int .u64 150]]).run pG W
   =.ok (.agg #[.pointer (some ⟨1,316,none⟩),.pointer (some p),.int .u64 386]) W:=by
 rw[aBd];simp only[vI,aBe,lW];simp[aLv,loadVar,isAgg,underlying,underlying324,d,lW,aRp,aRq]
theorem aRs (v x:Value):aLw #[v,x]=(do
  let(some (dst,a,fl),some (src,b,_)):=(<-IN v,<-IN x)
   |unsupported (.noEntry "extern/(internal/reflectlite.Value).Set.zeroValue")
  if fl/aLu%2==0 then unsupported (.noEntry "extern/(internal/reflectlite.Value).Set.unaddressable")
  let d<-loadVar src b
  if<-bGh dst src then storeVar dst a d
  else if<-Rtype.implements dst src then
   if(<-Rtype.kind src)==20 then
    match d with
    |.nilIface=>unsupported (.noEntry "extern/reflectlite: a nil value of one interface type handed on as a value of another")
    |_=>storeVar dst a d
   else storeVar dst a (.iface src d)
  else panicString ("reflectlite.Set: value of type "++(<-Rtype.spelt src)++ " is not assignable to type "++(<-Rtype.spelt dst))
  pure (.tuple #[])):=rfl
theorem aRt (a:Addr) (w:World):(IN (.agg #[.pointer (some ⟨1,316,none⟩),.pointer (some a),.int .u64 386])).run pG w=.ok (some (316,a,386)) w:=by kernel_rfl
theorem aRu (a:Addr) (w:World):(IN (.agg #[.pointer (some ⟨1,316,none⟩),.pointer (some a),.int .u64 130])).run pG w=.ok (some (316,a,130)) w:=by kernel_rfl
theorem aRv (w:World):(bGh 316 316).run pG w=.ok true w:=by kernel_rfl
theorem aRw (d b:Addr) (x:Int) (e:Value) (W:World) (A:W.cell? b=some (.int .i64 x)) (D:W.cell? d=some e) (F:W.frozen? d=false):
  (aLw #[.agg #[.pointer (some ⟨1,316,none⟩),.pointer (some d),.int .u64 386],.agg #[.pointer (some ⟨1,316,none⟩),.pointer (some b),.int .u64 130]]).run pG W
   =.ok (.tuple #[]) (W.setCell d (.int .i64 x)):=by
 rw[aRs];simp only[vI,aRt,aRu,lW];simp[aLu,loadVar,isAgg,underlying,underlying316,A,lW,aRv,storeVar,Value.cells,storeCells,Addr.add];rw[run_store pG W d _ _ (by rfl)];simp[D,F]
end
section
theorem aBg {N:Nat} {lt:Nat->Nat->Prop} (J:∀x,¬lt x x) (A:∀x y z,lt x z->lt x y\/lt y z) {a b:Nat->Nat}
  (L:∀i j,i<N->j<N->a i=a j->i=j) (D:∀i,i<N->∃j,j<N/\b j=a i)
  (M:∀i j,i<j->j<N->¬lt (a j) (a i)) (O:∀i j,i<j->j<N->¬lt (b j) (b i)):∀i,i<N->¬lt (a i) (b i):=by
 intro i R h;have F:∀k,k<=i->∃j,j<i/\b j=a k:=by
  intro k d;obtain⟨j,U,e⟩:=D k (by omega);refine⟨j,?_,e⟩;have G:lt (a k) (b i):=by
   rcases A (a i) (a k) (b i) h with p|p
   ·grind
   ·exact p
  grind
 obtain⟨f,I⟩:∃f:Nat->Nat,∀k,k<=i->f k<i/\b (f k)=a k:=by
  refine⟨fun k=>if h:k<=i then Classical.choose (F k h) else 0,fun k d=>?_⟩
  grind
 obtain⟨x,y,G,V,Y⟩:=php i f (fun k d=>(I k d).1)
 grind
theorem aBh {c:Nat->Nat} {m:Nat} (x y z:Nat) (h:ltm c m x z):ltm c m x y\/ltm c m y z:=by
 rcases zA c x y m with p|p|p
 ·exact .inl p
 ·exact .inr (p.symm.ltm h)
 grind [ltm]
theorem aSa {c:Nat->Nat} {m N:Nat} {a b:Nat->Nat} (D:∀i j,i<N->j<N->a i=a j->i=j) (F:∀i j,i<N->j<N->b i=b j->i=j)
  (G:∀i,i<N->∃j,j<N/\a j=b i) (I:∀i,i<N->∃j,j<N/\b j=a i)
  (d:∀i j,i<j->j<N->¬ltm c m (a j) (a i)) (e:∀i j,i<j->j<N->¬ltm c m (b j) (b i)):∀i,i<N->eqm c m (a i) (b i):=by
 intro i A;have J:=aBg (lt:=ltm c m) (fun _=>ltm.irrefl) aBh D I d e i A;have L:=aBg (lt:=ltm c m) (fun _=>ltm.irrefl) aBh F G e d i A
 grind [zA,ltm,eqm]
theorem Ord.weak {c:Nat->Nat} {n m:Nat} {o:Nat->Int} (h:Ord c n m o) {i j:Nat} (d:i<j) (e:j<n):¬ltm c m (o j).toNat (o i).toNat:=by
 intro k;rcases h.srt i j (aO _) d e with p|⟨p,_⟩
 ·grind [ltm]
 ·exact k.not_eqm p.symm
theorem Ord.nat {c:Nat->Nat} {n m:Nat} {o:Nat->Int} (h:Ord c n m o) {i:Nat} (d:i<n):o i=(((o i).toNat:Nat):Int)/\(o i).toNat<n:=by
 have:=h.rng i d;omega
theorem Ord.inj {c:Nat->Nat} {n m:Nat} {o:Nat->Int} (h:Ord c n m o) {i j:Nat} (d:i<n) (A:j<n) (e:(o i).toNat=(o j).toNat):i=j:=by
 apply aLh;intro D;have F:=(h.nat d).1;have G:=(h.nat A).1;exact h.ne d A D (by rw[F,G,e])
theorem aSb {n k x y:Nat} (D:x<n) (F:y<n) (h:(x+k)%n=(y+k)%n):x=y:=by
 have e:∀z,z<n->((z+k)%n+(n-k%n))%n=z:=by
  intro z d;have G:=kU k (show 0<n by omega);rw[IB,<-IB];have A:z+k+(n-k%n)=z+n*(k/n+1):=by
   have:=WO k n
   grind
  rw[IB,A,bGi,jT d]
 grind
theorem aSc {n k y:Nat} (d:y<n):∃x,x<n/\(x+k)%n=y:=by
 refine⟨(y+(n-k%n))%n,kU _ (by omega),?_⟩;have A:=kU k (show 0<n by omega);have e:y+(n-k%n)+k=y+n*(k/n+1):=by
  have:=WO k n
  grind
 rw[IB,e,bGi,jT d]
theorem aSd (s:ByteArray) (o:Nat->Int) (n:Nat) {i:Nat} (d:i<n):∃b,(eM s o n)[i]? =some b/\b.toNat=cQ s ((o i).toNat+(s.size-1)):=by
 refine⟨s.data.toList.getD (((o i).toNat+(s.size-1))%s.size) 0,?_,rfl⟩
 grind [eM,cQ]
theorem aSe {x y:List UInt8} (d:x.length=y.length) (h:∀i,i<x.length->∃a b,x[i]? =some a/\y[i]? =some b/\a.toNat=b.toNat):x=y:=by
 apply List.ext_getElem?
 grind [UInt8.toNat_inj,List.getElem?_eq_none]
end
end Go.Proofs.YtfckbfofgeilgaaGreatDoor
