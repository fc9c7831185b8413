/- The walks and the plain laws, part 11. -/
import Derived.LaidEql
import Derived.Stop.Asserts
import Derived.RowKitTokens
import Derived.Test.YtiifmcicleljjaaGreatDoorT9
set_option maxRecDepth 100000
set_option maxHeartbeats 12800000
set_option linter.unusedVariables false
open Bool renaming or_eq_false_iff->aCk
open Go renaming run_callFunc_extern->qB,wpAnyH_done->pY,wpAnyH_ready->fL,wpAnyH_take->aQ,wp_region_held_drew->vI
open Go.Act renaming put->aJ
open Go.AllReadyH renaming cons->fA,nil->fM
open Go.Extern.ReflectliteType renaming abiMethod->aCv,assignableTo->aCy,implements_->aTm,method->aTl,relation->GV,toType->aTk,typeOf->aCx
open Go.Extern.ReflectliteValue renaming elem->aC0,flagAddr->aCz,isNil->aCw,method->GU,methodAny->aTj,parts->AZ,set->aC1,unpack->OK,valueError->AY
open Go.Extern.Rtype renaming directlyAssignable->aTn
open Go.Instr renaming typeAssert->BA
open Go.IntKind renaming i64->aI,u8->pX,wrap_i64->aM
open Go.Proofs renaming enters_of->fN
open Go.Result renaming andThen->jB
open Go.RowKit.Below renaming refl->aB
open Go.Sem renaming run_bind->vL
open Go.Value renaming func->iR,int->bO
open Go.World renaming block_lt_of_cell?->iO,cell?_alloc_lt->OL,setCell_alloc_new->aCu
open List renaming getElem?_cons_succ->aS,getElem?_cons_zero->aP,getElem?_toArray->aR,length_pos_iff->kV,setIfInBounds_toArray->aK,set_cons_succ->aG,set_cons_zero->aH
open Nat renaming add_sub_cancel->jZ,le_refl->aA,lt_of_lt_of_le->dR,lt_trans->AX
open Option.some renaming inj->bW
open Or renaming inl->aT
namespace Go.Proofs.YtiifmcicleljjaaGreatDoor
section
open Go.RowKit
theorem XF {W w w':World} {d:Nat} {x:Value} (h:w.cell? ⟨d,0,none⟩=some x/\Below W.heap.size W w) (A:d<W.heap.size) (z:Below w.heap.size w w'):w'.cell? ⟨d,0,none⟩=some x/\Below W.heap.size W w':=
 ⟨by rw[z.cell (p:=⟨d,0,none⟩) (dR A h.2.size)];exact h.1,h.2.trans (z.mono h.2.size)⟩
theorem XG {w:World} {d:Nat} {x:Value} (h:w.cell? ⟨d,0,none⟩=some x):w.drew.cell? ⟨d,0,none⟩=some x/\Below w.heap.size w w.drew:=⟨h,(aB _ _).drew⟩
theorem aMi (d:Nat) (a:ByteArray) (o most:Int) (v O:Value) (b:ByteArray) (w:World) (I:a.size<=140737488355328) (J:Arr w d 213 [.string a,.int .i64 o,v,.int .i64 most,O,.string b]):
  Calls Tryz.prog 167 #[.pointer (some ⟨d,0,none⟩)] w fun e w'=>e=.returned (.int .i64 (if a.data.toList≠[]/\bK a.data.toList=a.data.toList then 0 else 1))/\Below w.heap.size w w':=by
 have L:=J.cell (i:=0) rfl;have M:=J.lt
 by_cases E:a.data.toList=[]
 ·have t1:=vA E;rw[if_neg (fun h=>h.1 E)];go_enter Tryz.func167,Tryz.ntmps167;go_wp2_with fail
  go_quiet (fail)
  go_wp2_with fail;go_ret;exact⟨rfl,iI (aB _ _) _⟩
 have t1:=LR E
 by_cases z:bK a.data.toList=a.data.toList
 ·rw[if_pos ⟨E,z⟩];have T:(a.toList==a.toList)=true:=by simp
  have U:=hid z;clear z;go_enter Tryz.func167,Tryz.ntmps167;go_upto_region 1 with fail
  go_cut [22] (fun F G=>F=.bool false/\Below w.heap.size w G)
  case first=>
   go_region_held3 (fun w'=>w'.cell? ⟨d,0,none⟩=some (.string a)/\Below w.heap.size w w')
    (first
     |with_reducible assumption
     |with_reducible exact XG L
     |with_reducible exact XF (by assumption) M (by assumption))
    (first
     |(go_at_call 66;refine(KY a _ I).mono ?_;rintro e A ⟨rfl,V⟩;rw[U.out,pL]))
   all_goals go_wp2_with fail
   all_goals go_meet
   all_goals exact⟨rfl,And.right (show A.cell? ⟨d,0,none⟩=some (.string a)/\Below w.heap.size w A by assumption)⟩
  case rest=>
   obtain⟨rfl,H⟩:=hcut;go_wp2_with fail;go_ret;exact⟨rfl,H⟩
 ·rw[if_neg (fun h=>z h.2)];have T:((mkS (bK a.data.toList)).toList==a.toList)=false:=WW (fun e=>z (by have:=congrArg (fun s=>s.data.toList) e;simpa using this));go_enter Tryz.func167,Tryz.ntmps167;go_upto_region 1 with fail
  go_cut [22] (fun F G=>F=.bool true/\Below w.heap.size w G)
  case first=>
   go_region_held3 (fun w'=>w'.cell? ⟨d,0,none⟩=some (.string a)/\Below w.heap.size w w')
    (first
     |with_reducible assumption
     |with_reducible exact XG L
     |with_reducible exact XF (by assumption) M (by assumption))
    (first
     |(go_at_call 66;refine(KY a _ I).mono ?_;rintro e A ⟨rfl,V⟩))
   all_goals go_wp2_with fail
   all_goals go_meet
   all_goals exact⟨rfl,And.right (show A.cell? ⟨d,0,none⟩=some (.string a)/\Below w.heap.size w A by assumption)⟩
  case rest=>
   obtain⟨rfl,H⟩:=hcut;go_wp2_with fail;go_ret;exact⟨rfl,H⟩
end
section
open Go.RowKit Go.Shelf
def EC (w0:World) (g:Nat) (d:Array Value) (p:Int->Bool) (l:List Int):Prop:=
 ∀W,Below w0.heap.size w0 W->∀x∈l,Calls Tryz.prog g (#[bO .i64 x]++d) W fun e z=>e=.returned (.bool (p x))/\Below W.heap.size W z
theorem aMj (g:Nat) (H:Array Value) (p:Int->Bool) (v:Value) (l:List Int) (w:World) (I:RdI w v l) (z:Enters Tryz.prog g) (J:EC w g H p l):
  Calls Tryz.prog 149 #[v,.func (.func g) #[] H] w fun e w'=>e=.returned (.int .i64 (fP p l))/\Below w.heap.size w w':=by
 obtain⟨a,ca,rfl,a3,V,L⟩:=I.open;unfold maxLen at V;clear I;have Y:=hid J;have hE:∀args W,(callFunc g args).run Tryz.prog W=.ok (.enter g args) W:=z;clear J z;go_enter Tryz.func149,Tryz.ntmps149;go_wp2_with fail
 go_loopg [8] l.length (fun Z s8 wr=>∃k:Nat,k<=l.length/\Z=l.length-k/\s8=.int .i64 k/\Hid (∀x∈l.take k,p x=false)/\Below w.heap.size w wr)
 case atStart=>exact⟨0,Nat.zero_le _,rfl,rfl,hid (fun x A=>by simp at A),aB _ _⟩
 case round=>
  obtain⟨k,hk,z,rfl,HT,E⟩:=hrel;have HG:=hid z;clear z
  by_cases F:k<l.length
  ·obtain⟨b1,o1,rfl,a0,M⟩:=L (by omega);obtain⟨x,A⟩:=dH F;have c1:=(E.cell (p:=⟨b1,o1+k,none⟩) a0).trans (M k x A);have a1:x∈l:=List.mem_of_getElem? A;have O:=hid A;have hP:=Y.out _ E x a1;clear M A L;go_wp2_with fail;refine hP.mono ?_;rintro e w1 ⟨rfl,a2⟩;have T:=E.trans (a2.mono E.size)
   by_cases G:p x=true
   ·rw[G];go_wp2_with fail;go_ret;refine⟨fX ?_,T⟩;rw[BR HT.out F (by have:=O.out;rw[List.getElem?_eq_getElem F] at this;rw[bW this];exact G)]
   ·have U:p x=false:=by simpa using G
    rw[U];go_wp2_with fail;have z:=HG.out
    go_roundg (l.length-(k+1))
    case measure=>omega
    case rel=>
     refine⟨k+1,by omega,rfl,by go_num,hid (fun y d=>?_),T⟩;rw[List.take_add_one,O.out] at d;rcases List.mem_append.1 d with d|d
     ·exact HT.out y d
     ·simp at d;rw[d];exact U
  ·go_wp2_with fail;go_ret;exact⟨fX (by rw[oN];have:=HT.out;rwa[List.take_of_length_le (by omega)] at this),E⟩
theorem XH (g:Nat) (d:Array Value) (p:Int->Bool) (v:Value) (l:List Int) (w:World) (z:RdI w v l) (A:Enters Tryz.prog g) (E:EC w g d p l):
  Calls Tryz.prog 85 #[v,.func (.func g) #[] d] w fun e w'=>e=.returned (.bool (decide (0<=fP p l)))/\Below w.heap.size w w':=by
 have F:=hid (aMj g d p v l w z A E);obtain⟨i,hi⟩:∃i,i=fP p l:=⟨_,rfl⟩;rw[<-hi] at F ⊢;clear z A E hi;go_enter Tryz.func85,Tryz.ntmps85;go_wp2_with fail;refine F.out.mono ?_;rintro e H ⟨rfl,G⟩;go_wp2_with fail;go_ret;exact⟨rfl,G⟩
def lV (e:Int) (x:Int):Bool:=decide (x<0)||decide (e<=x)
theorem XI (x:Int) (bx A:Nat) (a:ByteArray) (o most:Int) (v F:Value) (b:ByteArray) (w:World) (G:a.size<=140737488355328) (H:v.oneCell'=true) (J:w.cell? ⟨bx,0,none⟩=some (.pointer (some ⟨A,0,none⟩))) (z:Arr w A 213 [.string a,.int .i64 o,v,.int .i64 most,F,.string b]):
  Calls Tryz.prog 206 #[.int .i64 x,.pointer (some ⟨bx,0,none⟩)] w fun e w'=>e=.returned (.bool (lV ((a.size:Int)+1) x))/\Below w.heap.size w w':=by
 have L:=z.cell (i:=0) rfl;have M:=z.cell (i:=1) rfl;have O:=z.cell (i:=2) rfl
 by_cases E:x<0
 ·have t1:decide (x<0)=true:=decide_eq_true E;have d:lV ((a.size:Int)+1) x=true:=by unfold lV;rw[t1];rfl
  rw[d];go_enter Tryz.func206,Tryz.ntmps206;go_wp2_with fail;go_ret;exact⟨rfl,aB _ _⟩
 ·have t1:decide (x<0)=false:=decide_eq_false E;have d:lV ((a.size:Int)+1) x=decide ((a.size:Int)+1<=x):=by unfold lV;rw[t1];rfl
  rw[d];clear d;go_enter Tryz.func206,Tryz.ntmps206;go_wp2_with fail;refine(wP a o v H _ G).mono ?_;rintro e T ⟨rfl,I⟩;go_wp2_with fail;go_ret;exact⟨rfl,I⟩
abbrev iE (W:World) (d:Nat) (a:ByteArray) (o:Int) (v:Value) (z q:Nat) (y:Int) (w':World):Prop:=
 w'.cell? ⟨W.heap.size,0,none⟩=some (.pointer (some ⟨d,0,none⟩))/\w'.cell? ⟨d,0,none⟩=some (.string a)/\w'.cell? ⟨d,1,none⟩=some (.int .i64 o)/\w'.cell? ⟨d,2,none⟩=some v/\w'.cell? ⟨z,q,none⟩=some (.int .i64 y)/\Below W.heap.size W w'/\W.heap.size<w'.heap.size
theorem iE.keep {W w w':World} {z:Nat} {a:ByteArray} {o:Int} {v:Value} {E q:Nat} {y:Int} (h:iE W z a o v E q y w) (F:z<W.heap.size) (H:E<W.heap.size) (d:Below w.heap.size w w'):iE W z a o v E q y w':=by
 obtain⟨I,J,L,M,O,G,A⟩:=h;refine⟨?_,?_,?_,?_,?_,G.trans (d.mono G.size),dR A d.size⟩
 ·rw[d.cell (p:=⟨W.heap.size,0,none⟩) A];exact I
 ·rw[d.cell (p:=⟨z,0,none⟩) (AX F A)];exact J
 ·rw[d.cell (p:=⟨z,1,none⟩) (AX F A)];exact L
 ·rw[d.cell (p:=⟨z,2,none⟩) (AX F A)];exact M
 ·rw[d.cell (p:=⟨E,q,none⟩) (AX H A)];exact O
theorem iE.drew {W w:World} {d:Nat} {a:ByteArray} {o:Int} {v:Value} {z q:Nat} {y:Int} (h:iE W d a o v z q y w):iE W d a o v z q y w.drew:=
 ⟨h.1,h.2.1,h.2.2.1,h.2.2.2.1,h.2.2.2.2.1,h.2.2.2.2.2.1.drew,h.2.2.2.2.2.2⟩
theorem aMk (z:Nat) (a:ByteArray) (o most:Int) (v U:Value) (l:List Int) (b:ByteArray) (w:World) (ha:a.size<=256) (J:Arr w z 213 [.string a,.int .i64 o,v,.int .i64 most,U,.string b]) (hr:RdI w v l) (a3:¬gW l ((a.size:Int)+1)):
  Calls Tryz.prog 169 #[.pointer (some ⟨z,0,none⟩)] w fun e w'=>e=.returned (.int .i64 3)/\Below w.heap.size w w':=by
 obtain⟨ad,H,rfl,a4,V,Y⟩:=hr.open;have a5:=V;unfold maxLen at V;have F:=J.lt;have c2:=J.cell (i:=2) rfl
 by_cases h0:l.length=0
 ·have t1:decide ((l.length:Int)-1<0)=true:=decide_eq_true (by omega);have e1:aI.wrap ((l.length:Int)-1)= -1:=by rw[aM];omega
  go_enter Tryz.func169,Tryz.ntmps169;go_wp2_with fail
  go_quiet (fail)
  go_wp2_with fail;go_ret;exact⟨rfl,iI ((aB _ _).alloc (aA _) _) _⟩
 ·obtain⟨m,Z⟩:∃m,l.length=m+1:=⟨l.length-1,by omega⟩;obtain⟨A,E,rfl,I,O⟩:=Y (by omega);obtain⟨y,T⟩:=dH (show m<l.length by omega);have cy:=O m y T;have r1:aI.wrap ((l.length:Int)-1)=(m:Int):=by rw[aM];omega
  have r2:m<=H:=by omega
  have r3:(m:Int)<=(H:Int):=by omega
  have r4:(0:Int)<=(m:Int):=by omega
  have r5:m<l.length:=by omega
  have r6:(m:Int)<(l.length:Int):=by omega
  have r7:decide ((m:Int)<0)=false:=decide_eq_false (by omega);have HM:=hid Z;have HC:=hid O;have HY:=hid T;have c0:=J.cell (i:=0) rfl;have c1:=J.cell (i:=1) rfl;have z0:iE w z a o (.slice (some ⟨A,E,none⟩) l.length H) A (E+m) y (w.alloc (.cells #[.pointer (some ⟨z,0,none⟩)] 216)):=by
   have L:Below w.heap.size w (w.alloc (.cells #[.pointer (some ⟨z,0,none⟩)] 216)):=(aB _ _).alloc (aA _) _;exact⟨bS _ _ _,by rw[L.cell (p:=⟨z,0,none⟩) F];exact c0,by rw[L.cell (p:=⟨z,1,none⟩) F];exact c1,by rw[L.cell (p:=⟨z,2,none⟩) F];exact c2,by rw[L.cell (p:=⟨A,E+m,none⟩) I];exact cy,L,by simp⟩
  clear Z O T Y
  by_cases a0:y=(a.size:Int)+1
  ·subst a0;have f2:(((a.size:Int)+1) != ((a.size:Int)+1))=false:=by simp
   have a1:decide (0<=fP (lV ((a.size:Int)+1)) (l.take m))=true:=by
    refine decide_eq_true ?_;rcases Int.lt_or_le (fP (lV ((a.size:Int)+1)) (l.take m)) 0 with q|q
    ·exfalso;refine a3 ⟨by omega,by rw[HM.out,jZ];exact HY.out,fun x hx=>?_⟩;rw[HM.out,jZ] at hx;have:=(BQ (lV ((a.size:Int)+1)) (l.take m)).2.2.1 q x hx;unfold lV at this;rw[aCk,decide_eq_false_iff_not,decide_eq_false_iff_not] at this;omega
    ·exact q
   have a6:=hid (EB I HC.out m (by omega) a4 a5);have a2:∀W,iE w z a o (.slice (some ⟨A,E,none⟩) l.length H) A (E+m) ((a.size:Int)+1) W->EC W 206 #[.pointer (some ⟨w.heap.size,0,none⟩)] (lV ((a.size:Int)+1)) (l.take m):=fun W hW W' a7 x _=>by
    have hk:=iE.keep hW F I a7;exact XI x w.heap.size z a o most _ U b W' (by omega) rfl hk.1 (J.below hk.2.2.2.2.2.1 F)
   have a8:=hid a2;have HF:=hid a1;clear a2 a1;go_enter Tryz.func169,Tryz.ntmps169;go_upto_region 2 with fail;generalize w.alloc (.cells #[.pointer (some ⟨z,0,none⟩)] 216)=wa at*
   refine vI (S:=(fun w'=>w'.cell? ⟨w.heap.size,0,none⟩=some (.pointer (some ⟨z,0,none⟩))/\w'.cell? ⟨z,0,none⟩=some (.string a)/\w'.cell? ⟨z,1,none⟩=some (.int .i64 o)/\w'.cell? ⟨z,2,none⟩=some (.slice (some ⟨A,E,none⟩) l.length H)/\w'.cell? ⟨A,E+m,none⟩=some (.int .i64 ((a.size:Int)+1))/\Below w.heap.size w w'/\w.heap.size<w'.heap.size)) (by kernel_rfl) (iE.drew z0) (fun a9=>?_);refine aQ (i:=0) (oi:=?oi0) (v:=?v0) ?hi0 (by kernel_rfl) (by kernel_rfl) (by kernel_rfl) ?hq0 ?hy0 (by assumption) ?_
   case hi0=>(simp only[aR,aP];rfl)
   case hq0=>exact fun _ _ _ h=>h
   case hy0=>(refine aT ⟨by rfl,?_⟩;intro w' d;(try dsimp only at d);(try go_simp);try with_reducible rfl)
   try simp only[aJ,aK,aH,aG]
   refine aQ (i:=1) (oi:=?oi1) (v:=?v1) ?hi1 (by kernel_rfl) (by kernel_rfl) (by kernel_rfl) ?hq1 ?hy1 (by assumption) ?_
   case hi1=>(simp only[aR,aS,aP];rfl)
   case hq1=>exact fun _ _ _ h=>h
   case hy1=>(refine aT ⟨by rfl,?_⟩;intro w' d;(try dsimp only at d);(try go_simp);try with_reducible rfl)
   try simp only[aJ,aK,aH,aG]
   refine aQ (i:=2) (oi:=?oi2) (v:=?v2) ?hi2 (by kernel_rfl) (by kernel_rfl) (by kernel_rfl) ?hq2 ?hy2 (by assumption) ?_
   case hi2=>(simp only[aR,aS,aP];rfl)
   case hq2=>exact fun _ _ _ h=>h
   case hy2=>(refine aT ⟨by rfl,?_⟩;intro w' d;(try dsimp only at d);(try go_simp);try with_reducible rfl)
   try simp only[aJ,aK,aH,aG]
   refine aQ (i:=3) (oi:=?oi3) (v:=?v3) ?hi3 (by kernel_rfl) (by kernel_rfl) (by kernel_rfl) ?hq3 ?hy3 (by assumption) ?_
   case hi3=>(simp only[aR,aS,aP];rfl)
   case hq3=>exact fun _ _ _ h=>h
   case hy3=>(refine aT ⟨by rfl,?_⟩;intro w' d;(try dsimp only at d);(try go_simp);try with_reducible rfl)
   try simp only[aJ,aK,aH,aG]
   refine aQ (i:=4) (oi:=?oi4) (v:=?v4) ?hi4 (by kernel_rfl) (by kernel_rfl) (by kernel_rfl) ?hq4 ?hy4 (by assumption) ?_
   case hi4=>(simp only[aR,aS,aP];rfl)
   case hq4=>exact fun _ _ _ h=>h
   case hy4=>(refine aT ⟨by rfl,?_⟩;intro w' d;(try dsimp only at d);(try go_simp);try with_reducible rfl)
   try simp only[aJ,aK,aH,aG]
   refine aQ (i:=5) (oi:=?oi5) (v:=?v5) ?hi5 (by kernel_rfl) (by kernel_rfl) (by kernel_rfl) ?hq5 ?hy5 (by assumption) ?_
   case hi5=>(simp only[aR,aS,aP];rfl)
   case hq5=>exact fun _ _ _ h=>h
   case hy5=>(refine aT ⟨by rfl,?_⟩;intro w' d;(try dsimp only at d);(try go_simp);try with_reducible rfl)
   try simp only[aJ,aK,aH,aG]
   refine aQ (i:=6) (oi:=?oi6) (v:=?v6) ?hi6 (by kernel_rfl) (by kernel_rfl) (by kernel_rfl) ?hq6 ?hy6 (by assumption) ?_
   case hi6=>(simp only[aR,aS,aP];rfl)
   case hq6=>exact fun _ _ _ h=>h
   case hy6=>(refine aT ⟨by rfl,?_⟩;intro w' d;(try dsimp only at d);(try go_simp);try with_reducible rfl)
   try simp only[aJ,aK,aH,aG]
   refine aQ (i:=7) (oi:=?oi7) (v:=?v7) ?hi7 (by kernel_rfl) (by kernel_rfl) (by kernel_rfl) ?hq7 ?hy7 (by assumption) ?_
   case hi7=>(simp only[aR,aS,aP];rfl)
   case hq7=>exact fun _ _ _ h=>h
   case hy7=>(refine aT ⟨by rfl,?_⟩;intro w' d;(try dsimp only at d);(try go_simp);try with_reducible rfl)
   try simp only[aJ,aK,aH,aG]
   refine aQ (i:=8) (oi:=?oi8) (v:=?v8) ?hi8 (by kernel_rfl) (by kernel_rfl) (by kernel_rfl) ?hq8 ?hy8 (by assumption) ?_
   case hi8=>(simp only[aR,aS,aP];rfl)
   case hq8=>exact fun _ _ _ h=>h
   case hy8=>(refine aT ⟨by rfl,?_⟩;intro w' d;(try dsimp only at d);(try go_simp);try with_reducible rfl)
   try simp only[aJ,aK,aH,aG]
   refine aQ (i:=9) (oi:=?oi9) (v:=?v9) ?hi9 (by kernel_rfl) (by kernel_rfl) (by kernel_rfl) ?hq9 ?hy9 (by assumption) ?_
   case hi9=>(simp only[aR,aS,aP];rfl)
   case hq9=>exact fun _ _ _ h=>h
   case hy9=>(refine aT ⟨by rfl,?_⟩;intro w' d;(try dsimp only at d);(try go_simp);try with_reducible rfl)
   try simp only[aJ,aK,aH,aG]
   refine aQ (i:=10) (oi:=?oi10) (v:=?v10) ?hi10 (by kernel_rfl) (by kernel_rfl) (by kernel_rfl) ?hq10 ?hy10 (by assumption) ?_
   case hi10=>(simp only[aR,aS,aP];rfl)
   case hq10=>exact fun _ _ _ h=>h
   case hy10=>(refine aT ⟨by rfl,?_⟩;intro w' d;(try dsimp only at d);(try go_simp);try with_reducible rfl)
   try simp only[aJ,aK,aH,aG]
   refine aQ (i:=11) (oi:=?oi11) (v:=?v11) ?hi11 (by kernel_rfl) (by kernel_rfl) (by kernel_rfl) ?hq11 ?hy11 (by assumption) ?_
   case hi11=>(simp only[aR,aS,aP];rfl)
   case hq11=>exact fun _ _ _ h=>h
   case hy11=>(refine aT ⟨by rfl,?_⟩;intro w' d;(try dsimp only at d);(try go_simp);try with_reducible rfl)
   try simp only[aJ,aK,aH,aG]
   refine aQ (i:=12) (oi:=?oi12) (v:=?v12) ?hi12 (by kernel_rfl) (by kernel_rfl) (by kernel_rfl) ?hq12 ?hy12 (by assumption) ?_
   case hi12=>(simp only[aR,aS,aP];rfl)
   case hq12=>exact fun _ _ _ h=>h
   case hy12=>(refine aT ⟨by rfl,?_⟩;intro w' d;(try dsimp only at d);(try go_simp);try with_reducible rfl)
   try simp only[aJ,aK,aH,aG]
   refine aQ (i:=13) (oi:=?oi13) (v:=?v13) ?hi13 (by kernel_rfl) (by kernel_rfl) (by kernel_rfl) ?hq13 ?hy13 (by assumption) ?_
   case hi13=>(simp only[aR,aS,aP];rfl)
   case hq13=>exact fun _ _ _ h=>h
   case hy13=>(refine aT ⟨by rfl,?_⟩;intro w' d;(try dsimp only at d);(try go_simp);try with_reducible rfl)
   try simp only[aJ,aK,aH,aG]
   refine aQ (i:=14) (oi:=?oi14) (v:=?v14) ?hi14 (by kernel_rfl) (by kernel_rfl) (by kernel_rfl) ?hq14 ?hy14 (by assumption) ?_
   case hi14=>(simp only[aR,aS,aP];rfl)
   case hq14=>exact fun _ _ _ h=>h
   case hy14=>(refine aT ⟨by rfl,?_⟩;intro w' d;(try dsimp only at d);(try go_simp);try with_reducible rfl)
   try simp only[aJ,aK,aH,aG]
   refine fL (rs:=[15]) (by kernel_rfl) (by simp) ?_;refine fA rfl (fun K G=>?_) ?_
   rotate_left
   ·exact fM
   go_simp
   go_at_call 69
   refine(wP a o _ rfl _ (by omega)).mono ?_;rintro e w' ⟨rfl,M⟩
   (try go_wp2_with fail)
   refine G.out _ _ (iE.keep (by assumption) F I M) (fun b1=>?_);clear G K
   try simp only[aJ,aK,aH,aG]
   refine aQ (i:=16) (oi:=?oi16) (v:=?v16) ?hi16 (by kernel_rfl) (by kernel_rfl) (by kernel_rfl) ?hq16 ?hy16 (by assumption) ?_
   case hi16=>(simp only[aR,aS,aP];rfl)
   case hq16=>exact fun _ _ _ h=>h
   case hy16=>(refine aT ⟨by rfl,?_⟩;intro w' d;(try dsimp only at d);(try go_simp);try with_reducible rfl)
   try simp only[aJ,aK,aH,aG]
   refine aQ (i:=17) (oi:=?oi17) (v:=?v17) ?hi17 (by kernel_rfl) (by kernel_rfl) (by kernel_rfl) ?hq17 ?hy17 (by assumption) ?_
   case hi17=>(simp only[aR,aS,aP];rfl)
   case hq17=>exact fun _ _ _ h=>h
   case hy17=>(refine aT ⟨by rfl,?_⟩;intro w' d;(try dsimp only at d);(try go_simp);try with_reducible rfl)
   try simp only[aJ,aK,aH,aG]
   refine aQ (i:=18) (oi:=?oi18) (v:=?v18) ?hi18 (by kernel_rfl) (by kernel_rfl) (by kernel_rfl) ?hq18 ?hy18 (by assumption) ?_
   case hi18=>(simp only[aR,aS,aP];rfl)
   case hq18=>exact fun _ _ _ h=>h
   case hy18=>(refine aT ⟨by rfl,?_⟩;intro w' d;(try dsimp only at d);(try go_simp);try with_reducible rfl)
   try simp only[aJ,aK,aH,aG]
   refine aQ (i:=19) (oi:=?oi19) (v:=?v19) ?hi19 (by kernel_rfl) (by kernel_rfl) (by kernel_rfl) ?hq19 ?hy19 (by assumption) ?_
   case hi19=>(simp only[aR,aS,aP];rfl)
   case hq19=>exact fun _ _ _ h=>h
   case hy19=>(refine aT ⟨by rfl,?_⟩;intro w' d;(try dsimp only at d);(try go_simp);try with_reducible rfl)
   try simp only[aJ,aK,aH,aG]
   refine aQ (i:=20) (oi:=?oi20) (v:=?v20) ?hi20 (by kernel_rfl) (by kernel_rfl) (by kernel_rfl) ?hq20 ?hy20 (by assumption) ?_
   case hi20=>(simp only[aR,aS,aP];rfl)
   case hq20=>exact fun _ _ _ h=>h
   case hy20=>(refine aT ⟨by rfl,?_⟩;intro w' d;(try dsimp only at d);(try go_simp);try with_reducible rfl)
   try simp only[aJ,aK,aH,aG]
   refine aQ (i:=21) (oi:=?oi21) (v:=?v21) ?hi21 (by kernel_rfl) (by kernel_rfl) (by kernel_rfl) ?hq21 ?hy21 (by assumption) ?_
   case hi21=>(simp only[aR,aS,aP];rfl)
   case hq21=>exact fun _ _ _ h=>h
   case hy21=>(refine aT ⟨by rfl,?_⟩;intro w' d;(try dsimp only at d);(try go_simp);try with_reducible rfl)
   try simp only[aJ,aK,aH,aG]
   refine aQ (i:=22) (oi:=?oi22) (v:=?v22) ?hi22 (by kernel_rfl) (by kernel_rfl) (by kernel_rfl) ?hq22 ?hy22 (by assumption) ?_
   case hi22=>(simp only[aR,aS,aP];rfl)
   case hq22=>exact fun _ _ _ h=>h
   case hy22=>(refine aT ⟨by rfl,?_⟩;intro w' d;(try dsimp only at d);(try go_simp);try with_reducible rfl)
   try simp only[aJ,aK,aH,aG]
   refine aQ (i:=23) (oi:=?oi23) (v:=?v23) ?hi23 (by kernel_rfl) (by kernel_rfl) (by kernel_rfl) ?hq23 ?hy23 (by assumption) ?_
   case hi23=>(simp only[aR,aS,aP];rfl)
   case hq23=>exact fun _ _ _ h=>h
   case hy23=>(refine aT ⟨by rfl,?_⟩;intro w' d;(try dsimp only at d);(try go_simp);try with_reducible rfl)
   try simp only[aJ,aK,aH,aG]
   refine aQ (i:=24) (oi:=?oi24) (v:=?v24) ?hi24 (by kernel_rfl) (by kernel_rfl) (by kernel_rfl) ?hq24 ?hy24 (by assumption) ?_
   case hi24=>(simp only[aR,aS,aP];rfl)
   case hq24=>exact fun _ _ _ h=>h
   case hy24=>(refine aT ⟨by rfl,?_⟩;intro w' d;(try dsimp only at d);(try go_simp);try with_reducible rfl)
   try simp only[aJ,aK,aH,aG]
   refine aQ (i:=25) (oi:=?oi25) (v:=?v25) ?hi25 (by kernel_rfl) (by kernel_rfl) (by kernel_rfl) ?hq25 ?hy25 (by assumption) ?_
   case hi25=>(simp only[aR,aS,aP];rfl)
   case hq25=>exact fun _ _ _ h=>h
   case hy25=>(refine aT ⟨by rfl,?_⟩;intro w' d;(try dsimp only at d);(try go_simp);try with_reducible rfl)
   try simp only[aJ,aK,aH,aG]
   refine aQ (i:=26) (oi:=?oi26) (v:=?v26) ?hi26 (by kernel_rfl) (by kernel_rfl) (by kernel_rfl) ?hq26 ?hy26 (by assumption) ?_
   case hi26=>(simp only[aR,aS,aP];rfl)
   case hq26=>exact fun _ _ _ h=>h
   case hy26=>(refine aT ⟨by rfl,?_⟩;intro w' d;(try dsimp only at d);(try go_simp);try with_reducible rfl)
   try simp only[aJ,aK,aH,aG]
   refine fL (rs:=[27]) (by kernel_rfl) (by simp) ?_;refine fA rfl (fun K G=>?_) ?_
   rotate_left
   ·exact fM
   go_simp
   go_at_call 85
   refine(XH _ _ (lV ((a.size:Int)+1)) _ (l.take m) _ (a6.out.below (show iE w z a o _ A (E+m) _ _ by assumption).2.2.2.2.2.1) (fN Tryz.func206 rfl rfl) (a8.out _ (by assumption))).mono ?_;rintro e w' ⟨rfl,M⟩;rw[HF.out]
   (try go_wp2_with fail)
   refine G.out _ _ (iE.keep (by assumption) F I M) (fun b2=>?_);clear G K
   try simp only[aJ,aK,aH,aG]
   refine aQ (i:=28) (oi:=?oi28) (v:=?v28) ?hi28 (by kernel_rfl) (by kernel_rfl) (by kernel_rfl) ?hq28 ?hy28 (by assumption) ?_
   case hi28=>(simp only[aR,aS,aP];rfl)
   case hq28=>exact fun _ _ _ h=>h
   case hy28=>(refine aT ⟨by rfl,?_⟩;intro w' d;(try dsimp only at d);(try go_simp);try with_reducible rfl)
   try simp only[aJ,aK,aH,aG]
   refine pY (by kernel_rfl) ?_ _;go_wp2_with fail;go_ret;exact⟨rfl,(show iE w z a o _ A (E+m) _ _ by assumption).2.2.2.2.2.1⟩
  ·have f2:(y != (a.size:Int)+1)=true:=by simp[a0]
   go_enter Tryz.func169,Tryz.ntmps169;go_upto_region 2 with fail;generalize w.alloc (.cells #[.pointer (some ⟨z,0,none⟩)] 216)=wa at*
   refine vI (S:=(fun w'=>w'.cell? ⟨w.heap.size,0,none⟩=some (.pointer (some ⟨z,0,none⟩))/\w'.cell? ⟨z,0,none⟩=some (.string a)/\w'.cell? ⟨z,1,none⟩=some (.int .i64 o)/\w'.cell? ⟨z,2,none⟩=some (.slice (some ⟨A,E,none⟩) l.length H)/\w'.cell? ⟨A,E+m,none⟩=some (.int .i64 y)/\Below w.heap.size w w'/\w.heap.size<w'.heap.size)) (by kernel_rfl) (iE.drew z0) (fun a9=>?_);refine aQ (i:=0) (oi:=?oib0) (v:=?vb0) ?hib0 (by kernel_rfl) (by kernel_rfl) (by kernel_rfl) ?hqb0 ?hyb0 (by assumption) ?_
   case hib0=>(simp only[aR,aP];rfl)
   case hqb0=>exact fun _ _ _ h=>h
   case hyb0=>(refine aT ⟨by rfl,?_⟩;intro w' d;(try dsimp only at d);(try go_simp);try with_reducible rfl)
   try simp only[aJ,aK,aH,aG]
   refine aQ (i:=1) (oi:=?oib1) (v:=?vb1) ?hib1 (by kernel_rfl) (by kernel_rfl) (by kernel_rfl) ?hqb1 ?hyb1 (by assumption) ?_
   case hib1=>(simp only[aR,aS,aP];rfl)
   case hqb1=>exact fun _ _ _ h=>h
   case hyb1=>(refine aT ⟨by rfl,?_⟩;intro w' d;(try dsimp only at d);(try go_simp);try with_reducible rfl)
   try simp only[aJ,aK,aH,aG]
   refine aQ (i:=2) (oi:=?oib2) (v:=?vb2) ?hib2 (by kernel_rfl) (by kernel_rfl) (by kernel_rfl) ?hqb2 ?hyb2 (by assumption) ?_
   case hib2=>(simp only[aR,aS,aP];rfl)
   case hqb2=>exact fun _ _ _ h=>h
   case hyb2=>(refine aT ⟨by rfl,?_⟩;intro w' d;(try dsimp only at d);(try go_simp);try with_reducible rfl)
   try simp only[aJ,aK,aH,aG]
   refine aQ (i:=3) (oi:=?oib3) (v:=?vb3) ?hib3 (by kernel_rfl) (by kernel_rfl) (by kernel_rfl) ?hqb3 ?hyb3 (by assumption) ?_
   case hib3=>(simp only[aR,aS,aP];rfl)
   case hqb3=>exact fun _ _ _ h=>h
   case hyb3=>(refine aT ⟨by rfl,?_⟩;intro w' d;(try dsimp only at d);(try go_simp);try with_reducible rfl)
   try simp only[aJ,aK,aH,aG]
   refine aQ (i:=4) (oi:=?oib4) (v:=?vb4) ?hib4 (by kernel_rfl) (by kernel_rfl) (by kernel_rfl) ?hqb4 ?hyb4 (by assumption) ?_
   case hib4=>(simp only[aR,aS,aP];rfl)
   case hqb4=>exact fun _ _ _ h=>h
   case hyb4=>(refine aT ⟨by rfl,?_⟩;intro w' d;(try dsimp only at d);(try go_simp);try with_reducible rfl)
   try simp only[aJ,aK,aH,aG]
   refine aQ (i:=5) (oi:=?oib5) (v:=?vb5) ?hib5 (by kernel_rfl) (by kernel_rfl) (by kernel_rfl) ?hqb5 ?hyb5 (by assumption) ?_
   case hib5=>(simp only[aR,aS,aP];rfl)
   case hqb5=>exact fun _ _ _ h=>h
   case hyb5=>(refine aT ⟨by rfl,?_⟩;intro w' d;(try dsimp only at d);(try go_simp);try with_reducible rfl)
   try simp only[aJ,aK,aH,aG]
   refine aQ (i:=6) (oi:=?oib6) (v:=?vb6) ?hib6 (by kernel_rfl) (by kernel_rfl) (by kernel_rfl) ?hqb6 ?hyb6 (by assumption) ?_
   case hib6=>(simp only[aR,aS,aP];rfl)
   case hqb6=>exact fun _ _ _ h=>h
   case hyb6=>(refine aT ⟨by rfl,?_⟩;intro w' d;(try dsimp only at d);(try go_simp);try with_reducible rfl)
   try simp only[aJ,aK,aH,aG]
   refine aQ (i:=7) (oi:=?oib7) (v:=?vb7) ?hib7 (by kernel_rfl) (by kernel_rfl) (by kernel_rfl) ?hqb7 ?hyb7 (by assumption) ?_
   case hib7=>(simp only[aR,aS,aP];rfl)
   case hqb7=>exact fun _ _ _ h=>h
   case hyb7=>(refine aT ⟨by rfl,?_⟩;intro w' d;(try dsimp only at d);(try go_simp);try with_reducible rfl)
   try simp only[aJ,aK,aH,aG]
   refine aQ (i:=8) (oi:=?oib8) (v:=?vb8) ?hib8 (by kernel_rfl) (by kernel_rfl) (by kernel_rfl) ?hqb8 ?hyb8 (by assumption) ?_
   case hib8=>(simp only[aR,aS,aP];rfl)
   case hqb8=>exact fun _ _ _ h=>h
   case hyb8=>(refine aT ⟨by rfl,?_⟩;intro w' d;(try dsimp only at d);(try go_simp);try with_reducible rfl)
   try simp only[aJ,aK,aH,aG]
   refine aQ (i:=9) (oi:=?oib9) (v:=?vb9) ?hib9 (by kernel_rfl) (by kernel_rfl) (by kernel_rfl) ?hqb9 ?hyb9 (by assumption) ?_
   case hib9=>(simp only[aR,aS,aP];rfl)
   case hqb9=>exact fun _ _ _ h=>h
   case hyb9=>(refine aT ⟨by rfl,?_⟩;intro w' d;(try dsimp only at d);(try go_simp);try with_reducible rfl)
   try simp only[aJ,aK,aH,aG]
   refine aQ (i:=10) (oi:=?oib10) (v:=?vb10) ?hib10 (by kernel_rfl) (by kernel_rfl) (by kernel_rfl) ?hqb10 ?hyb10 (by assumption) ?_
   case hib10=>(simp only[aR,aS,aP];rfl)
   case hqb10=>exact fun _ _ _ h=>h
   case hyb10=>(refine aT ⟨by rfl,?_⟩;intro w' d;(try dsimp only at d);(try go_simp);try with_reducible rfl)
   try simp only[aJ,aK,aH,aG]
   refine aQ (i:=11) (oi:=?oib11) (v:=?vb11) ?hib11 (by kernel_rfl) (by kernel_rfl) (by kernel_rfl) ?hqb11 ?hyb11 (by assumption) ?_
   case hib11=>(simp only[aR,aS,aP];rfl)
   case hqb11=>exact fun _ _ _ h=>h
   case hyb11=>(refine aT ⟨by rfl,?_⟩;intro w' d;(try dsimp only at d);(try go_simp);try with_reducible rfl)
   try simp only[aJ,aK,aH,aG]
   refine aQ (i:=12) (oi:=?oib12) (v:=?vb12) ?hib12 (by kernel_rfl) (by kernel_rfl) (by kernel_rfl) ?hqb12 ?hyb12 (by assumption) ?_
   case hib12=>(simp only[aR,aS,aP];rfl)
   case hqb12=>exact fun _ _ _ h=>h
   case hyb12=>(refine aT ⟨by rfl,?_⟩;intro w' d;(try dsimp only at d);(try go_simp);try with_reducible rfl)
   try simp only[aJ,aK,aH,aG]
   refine aQ (i:=13) (oi:=?oib13) (v:=?vb13) ?hib13 (by kernel_rfl) (by kernel_rfl) (by kernel_rfl) ?hqb13 ?hyb13 (by assumption) ?_
   case hib13=>(simp only[aR,aS,aP];rfl)
   case hqb13=>exact fun _ _ _ h=>h
   case hyb13=>(refine aT ⟨by rfl,?_⟩;intro w' d;(try dsimp only at d);(try go_simp);try with_reducible rfl)
   try simp only[aJ,aK,aH,aG]
   refine aQ (i:=14) (oi:=?oib14) (v:=?vb14) ?hib14 (by kernel_rfl) (by kernel_rfl) (by kernel_rfl) ?hqb14 ?hyb14 (by assumption) ?_
   case hib14=>(simp only[aR,aS,aP];rfl)
   case hqb14=>exact fun _ _ _ h=>h
   case hyb14=>(refine aT ⟨by rfl,?_⟩;intro w' d;(try dsimp only at d);(try go_simp);try with_reducible rfl)
   try simp only[aJ,aK,aH,aG]
   refine fL (rs:=[15]) (by kernel_rfl) (by simp) ?_;refine fA rfl (fun K G=>?_) ?_
   rotate_left
   ·exact fM
   go_simp
   go_at_call 69
   refine(wP a o _ rfl _ (by omega)).mono ?_;rintro e w' ⟨rfl,M⟩
   (try go_wp2_with fail)
   refine G.out _ _ (iE.keep (by assumption) F I M) (fun b1=>?_);clear G K
   try simp only[aJ,aK,aH,aG]
   refine aQ (i:=16) (oi:=?oib16) (v:=?vb16) ?hib16 (by kernel_rfl) (by kernel_rfl) (by kernel_rfl) ?hqb16 ?hyb16 (by assumption) ?_
   case hib16=>(simp only[aR,aS,aP];rfl)
   case hqb16=>exact fun _ _ _ h=>h
   case hyb16=>(refine aT ⟨by rfl,?_⟩;intro w' d;(try dsimp only at d);(try go_simp);try with_reducible rfl)
   try simp only[aJ,aK,aH,aG]
   refine aQ (i:=17) (oi:=?oib17) (v:=?vb17) ?hib17 (by kernel_rfl) (by kernel_rfl) (by kernel_rfl) ?hqb17 ?hyb17 (by assumption) ?_
   case hib17=>(simp only[aR,aS,aP];rfl)
   case hqb17=>exact fun _ _ _ h=>h
   case hyb17=>(refine aT ⟨by rfl,?_⟩;intro w' d;(try dsimp only at d);(try go_simp);try with_reducible rfl)
   try simp only[aJ,aK,aH,aG]
   refine aQ (i:=18) (oi:=?oib18) (v:=?vb18) ?hib18 (by kernel_rfl) (by kernel_rfl) (by kernel_rfl) ?hqb18 ?hyb18 (by assumption) ?_
   case hib18=>(simp only[aR,aS,aP];rfl)
   case hqb18=>exact fun _ _ _ h=>h
   case hyb18=>(refine aT ⟨by rfl,?_⟩;intro w' d;(try dsimp only at d);(try go_simp);try with_reducible rfl)
   try simp only[aJ,aK,aH,aG]
   refine aQ (i:=19) (oi:=?oib19) (v:=undef) ?hib19 (by kernel_rfl) (by kernel_rfl) (by kernel_rfl) ?hqb19 ?hyb19 (by assumption) ?_
   case hib19=>(simp only[aR,aS,aP];rfl)
   case hqb19=>exact fun _ _ _ h=>h
   case hyb19=>exact Or.inr ⟨by rfl,rfl⟩
   try simp only[aJ,aK,aH,aG]
   refine aQ (i:=20) (oi:=?oib20) (v:=undef) ?hib20 (by kernel_rfl) (by kernel_rfl) (by kernel_rfl) ?hqb20 ?hyb20 (by assumption) ?_
   case hib20=>(simp only[aR,aS,aP];rfl)
   case hqb20=>exact fun _ _ _ h=>h
   case hyb20=>exact Or.inr ⟨by rfl,rfl⟩
   try simp only[aJ,aK,aH,aG]
   refine aQ (i:=21) (oi:=?oib21) (v:=undef) ?hib21 (by kernel_rfl) (by kernel_rfl) (by kernel_rfl) ?hqb21 ?hyb21 (by assumption) ?_
   case hib21=>(simp only[aR,aS,aP];rfl)
   case hqb21=>exact fun _ _ _ h=>h
   case hyb21=>exact Or.inr ⟨by rfl,rfl⟩
   try simp only[aJ,aK,aH,aG]
   refine aQ (i:=22) (oi:=?oib22) (v:=undef) ?hib22 (by kernel_rfl) (by kernel_rfl) (by kernel_rfl) ?hqb22 ?hyb22 (by assumption) ?_
   case hib22=>(simp only[aR,aS,aP];rfl)
   case hqb22=>exact fun _ _ _ h=>h
   case hyb22=>exact Or.inr ⟨by rfl,rfl⟩
   try simp only[aJ,aK,aH,aG]
   refine aQ (i:=23) (oi:=?oib23) (v:=undef) ?hib23 (by kernel_rfl) (by kernel_rfl) (by kernel_rfl) ?hqb23 ?hyb23 (by assumption) ?_
   case hib23=>(simp only[aR,aS,aP];rfl)
   case hqb23=>exact fun _ _ _ h=>h
   case hyb23=>exact Or.inr ⟨by rfl,rfl⟩
   try simp only[aJ,aK,aH,aG]
   refine aQ (i:=24) (oi:=?oib24) (v:=undef) ?hib24 (by kernel_rfl) (by kernel_rfl) (by kernel_rfl) ?hqb24 ?hyb24 (by assumption) ?_
   case hib24=>(simp only[aR,aS,aP];rfl)
   case hqb24=>exact fun _ _ _ h=>h
   case hyb24=>exact Or.inr ⟨by rfl,rfl⟩
   try simp only[aJ,aK,aH,aG]
   refine aQ (i:=25) (oi:=?oib25) (v:=undef) ?hib25 (by kernel_rfl) (by kernel_rfl) (by kernel_rfl) ?hqb25 ?hyb25 (by assumption) ?_
   case hib25=>(simp only[aR,aS,aP];rfl)
   case hqb25=>exact fun _ _ _ h=>h
   case hyb25=>exact Or.inr ⟨by rfl,rfl⟩
   try simp only[aJ,aK,aH,aG]
   refine aQ (i:=26) (oi:=?oib26) (v:=undef) ?hib26 (by kernel_rfl) (by kernel_rfl) (by kernel_rfl) ?hqb26 ?hyb26 (by assumption) ?_
   case hib26=>(simp only[aR,aS,aP];rfl)
   case hqb26=>exact fun _ _ _ h=>h
   case hyb26=>exact Or.inr ⟨by rfl,rfl⟩
   try simp only[aJ,aK,aH,aG]
   refine aQ (i:=27) (oi:=?oib27) (v:=undef) ?hib27 (by kernel_rfl) (by kernel_rfl) (by kernel_rfl) ?hqb27 ?hyb27 (by assumption) ?_
   case hib27=>(simp only[aR,aS,aP];rfl)
   case hqb27=>exact fun _ _ _ h=>h
   case hyb27=>exact Or.inr ⟨by rfl,rfl⟩
   try simp only[aJ,aK,aH,aG]
   refine aQ (i:=28) (oi:=?oib28) (v:=?vb28) ?hib28 (by kernel_rfl) (by kernel_rfl) (by kernel_rfl) ?hqb28 ?hyb28 (by assumption) ?_
   case hib28=>(simp only[aR,aS,aP];rfl)
   case hqb28=>exact fun _ _ _ h=>h
   case hyb28=>(refine aT ⟨by rfl,?_⟩;intro w' d;(try dsimp only at d);(try go_simp);try with_reducible rfl)
   try simp only[aJ,aK,aH,aG]
   refine pY (by kernel_rfl) ?_ _;go_wp2_with fail;go_ret;exact⟨rfl,(show iE w z a o _ A (E+m) y _ by assumption).2.2.2.2.2.1⟩
theorem rZ {w w':World} (h:Below w.heap.size w w') (row:Option Nat):w.grownBy w' row:=⟨h.os,h.tape,h.output,h.size,fun k d _=>h.block k d⟩
theorem zN {a b c:World} {row:Option Nat} (h:a.grownBy b row) (k:b.grownBy c row):a.grownBy c row:=
 ⟨k.os.trans h.os,k.tape.trans h.tape,k.output.trans h.output,Nat.le_trans h.size k.size,fun i hi d=>(k.block i (dR hi h.size) d).trans (h.block i hi d)⟩
theorem aMl (z:Nat) (a:ByteArray) (o most:Int) (v T:Value) (l:List Int) (b:ByteArray) (w:World) (ha:a.size<=256) (G:Arr w z 213 [.string a,.int .i64 o,v,.int .i64 most,T,.string b]) (hr:RdI w v l) (U:gW l ((a.size:Int)+1)):
  Calls Tryz.prog 169 #[.pointer (some ⟨z,0,none⟩)] w fun e w'=>e=.returned (.int .i64 0)/\w.grownBy w' (some z)/\∃a0,Arr w' z 213 [.string a,.int .i64 o,v,.int .i64 most,a0,.string b]/\∀W,RdI W v l->RdI W a0 (l.take (l.length-1)):=by
 obtain⟨ad,I,rfl,a1,a2,hA⟩:=hr.open;have a3:=a2;unfold maxLen at a2;have F:=G.lt;have c2:=G.cell (i:=2) rfl;obtain⟨m,V⟩:∃m,l.length=m+1:=⟨l.length-1,by have:=U.1;omega⟩;obtain⟨A,E,rfl,J,Y⟩:=hA (by omega);have Z:l[m]? =some ((a.size:Int)+1):=by have:=U.2.1;rwa[V,jZ] at this
 have cy:=Y m _ Z;have r1:aI.wrap ((l.length:Int)-1)=(m:Int):=by rw[aM];omega
 have r2:m<=I:=by omega
 have r3:(m:Int)<=(I:Int):=by omega
 have r4:(0:Int)<=(m:Int):=by omega
 have r5:m<l.length:=by omega
 have r6:(m:Int)<(l.length:Int):=by omega
 have r7:decide ((m:Int)<0)=false:=decide_eq_false (by omega);have HM:=hid V;have HC:=hid Y;have c0:=G.cell (i:=0) rfl;have c1:=G.cell (i:=1) rfl;have z0:iE w z a o (.slice (some ⟨A,E,none⟩) l.length I) A (E+m) ((a.size:Int)+1) (w.alloc (.cells #[.pointer (some ⟨z,0,none⟩)] 216)):=by
  have L:Below w.heap.size w (w.alloc (.cells #[.pointer (some ⟨z,0,none⟩)] 216)):=(aB _ _).alloc (aA _) _;exact⟨bS _ _ _,by rw[L.cell (p:=⟨z,0,none⟩) F];exact c0,by rw[L.cell (p:=⟨z,1,none⟩) F];exact c1,by rw[L.cell (p:=⟨z,2,none⟩) F];exact c2,by rw[L.cell (p:=⟨A,E+m,none⟩) J];exact cy,L,by simp⟩
 have f2:(((a.size:Int)+1) != ((a.size:Int)+1))=false:=by simp
 have a4:decide (0<=fP (lV ((a.size:Int)+1)) (l.take m))=false:=by
  refine decide_eq_false (Int.not_le.2 ((BQ (lV ((a.size:Int)+1)) (l.take m)).2.2.2 fun x hx=>?_));have:=U.2.2 x (by rw[HM.out,jZ];exact hx);unfold lV;rw[aCk,decide_eq_false_iff_not,decide_eq_false_iff_not];omega
 have a7:=hid (EB J HC.out m (by omega) a1 a3);have a5:∀W,iE w z a o (.slice (some ⟨A,E,none⟩) l.length I) A (E+m) ((a.size:Int)+1) W->EC W 206 #[.pointer (some ⟨w.heap.size,0,none⟩)] (lV ((a.size:Int)+1)) (l.take m):=fun W hW W' a8 x _=>by
  have hk:=iE.keep hW F J a8;exact XI x w.heap.size z a o most _ T b W' (by omega) rfl hk.1 (G.below hk.2.2.2.2.2.1 F)
 have a9:=hid a5;have HF:=hid a4;have HY:=hid Z;clear a5 a4 V Y Z hA;go_enter Tryz.func169,Tryz.ntmps169;go_upto_region 2 with fail;generalize w.alloc (.cells #[.pointer (some ⟨z,0,none⟩)] 216)=wa at*
 refine vI (S:=(fun w'=>w'.cell? ⟨w.heap.size,0,none⟩=some (.pointer (some ⟨z,0,none⟩))/\w'.cell? ⟨z,0,none⟩=some (.string a)/\w'.cell? ⟨z,1,none⟩=some (.int .i64 o)/\w'.cell? ⟨z,2,none⟩=some (.slice (some ⟨A,E,none⟩) l.length I)/\w'.cell? ⟨A,E+m,none⟩=some (.int .i64 ((a.size:Int)+1))/\Below w.heap.size w w'/\w.heap.size<w'.heap.size)) (by kernel_rfl) (iE.drew z0) (fun b2=>?_);refine aQ (i:=0) (oi:=?oi0) (v:=?v0) ?hi0 (by kernel_rfl) (by kernel_rfl) (by kernel_rfl) ?hq0 ?hy0 (by assumption) ?_
 case hi0=>(simp only[aR,aP];rfl)
 case hq0=>exact fun _ _ _ h=>h
 case hy0=>(refine aT ⟨by rfl,?_⟩;intro w' d;(try dsimp only at d);(try go_simp);try with_reducible rfl)
 try simp only[aJ,aK,aH,aG]
 refine aQ (i:=1) (oi:=?oi1) (v:=?v1) ?hi1 (by kernel_rfl) (by kernel_rfl) (by kernel_rfl) ?hq1 ?hy1 (by assumption) ?_
 case hi1=>(simp only[aR,aS,aP];rfl)
 case hq1=>exact fun _ _ _ h=>h
 case hy1=>(refine aT ⟨by rfl,?_⟩;intro w' d;(try dsimp only at d);(try go_simp);try with_reducible rfl)
 try simp only[aJ,aK,aH,aG]
 refine aQ (i:=2) (oi:=?oi2) (v:=?v2) ?hi2 (by kernel_rfl) (by kernel_rfl) (by kernel_rfl) ?hq2 ?hy2 (by assumption) ?_
 case hi2=>(simp only[aR,aS,aP];rfl)
 case hq2=>exact fun _ _ _ h=>h
 case hy2=>(refine aT ⟨by rfl,?_⟩;intro w' d;(try dsimp only at d);(try go_simp);try with_reducible rfl)
 try simp only[aJ,aK,aH,aG]
 refine aQ (i:=3) (oi:=?oi3) (v:=?v3) ?hi3 (by kernel_rfl) (by kernel_rfl) (by kernel_rfl) ?hq3 ?hy3 (by assumption) ?_
 case hi3=>(simp only[aR,aS,aP];rfl)
 case hq3=>exact fun _ _ _ h=>h
 case hy3=>(refine aT ⟨by rfl,?_⟩;intro w' d;(try dsimp only at d);(try go_simp);try with_reducible rfl)
 try simp only[aJ,aK,aH,aG]
 refine aQ (i:=4) (oi:=?oi4) (v:=?v4) ?hi4 (by kernel_rfl) (by kernel_rfl) (by kernel_rfl) ?hq4 ?hy4 (by assumption) ?_
 case hi4=>(simp only[aR,aS,aP];rfl)
 case hq4=>exact fun _ _ _ h=>h
 case hy4=>(refine aT ⟨by rfl,?_⟩;intro w' d;(try dsimp only at d);(try go_simp);try with_reducible rfl)
 try simp only[aJ,aK,aH,aG]
 refine aQ (i:=5) (oi:=?oi5) (v:=?v5) ?hi5 (by kernel_rfl) (by kernel_rfl) (by kernel_rfl) ?hq5 ?hy5 (by assumption) ?_
 case hi5=>(simp only[aR,aS,aP];rfl)
 case hq5=>exact fun _ _ _ h=>h
 case hy5=>(refine aT ⟨by rfl,?_⟩;intro w' d;(try dsimp only at d);(try go_simp);try with_reducible rfl)
 try simp only[aJ,aK,aH,aG]
 refine aQ (i:=6) (oi:=?oi6) (v:=?v6) ?hi6 (by kernel_rfl) (by kernel_rfl) (by kernel_rfl) ?hq6 ?hy6 (by assumption) ?_
 case hi6=>(simp only[aR,aS,aP];rfl)
 case hq6=>exact fun _ _ _ h=>h
 case hy6=>(refine aT ⟨by rfl,?_⟩;intro w' d;(try dsimp only at d);(try go_simp);try with_reducible rfl)
 try simp only[aJ,aK,aH,aG]
 refine aQ (i:=7) (oi:=?oi7) (v:=?v7) ?hi7 (by kernel_rfl) (by kernel_rfl) (by kernel_rfl) ?hq7 ?hy7 (by assumption) ?_
 case hi7=>(simp only[aR,aS,aP];rfl)
 case hq7=>exact fun _ _ _ h=>h
 case hy7=>(refine aT ⟨by rfl,?_⟩;intro w' d;(try dsimp only at d);(try go_simp);try with_reducible rfl)
 try simp only[aJ,aK,aH,aG]
 refine aQ (i:=8) (oi:=?oi8) (v:=?v8) ?hi8 (by kernel_rfl) (by kernel_rfl) (by kernel_rfl) ?hq8 ?hy8 (by assumption) ?_
 case hi8=>(simp only[aR,aS,aP];rfl)
 case hq8=>exact fun _ _ _ h=>h
 case hy8=>(refine aT ⟨by rfl,?_⟩;intro w' d;(try dsimp only at d);(try go_simp);try with_reducible rfl)
 try simp only[aJ,aK,aH,aG]
 refine aQ (i:=9) (oi:=?oi9) (v:=?v9) ?hi9 (by kernel_rfl) (by kernel_rfl) (by kernel_rfl) ?hq9 ?hy9 (by assumption) ?_
 case hi9=>(simp only[aR,aS,aP];rfl)
 case hq9=>exact fun _ _ _ h=>h
 case hy9=>(refine aT ⟨by rfl,?_⟩;intro w' d;(try dsimp only at d);(try go_simp);try with_reducible rfl)
 try simp only[aJ,aK,aH,aG]
 refine aQ (i:=10) (oi:=?oi10) (v:=?v10) ?hi10 (by kernel_rfl) (by kernel_rfl) (by kernel_rfl) ?hq10 ?hy10 (by assumption) ?_
 case hi10=>(simp only[aR,aS,aP];rfl)
 case hq10=>exact fun _ _ _ h=>h
 case hy10=>(refine aT ⟨by rfl,?_⟩;intro w' d;(try dsimp only at d);(try go_simp);try with_reducible rfl)
 try simp only[aJ,aK,aH,aG]
 refine aQ (i:=11) (oi:=?oi11) (v:=?v11) ?hi11 (by kernel_rfl) (by kernel_rfl) (by kernel_rfl) ?hq11 ?hy11 (by assumption) ?_
 case hi11=>(simp only[aR,aS,aP];rfl)
 case hq11=>exact fun _ _ _ h=>h
 case hy11=>(refine aT ⟨by rfl,?_⟩;intro w' d;(try dsimp only at d);(try go_simp);try with_reducible rfl)
 try simp only[aJ,aK,aH,aG]
 refine aQ (i:=12) (oi:=?oi12) (v:=?v12) ?hi12 (by kernel_rfl) (by kernel_rfl) (by kernel_rfl) ?hq12 ?hy12 (by assumption) ?_
 case hi12=>(simp only[aR,aS,aP];rfl)
 case hq12=>exact fun _ _ _ h=>h
 case hy12=>(refine aT ⟨by rfl,?_⟩;intro w' d;(try dsimp only at d);(try go_simp);try with_reducible rfl)
 try simp only[aJ,aK,aH,aG]
 refine aQ (i:=13) (oi:=?oi13) (v:=?v13) ?hi13 (by kernel_rfl) (by kernel_rfl) (by kernel_rfl) ?hq13 ?hy13 (by assumption) ?_
 case hi13=>(simp only[aR,aS,aP];rfl)
 case hq13=>exact fun _ _ _ h=>h
 case hy13=>(refine aT ⟨by rfl,?_⟩;intro w' d;(try dsimp only at d);(try go_simp);try with_reducible rfl)
 try simp only[aJ,aK,aH,aG]
 refine aQ (i:=14) (oi:=?oi14) (v:=?v14) ?hi14 (by kernel_rfl) (by kernel_rfl) (by kernel_rfl) ?hq14 ?hy14 (by assumption) ?_
 case hi14=>(simp only[aR,aS,aP];rfl)
 case hq14=>exact fun _ _ _ h=>h
 case hy14=>(refine aT ⟨by rfl,?_⟩;intro w' d;(try dsimp only at d);(try go_simp);try with_reducible rfl)
 try simp only[aJ,aK,aH,aG]
 refine fL (rs:=[15]) (by kernel_rfl) (by simp) ?_;refine fA rfl (fun K M=>?_) ?_
 rotate_left
 ·exact fM
 go_simp
 go_at_call 69
 refine(wP a o _ rfl _ (by omega)).mono ?_;rintro e w' ⟨rfl,hb⟩
 (try go_wp2_with fail)
 refine M.out _ _ (iE.keep (by assumption) F J hb) (fun b3=>?_);clear M K
 try simp only[aJ,aK,aH,aG]
 refine aQ (i:=16) (oi:=?oi16) (v:=?v16) ?hi16 (by kernel_rfl) (by kernel_rfl) (by kernel_rfl) ?hq16 ?hy16 (by assumption) ?_
 case hi16=>(simp only[aR,aS,aP];rfl)
 case hq16=>exact fun _ _ _ h=>h
 case hy16=>(refine aT ⟨by rfl,?_⟩;intro w' d;(try dsimp only at d);(try go_simp);try with_reducible rfl)
 try simp only[aJ,aK,aH,aG]
 refine aQ (i:=17) (oi:=?oi17) (v:=?v17) ?hi17 (by kernel_rfl) (by kernel_rfl) (by kernel_rfl) ?hq17 ?hy17 (by assumption) ?_
 case hi17=>(simp only[aR,aS,aP];rfl)
 case hq17=>exact fun _ _ _ h=>h
 case hy17=>(refine aT ⟨by rfl,?_⟩;intro w' d;(try dsimp only at d);(try go_simp);try with_reducible rfl)
 try simp only[aJ,aK,aH,aG]
 refine aQ (i:=18) (oi:=?oi18) (v:=?v18) ?hi18 (by kernel_rfl) (by kernel_rfl) (by kernel_rfl) ?hq18 ?hy18 (by assumption) ?_
 case hi18=>(simp only[aR,aS,aP];rfl)
 case hq18=>exact fun _ _ _ h=>h
 case hy18=>(refine aT ⟨by rfl,?_⟩;intro w' d;(try dsimp only at d);(try go_simp);try with_reducible rfl)
 try simp only[aJ,aK,aH,aG]
 refine aQ (i:=19) (oi:=?oi19) (v:=?v19) ?hi19 (by kernel_rfl) (by kernel_rfl) (by kernel_rfl) ?hq19 ?hy19 (by assumption) ?_
 case hi19=>(simp only[aR,aS,aP];rfl)
 case hq19=>exact fun _ _ _ h=>h
 case hy19=>(refine aT ⟨by rfl,?_⟩;intro w' d;(try dsimp only at d);(try go_simp);try with_reducible rfl)
 try simp only[aJ,aK,aH,aG]
 refine aQ (i:=20) (oi:=?oi20) (v:=?v20) ?hi20 (by kernel_rfl) (by kernel_rfl) (by kernel_rfl) ?hq20 ?hy20 (by assumption) ?_
 case hi20=>(simp only[aR,aS,aP];rfl)
 case hq20=>exact fun _ _ _ h=>h
 case hy20=>(refine aT ⟨by rfl,?_⟩;intro w' d;(try dsimp only at d);(try go_simp);try with_reducible rfl)
 try simp only[aJ,aK,aH,aG]
 refine aQ (i:=21) (oi:=?oi21) (v:=?v21) ?hi21 (by kernel_rfl) (by kernel_rfl) (by kernel_rfl) ?hq21 ?hy21 (by assumption) ?_
 case hi21=>(simp only[aR,aS,aP];rfl)
 case hq21=>exact fun _ _ _ h=>h
 case hy21=>(refine aT ⟨by rfl,?_⟩;intro w' d;(try dsimp only at d);(try go_simp);try with_reducible rfl)
 try simp only[aJ,aK,aH,aG]
 refine aQ (i:=22) (oi:=?oi22) (v:=?v22) ?hi22 (by kernel_rfl) (by kernel_rfl) (by kernel_rfl) ?hq22 ?hy22 (by assumption) ?_
 case hi22=>(simp only[aR,aS,aP];rfl)
 case hq22=>exact fun _ _ _ h=>h
 case hy22=>(refine aT ⟨by rfl,?_⟩;intro w' d;(try dsimp only at d);(try go_simp);try with_reducible rfl)
 try simp only[aJ,aK,aH,aG]
 refine aQ (i:=23) (oi:=?oi23) (v:=?v23) ?hi23 (by kernel_rfl) (by kernel_rfl) (by kernel_rfl) ?hq23 ?hy23 (by assumption) ?_
 case hi23=>(simp only[aR,aS,aP];rfl)
 case hq23=>exact fun _ _ _ h=>h
 case hy23=>(refine aT ⟨by rfl,?_⟩;intro w' d;(try dsimp only at d);(try go_simp);try with_reducible rfl)
 try simp only[aJ,aK,aH,aG]
 refine aQ (i:=24) (oi:=?oi24) (v:=?v24) ?hi24 (by kernel_rfl) (by kernel_rfl) (by kernel_rfl) ?hq24 ?hy24 (by assumption) ?_
 case hi24=>(simp only[aR,aS,aP];rfl)
 case hq24=>exact fun _ _ _ h=>h
 case hy24=>(refine aT ⟨by rfl,?_⟩;intro w' d;(try dsimp only at d);(try go_simp);try with_reducible rfl)
 try simp only[aJ,aK,aH,aG]
 refine aQ (i:=25) (oi:=?oi25) (v:=?v25) ?hi25 (by kernel_rfl) (by kernel_rfl) (by kernel_rfl) ?hq25 ?hy25 (by assumption) ?_
 case hi25=>(simp only[aR,aS,aP];rfl)
 case hq25=>exact fun _ _ _ h=>h
 case hy25=>(refine aT ⟨by rfl,?_⟩;intro w' d;(try dsimp only at d);(try go_simp);try with_reducible rfl)
 try simp only[aJ,aK,aH,aG]
 refine aQ (i:=26) (oi:=?oi26) (v:=?v26) ?hi26 (by kernel_rfl) (by kernel_rfl) (by kernel_rfl) ?hq26 ?hy26 (by assumption) ?_
 case hi26=>(simp only[aR,aS,aP];rfl)
 case hq26=>exact fun _ _ _ h=>h
 case hy26=>(refine aT ⟨by rfl,?_⟩;intro w' d;(try dsimp only at d);(try go_simp);try with_reducible rfl)
 try simp only[aJ,aK,aH,aG]
 refine fL (rs:=[27]) (by kernel_rfl) (by simp) ?_;refine fA rfl (fun K M=>?_) ?_
 rotate_left
 ·exact fM
 go_simp
 go_at_call 85
 refine(XH _ _ (lV ((a.size:Int)+1)) _ (l.take m) _ (a7.out.below (show iE w z a o _ A (E+m) _ _ by assumption).2.2.2.2.2.1) (fN Tryz.func206 rfl rfl) (a9.out _ (by assumption))).mono ?_;rintro e H ⟨rfl,a6⟩;rw[HF.out]
 (try go_wp2_with fail)
 refine M.out _ _ (iE.keep (by assumption) F J a6) (fun b4=>?_);clear M K
 try simp only[aJ,aK,aH,aG]
 refine aQ (i:=28) (oi:=?oi28) (v:=?v28) ?hi28 (by kernel_rfl) (by kernel_rfl) (by kernel_rfl) ?hq28 ?hy28 (by assumption) ?_
 case hi28=>(simp only[aR,aS,aP];rfl)
 case hq28=>exact fun _ _ _ h=>h
 case hy28=>(refine aT ⟨by rfl,?_⟩;intro w' d;(try dsimp only at d);(try go_simp);try with_reducible rfl)
 try simp only[aJ,aK,aH,aG]
 refine pY (by kernel_rfl) ?_ _;clear b2 b3;obtain⟨k0,k1,k2,k3,k4,k5,k6⟩:=b4;have O:=G.below k5 F;have k7:=O.cell (i:=4) rfl;have k8:=O.free;clear a6 hb G z0;go_upto_region 4 with fail
 go_still_tail 10,(by kernel_rfl)
 change wpList _ _ _ _ _ H.drew;have b5:Arr H.drew z 213 _:=O;have b9:H.drew.cell? ⟨w.heap.size,0,none⟩=some (.pointer (some ⟨z,0,none⟩)):=k0;have c3:H.drew.cell? ⟨z,4,none⟩=some T:=k7;have c4:∀i,H.drew.frozen? ⟨z,i,none⟩=false:=k8;have b6:Below w.heap.size w H.drew:=k5.drew;generalize H.drew=w4 at*
 clear O k0 k1 k2 k3 k4 k5 k6 k7 k8;go_wp2_with fail;go_ret;exact⟨rfl,nK (rZ b6 _) 4 _,_,b5.set 4 _,fun W hW=>by
  obtain⟨b1,o1,e1,b7,b8⟩:=WZ hW (by omega);obtain⟨rfl,rfl⟩:A=b1/\E=o1:=by simpa using e1
  rw[HM.out,jZ];exact EB b7 b8 m (by omega) a1 a3⟩
theorem LS (x:Int) (w:World):Calls Tryz.prog 168 #[.int .i64 x] w fun e w'=>e=.returned (.int .i64 x)/\w'=w:=by
 go_enter Tryz.func168,Tryz.ntmps168;go_wp2_with fail;go_ret;exact⟨rfl,rfl⟩
theorem XJ (x:Int) (w:World):Calls Tryz.prog 172 #[.int .i64 x] w fun e w'=>e=.returned (.int .i64 (if x=0 then 0 else 3))/\w'=w:=by
 by_cases h:x=0
 ·subst h;go_enter Tryz.func172,Tryz.ntmps172;go_wp2_with fail;go_ret;exact⟨rfl,rfl⟩
 ·have t1:(x != 0)=true:=by simpa using h
  rw[if_neg h];go_enter Tryz.func172,Tryz.ntmps172;go_wp2_with fail;go_ret;exact⟨rfl,rfl⟩
theorem LT {w d:World} {z:Nat} (A:Below w.heap.size w d) (i:Nat) (v:Value):w.grownBy (d.setCell ⟨z,i,none⟩ v) (some z):=nK (rZ A _) i v
theorem OwI.setW {w z:World} {B d:Nat} {v:Value} {l:List Int} (h:OwI z B v l) (A:d<w.heap.size) (E:w.heap.size<=B) (i:Nat) (x:Value):RdI (z.setCell ⟨d,i,none⟩ x) v l:=
 (h.setLow (p:=⟨d,i,none⟩) (dR A E) x).rd
theorem aMm (d:Nat) (a:ByteArray) (o most:Int) (v G:Value) (m:List Int) (b:ByteArray) (w:World) (z:Arr w d 213 [.string a,.int .i64 o,v,.int .i64 most,G,.string b]) (H:RdI w G m) (I:m.length<=100000) (J:∀x∈m,0<=x/\x<=1000000) (L: -9223372036854775808<=most) (M:most<=1000000):
  Calls Tryz.prog 170 #[.pointer (some ⟨d,0,none⟩)] w fun e w'=>e=.returned (.int .i64 (nZ m most))/\w.grownBy w' (some d)/\∃O,Arr w' d 213 [.string a,.int .i64 o,v,.int .i64 most,O,.string b]/\RdI w' O (oX m most):=by
 obtain⟨A,E,rfl,a1,a2,_⟩:=H.open;have T:=z.lt;have c3:=z.cell (i:=3) rfl;have c4:=z.cell (i:=4) rfl;have Z:∀W:World,RdI W (.slice A m.length E) m->Hid (Calls Tryz.prog 207 #[.slice A m.length E,.int .i64 most] W fun e w'=>∃F,e=.returned (.tuple #[F,.int .i64 (nZ m most)])/\OwI w' W.heap.size F (oX m most)/\Below W.heap.size W w'):=fun W hW=>hid (aLy _ m most W hW I J L M)
 have a4:RdI w.drew (.slice A m.length E) m:=H;clear I J L M;go_enter Tryz.func170,Tryz.ntmps170;go_upto_region 1 with fail
 go_region_with (go_at_call 207;refine((Z _ (by assumption)).out).mono ?_;rintro e U ⟨F,rfl,V,hb⟩;obtain⟨a3,k3,e3,_,_,_⟩:=V.rd.open;subst e3;have Y:Below w.heap.size w U:=(aB _ _).drew.trans hb;have a0:OwI U w.heap.size _ _:=V;have k:=z.below Y T;have k4:=k.cell (i:=4) rfl;have k5:=k.free)
 all_goals go_wp2_with fail
 all_goals go_ret
 all_goals exact⟨rfl,LT Y 4 _,_,k.set 4 _,a0.setW T (aA _) 4 _⟩
theorem aMn (d:Nat) (a:ByteArray) (o most:Int) (v z:Value) (b:ByteArray) (w:World) (A:Arr w d 213 [.string a,.int .i64 o,v,.int .i64 most,z,.string b]) (E:RdI w z []):
  Calls Tryz.prog 171 #[.pointer (some ⟨d,0,none⟩)] w fun e w'=>e=.returned (.int .i64 3)/\w'=w:=by
 obtain⟨F,G,rfl,_,_,_⟩:=E.open;have H:=A.cell (i:=4) rfl;go_enter Tryz.func171,Tryz.ntmps171;go_wp2_with fail;go_ret;exact⟨rfl,rfl⟩
theorem aMo (d:Nat) (a:ByteArray) (o most:Int) (v A:Value) (m:List Int) (b:ByteArray) (w:World) (z:Arr w d 213 [.string a,.int .i64 o,v,.int .i64 most,A,.string b]) (G:RdI w A m) (Z:0<m.length) (H:a.size<=1000) (I:m.length<=1000000) (J:a.data.toList.Nodup) (L:∀x∈m,0<=x/\x<(a.size:Int)):
  Calls Tryz.prog 171 #[.pointer (some ⟨d,0,none⟩)] w fun e w'=>e=.returned (.int .i64 0)/\w.grownBy w' (some d)/\Arr w' d 213 [.string a,.int .i64 o,v,.int .i64 most,A,.string (mkS (unL a.data.toList m))]:=by
 obtain⟨E,F,rfl,_,_,_⟩:=G.open;have O:=z.lt;have c0:=z.cell (i:=0) rfl;have c4:=z.cell (i:=4) rfl;have t1:((m.length:Int)==0)=false:=by rw[beq_eq_false_iff_ne];omega
 have t2:decide (m.length=0)=false:=decide_eq_false (by omega);have T:∀W:World,RdI W (.slice E m.length F) m->Hid (Calls Tryz.prog 208 #[.string a,.slice E m.length F] W fun e w'=>e=.returned (.tuple #[.string (mkS (unL a.data.toList m)),.int .i64 0])/\Below W.heap.size W w'):=fun W U=>hid (aK5 a _ m W H I J U L)
 have a0:RdI w.drew (.slice E m.length F) m:=G;clear H I J L;go_enter Tryz.func171,Tryz.ntmps171;go_upto_region 3 with fail
 go_region_with (go_at_call 208;refine((T _ (by assumption)).out).mono ?_;rintro e V ⟨rfl,Y⟩;have M:Below w.heap.size w V:=(aB _ _).drew.trans Y;have k:=z.below M O;have k4:=k.cell (i:=5) rfl;have k5:=k.free)
 all_goals go_wp2_with fail
 all_goals go_ret
 all_goals exact⟨rfl,LT M 5 _,k.set 5 _⟩
theorem aMp (d:Nat) (a:ByteArray) (o most:Int) (v E:Value) (b:ByteArray) (w:World) (z:Arr w d 213 [.string a,.int .i64 o,v,.int .i64 most,E,.string b]) (A:b.size<=1000000000) (F: -9223372036854775808<=o) (G:o<=9223372036854775807):
  Calls Tryz.prog 173 #[.pointer (some ⟨d,0,none⟩)] w fun e w'=>e=.returned (.int .i64 (nW b.data.toList o))/\w.grownBy w' (some d)/\Arr w' d 213 [.string a,.int .i64 o,v,.int .i64 most,E,.string (mkS (lE b.data.toList o))]:=by
 have I:=z.lt;have M:=z.cell (i:=1) rfl;have O:=z.cell (i:=5) rfl;have J:∀W:World,Hid (Calls Tryz.prog 209 #[.string b,.int .i64 o] W fun e w'=>e=.returned (.tuple #[.string (mkS (lE b.data.toList o)),.int .i64 (nW b.data.toList o)])/\Below W.heap.size W w'):=fun W=>hid (aMb b o W A F G)
 clear A F G;go_enter Tryz.func173,Tryz.ntmps173;go_upto_region 1 with fail
 go_region_with (go_at_call 209;refine((J _).out).mono ?_;rintro e L ⟨rfl,A⟩;have H:Below w.heap.size w L:=(aB _ _).drew.trans A;have k:=z.below H I;have T:=k.cell (i:=5) rfl;have U:=k.free)
 all_goals go_wp2_with fail
 all_goals go_ret
 all_goals exact⟨rfl,LT H 5 _,k.set 5 _⟩
def LU (w:World) (d:Nat) (E:Nat->Int) (S:Nat->World->Prop) (e:Ending) (w':World):Prop:=
 w.grownBy w' (some d)/\((∃k,k<5/\E k≠0/\(∀j,j<k->E j=0)/\e=.returned (.iface 259 (.agg #[.int .i64 (k:Int),.iface 214 (.int .i64 (E k))])))\/((∀j,j<5->E j=0)/\S 5 w'/\e=.returned .nilIface))
theorem aMq {w w':World} {d:Nat} {E:Nat->Int} {S:Nat->World->Prop} {k:Nat} (z:w.grownBy w' (some d)) (A:k<5) (F:E k≠0) (G:∀j,j<k->E j=0):LU w d E S (.returned (.iface 259 (.agg #[.int .i64 (k:Int),.iface 214 (.int .i64 (E k))]))) w':=⟨z,.inl ⟨k,A,F,G,rfl⟩⟩
theorem aMr {w w':World} {d:Nat} {E:Nat->Int} {S:Nat->World->Prop} (z:w.grownBy w' (some d)) (A:∀j,j<5->E j=0) (F:S 5 w'):LU w d E S (.returned .nilIface) w':=⟨z,.inr ⟨A,F,rfl⟩⟩
abbrev sA (W:World) (A z d y:Nat) (w':World):Prop:=w'.cell? ⟨z,0,none⟩=some (iR (.func d) #[] #[])/\w'.cell? ⟨z,1,none⟩=some (iR (.func y) #[] #[])/\W.grownBy w' (some A)/\z<w'.heap.size
theorem sA.drew {W w:World} {z A d y:Nat} (h:sA W z A d y w):sA W z A d y w.drew:=⟨h.1,h.2.1,zN h.2.2.1 ⟨rfl,rfl,rfl,aA _,fun _ _ _=>rfl⟩,h.2.2.2⟩
theorem sA.keep {W w w':World} {z E d y:Nat} (h:sA W z E d y w) (F:E≠z) (A:w.grownBy w' (some z)):sA W z E d y w':=
 ⟨A.cell h.1 (by simpa using F),A.cell h.2.1 (by simpa using F),zN h.2.2.1 A,dR h.2.2.2 A.size⟩
theorem aMs (z M:Nat) (w:World) (O T:Nat->Nat) (D E:Nat->Int) (S:Nat->World->Prop)
  (hc:∀k,k<5->w.cell? ⟨M,k*2,none⟩=some (iR (.func (O k)) #[] #[])/\w.cell? ⟨M,k*2+1,none⟩=some (iR (.func (T k)) #[] #[])) (a4:M≠z) (b9:z<w.heap.size)
  (a5:∀k,k<5->Enters Tryz.prog (O k)) (a6:∀k,k<5->Enters Tryz.prog (T k))
  (hd:∀k,k<5->∀W,S k W->w.grownBy W (some z)->(∀j,j<k->E j=0)->Calls Tryz.prog (O k) #[.pointer (some ⟨z,0,none⟩)] W fun e A=>e=.returned (.int .i64 (D k))/\W.grownBy A (some z)/\(E k=0->S (k+1) A))
  (hy:∀k,k<5->∀W,Calls Tryz.prog (T k) #[.int .i64 (D k)] W fun e A=>e=.returned (.int .i64 (E k))/\A=W)
  (hS:∀k W A,S k W->Below W.heap.size W A->S k A) (h0:S 0 w):
  Calls Tryz.prog 166 #[.pointer (some ⟨z,0,none⟩),.slice (some ⟨M,0,none⟩) 5 5] w (LU w z E S):=by
 have HC:=hid hc;have b1:=hid a5;have b2:=hid a6;have HD:=hid hd;have HY:=hid hy;have HS:=hid hS;clear hc a5 a6 hd hy hS;go_enter Tryz.func166,Tryz.ntmps166;go_wp2_with fail
 go_loopg [10,5,6,7] 5 (fun gh b3 _s5 _s6 _s7 wr=>∃k:Nat,k<=5/\gh=5-k/\b3=.int .i64 k/\S k wr/\w.grownBy wr (some z)/\Hid (∀j,j<k->E j=0))
 case atStart=>exact⟨0,by omega,rfl,rfl,h0,rZ (aB _ _) _,hid (fun j hj=>by omega)⟩
 case round=>
  obtain⟨k,hk,hg,rfl,a7,H,U⟩:=hrel;have HG:=hid hg;clear hg
  by_cases G:k<5
  ·obtain⟨p1,p2⟩:=HC.out k G;have c1:=H.cell p1 (by simpa using a4);have c2:=H.cell p2 (by simpa using a4);obtain⟨d,V⟩:∃d,d=O k:=⟨_,rfl⟩;obtain⟨y,Y⟩:∃y,y=T k:=⟨_,rfl⟩;obtain⟨xD,a1⟩:∃x,x=D k:=⟨_,rfl⟩;obtain⟨I,Z⟩:∃x,x=E k:=⟨_,rfl⟩;have c0:∀args W,(callFunc d args).run Tryz.prog W=.ok (.enter d args) W:=by rw[V];exact b1.out k G
   have c3:∀args W,(callFunc y args).run Tryz.prog W=.ok (.enter y args) W:=by rw[Y];exact b2.out k G
   have b4:Hid (∀W,S k W->w.grownBy W (some z)->Calls Tryz.prog d #[.pointer (some ⟨z,0,none⟩)] W fun e A=>e=.returned (.int .i64 xD)/\W.grownBy A (some z)/\(I=0->S (k+1) A)):=hid (fun W h1 h2=>by rw[V,a1,Z];exact HD.out k G W h1 h2 U.out);have b5:Hid (∀W,Calls Tryz.prog y #[.int .i64 xD] W fun e A=>e=.returned (.int .i64 I)/\A=W):=hid (fun W=>by rw[Y,a1,Z];exact HY.out k G W);rw[<-V] at c1;rw[<-Y] at c2;have a2:=hid Z;clear V Y a1 Z p1 p2
   have s1:(store ⟨wr.heap.size,0,none⟩ (iR (.func d) #[] #[])).run Tryz.prog (wr.alloc (.cells #[.nilFunc,.nilFunc] 220))=.ok () (wr.alloc (.cells #[iR (.func d) #[] #[],.nilFunc] 220)):=by
    rw[run_store _ _ _ _ _ rfl];simp[aCu]
   have s2:(store ⟨wr.heap.size,1,none⟩ (iR (.func y) #[] #[])).run Tryz.prog (wr.alloc (.cells #[iR (.func d) #[] #[],.nilFunc] 220))=.ok () (wr.alloc (.cells #[iR (.func d) #[] #[],iR (.func y) #[] #[]] 220)):=by
    rw[run_store _ _ _ _ _ rfl];simp[aCu]
   go_upto_region 4 with fail;have z0:sA w z wr.heap.size d y (wr.alloc (.cells #[iR (.func d) #[] #[],iR (.func y) #[] #[]] 220)):=by
    have ha:=Arr.new wr 220 [iR (.func d) #[] #[],iR (.func y) #[] #[]];exact⟨ha.cell (i:=0) rfl,ha.cell (i:=1) rfl,zN H (rZ ((aB _ _).alloc (aA _) _) _),by simp⟩
   have z1:S k (wr.alloc (.cells #[iR (.func d) #[] #[],iR (.func y) #[] #[]] 220)).drew:=HS.out k _ _ a7 ((aB _ _).alloc (aA _) _).drew;have b6:wr.heap.size≠z:=by have:=H.size;omega
   generalize wr.alloc (.cells #[iR (.func d) #[] #[],iR (.func y) #[] #[]] 220)=wa at*
   refine vI (S:=(fun w'=>w'.cell? ⟨wr.heap.size,0,none⟩=some (iR (.func d) #[] #[])/\w'.cell? ⟨wr.heap.size,1,none⟩=some (iR (.func y) #[] #[])/\w.grownBy w' (some z)/\wr.heap.size<w'.heap.size)) (by kernel_rfl) (sA.drew z0) (fun a0=>?_);refine aQ (i:=0) (oi:=?oi0) (v:=?v0) ?hi0 (by kernel_rfl) (by kernel_rfl) (by kernel_rfl) ?hq0 ?hy0 (by assumption) ?_
   case hi0=>(simp only[aR,aP];rfl)
   case hq0=>exact fun _ _ _ h=>h
   case hy0=>(refine aT ⟨by rfl,?_⟩;intro w' F;(try dsimp only at F);(try go_simp);try with_reducible rfl)
   try simp only[aJ,aK,aH,aG]
   refine aQ (i:=1) (oi:=?oi1) (v:=?v1) ?hi1 (by kernel_rfl) (by kernel_rfl) (by kernel_rfl) ?hq1 ?hy1 (by assumption) ?_
   case hi1=>(simp only[aR,aS,aP];rfl)
   case hq1=>exact fun _ _ _ h=>h
   case hy1=>(refine aT ⟨by rfl,?_⟩;intro w' F;(try dsimp only at F);(try go_simp);try with_reducible rfl)
   try simp only[aJ,aK,aH,aG]
   refine aQ (i:=2) (oi:=?oi2) (v:=?v2) ?hi2 (by kernel_rfl) (by kernel_rfl) (by kernel_rfl) ?hq2 ?hy2 (by assumption) ?_
   case hi2=>(simp only[aR,aS,aP];rfl)
   case hq2=>exact fun _ _ _ h=>h
   case hy2=>(refine aT ⟨by rfl,?_⟩;intro w' F;(try dsimp only at F);(try go_simp);try with_reducible rfl)
   try simp only[aJ,aK,aH,aG]
   refine aQ (i:=3) (oi:=?oi3) (v:=?v3) ?hi3 (by kernel_rfl) (by kernel_rfl) (by kernel_rfl) ?hq3 ?hy3 (by assumption) ?_
   case hi3=>(simp only[aR,aS,aP];rfl)
   case hq3=>exact fun _ _ _ h=>h
   case hy3=>(refine aT ⟨by rfl,?_⟩;intro w' F;(try dsimp only at F);(try go_simp);try with_reducible rfl)
   try simp only[aJ,aK,aH,aG]
   refine aQ (i:=4) (oi:=?oi4) (v:=?v4) ?hi4 (by kernel_rfl) (by kernel_rfl) (by kernel_rfl) ?hq4 ?hy4 (by assumption) ?_
   case hi4=>(simp only[aR,aS,aP];rfl)
   case hq4=>exact fun _ _ _ h=>h
   case hy4=>(refine aT ⟨by rfl,?_⟩;intro w' F;(try dsimp only at F);(try go_simp);try with_reducible rfl)
   try simp only[aJ,aK,aH,aG]
   refine fL (rs:=[5]) (by kernel_rfl) (by simp) ?_;refine fA rfl (fun K J=>?_) ?_
   rotate_left
   ·exact fM
   go_simp;refine(b4.out _ z1 a0.2.2.1).mono ?_;rintro e w1 ⟨rfl,b7,a3⟩
   (try go_wp2_with fail)
   refine J.out _ _ (sA.keep a0 b6 b7) (fun a8=>?_);clear J K
   try simp only[aJ,aK,aH,aG]
   refine fL (rs:=[6]) (by kernel_rfl) (by simp) ?_;refine fA rfl (fun K J=>?_) ?_
   rotate_left
   ·exact fM
   go_simp;refine(b5.out _).mono ?_;rintro e w2 ⟨rfl,rfl⟩
   (try go_wp2_with fail)
   refine J.out _ _ a8 (fun a9=>?_);clear J K
   try simp only[aJ,aK,aH,aG]
   refine aQ (i:=7) (oi:=?oi7) (v:=?v7) ?hi7 (by kernel_rfl) (by kernel_rfl) (by kernel_rfl) ?hq7 ?hy7 (by assumption) ?_
   case hi7=>(simp only[aR,aS,aP];rfl)
   case hq7=>exact fun _ _ _ h=>h
   case hy7=>(refine aT ⟨by rfl,?_⟩;intro w' F;(try dsimp only at F);(try go_simp);try with_reducible rfl)
   try simp only[aJ,aK,aH,aG]
   refine pY (by kernel_rfl) ?_ _;obtain⟨_,_,b0,_⟩:=a8
   by_cases L:I=0
   ·have b8:=hid (a3 L);have t1:(I != 0)=false:=by simp[L]
    clear a9 a0 a3 z0 z1 c1 c2;go_wp2_with fail;have hg:=HG.out
    go_roundg (5-(k+1))
    case measure=>omega
    case rel=>
     refine⟨k+1,by omega,rfl,by go_num,b8.out,b0,hid (fun j hj=>?_)⟩;rcases Nat.lt_succ_iff_lt_or_eq.1 hj with q|rfl
     ·exact U.out j q
     ·rw[<-a2.out];exact L
   ·have t1:(I != 0)=true:=by simpa using L
    clear a9 a0 a3 z0 z1 c1 c2;go_wp2_with fail;go_ret;rw[a2.out];exact aMq b0 G (by rw[<-a2.out];exact L) U.out
  ·go_wp2_with fail;go_ret;exact aMr H (fun j hj=>U.out j (by omega)) (by(obtain rfl:k=5:=(by omega));exact a7)
end
section
open Go.RowKit Go.Extern.Stop Go.Stop Go.Extern
theorem aMt (t:Addr) (w:World):(OK (.iface 222 (.pointer (some t)))).run Tryz.prog w
  =.ok (.agg #[.pointer (some ⟨2,222,none⟩),.pointer (some ⟨w.heap.size,0,none⟩),.int .u64 150]) (w.alloc (.cells #[.pointer (some t)] 222)):=by kernel_rfl
theorem aMu (a:Addr) (w:World):(aTj (AY "reflectlite.Value.Type" 0) (fun t _ _ _=>aTk t) #[.agg #[.pointer (some ⟨2,222,none⟩),.pointer (some a),.int .u64 150]]).run Tryz.prog w
  =.ok (.iface 283 (.agg #[.pointer (some ⟨2,222,none⟩)])) w:=by kernel_rfl
theorem aMv (w:World):((aCv fun t=>(fun a:Nat=>bO pX (a:Int)) <$> Rtype.kind t) #[.pointer (some ⟨2,222,none⟩)]).run Tryz.prog w=.ok (.int .u8 22) w:=by kernel_rfl
theorem aMw (w:World):((aCv fun t=>(fun a:Nat=>bO pX (a:Int)) <$> Rtype.kind t) #[.pointer (some ⟨2,214,none⟩)]).run Tryz.prog w=.ok (.int .u8 2) w:=by kernel_rfl
theorem XK (z:Sem Value) (f:TypeId->Addr->Nat->Nat->Sem Value) (v:Value):
  GU z f #[v]=(do match<-AZ v with|none=>z|some (t,a,fl)=>f t a fl (fl%32)):=rfl
theorem XL (a:Addr) (w:World):(AZ (.agg #[.pointer (some ⟨2,222,none⟩),.pointer (some a),.int .u64 150])).run Tryz.prog w=.ok (some (222,a,150)) w:=by kernel_rfl
theorem aMx (a p:Addr) (W:World) (d:W.cell? a=some (.pointer (some p))):
  (GU (AY "reflectlite.Value.IsNil" 0) aCw #[.agg #[.pointer (some ⟨2,222,none⟩),.pointer (some a),.int .u64 150]]).run Tryz.prog W=.ok (.bool false) W:=by
 rw[XK];simp only[vL,XL,jB];simp[aCw,loadVar,isAgg,underlying,Tryz.underlying222,d,jB]
theorem aMy (h:Value) (w:World):(Go.method 449 283 (.agg #[h]) "Kind").run Tryz.prog w=.ok (271,h) w:=by kernel_rfl
theorem aMz (h:Value) (w:World):(Go.method 449 283 (.agg #[h]) "Elem").run Tryz.prog w=.ok (284,.agg #[h]) w:=by kernel_rfl
theorem aM0 (h:Value) (w:World):(Go.method 449 283 (.agg #[h]) "Implements").run Tryz.prog w=.ok (285,.agg #[h]) w:=by kernel_rfl
theorem aM1 (h:Value) (w:World):(Go.method 449 283 (.agg #[h]) "AssignableTo").run Tryz.prog w=.ok (282,.agg #[h]) w:=by kernel_rfl
theorem aM2 (h:Value) (w:World):(Go.method 449 259 h "Unwrap").run Tryz.prog w=.ok (277,h) w:=by kernel_rfl
theorem aM3 (w:World):(aTl ReflectliteType.elem #[.agg #[.pointer (some ⟨2,222,none⟩)]]).run Tryz.prog w=.ok (.iface 283 (.agg #[.pointer (some ⟨2,214,none⟩)])) w:=by kernel_rfl
theorem aM4 (w:World):(GV "Implements" aTm #[.agg #[.pointer (some ⟨2,214,none⟩)],.iface 283 (.agg #[.pointer (some ⟨2,114,none⟩)])]).run Tryz.prog w=.ok (.bool true) w:=by kernel_rfl
theorem aM5 (v:Value) (w:World):(aCx #[.iface 259 v]).run Tryz.prog w=.ok (.iface 283 (.agg #[.pointer (some ⟨2,259,none⟩)])) w:=by kernel_rfl
theorem aM6 (v:Value) (w:World):(aCx #[.iface 214 v]).run Tryz.prog w=.ok (.iface 283 (.agg #[.pointer (some ⟨2,214,none⟩)])) w:=by kernel_rfl
theorem aM7 (w:World):(GV "AssignableTo" aCy #[.agg #[.pointer (some ⟨2,259,none⟩)],.iface 283 (.agg #[.pointer (some ⟨2,214,none⟩)])]).run Tryz.prog w=.ok (.bool false) w:=by kernel_rfl
theorem aM8 (w:World):(GV "AssignableTo" aCy #[.agg #[.pointer (some ⟨2,214,none⟩)],.iface 283 (.agg #[.pointer (some ⟨2,214,none⟩)])]).run Tryz.prog w=.ok (.bool true) w:=by kernel_rfl
theorem aM9 (x:Int) (w:World):(OK (.iface 214 (.int .i64 x))).run Tryz.prog w
  =.ok (.agg #[.pointer (some ⟨2,214,none⟩),.pointer (some ⟨w.heap.size,0,none⟩),.int .u64 130]) (w.alloc (.cells #[.int .i64 x] 214)):=by kernel_rfl
theorem aNa (w:World):(Rtype.elem? 222).run Tryz.prog w=.ok (some 214) w:=by kernel_rfl
theorem aNb (p:Addr) (w:World):(ReflectliteValue.mk 214 p aCz).run Tryz.prog w=.ok (.agg #[.pointer (some ⟨2,214,none⟩),.pointer (some p),.int .u64 386]) w:=by kernel_rfl
theorem aNc (a p:Addr) (W:World) (d:W.cell? a=some (.pointer (some p))):
  (GU (AY "reflectlite.Value.Elem" 0) aC0 #[.agg #[.pointer (some ⟨2,222,none⟩),.pointer (some a),.int .u64 150]]).run Tryz.prog W
   =.ok (.agg #[.pointer (some ⟨2,214,none⟩),.pointer (some p),.int .u64 386]) W:=by
 rw[XK];simp only[vL,XL,jB];simp[aC0,loadVar,isAgg,underlying,Tryz.underlying222,d,jB,aNa,aNb]
theorem aNd (v x:Value):aC1 #[v,x]=(do
  let(some (dst,a,fl),some (src,b,_)):=(<-AZ v,<-AZ x)
   |unsupported (.noEntry "extern/(internal/reflectlite.Value).Set.zeroValue")
  if fl/aCz%2==0 then unsupported (.noEntry "extern/(internal/reflectlite.Value).Set.unaddressable")
  let d<-loadVar src b
  if<-aTn dst src then storeVar dst a d
  else if<-Rtype.implements dst src then
   if(<-Rtype.kind src)==20 then
    match d with
    |.nilIface=>unsupported (.noEntry "extern/reflectlite: a nil value of one interface type handed on as a value of another")
    |_=>storeVar dst a d
   else storeVar dst a (.iface src d)
  else panicString ("reflectlite.Set: value of type "++(<-Rtype.spelt src)++ " is not assignable to type "++(<-Rtype.spelt dst))
  pure (.tuple #[])):=rfl
theorem aNe (a:Addr) (w:World):(AZ (.agg #[.pointer (some ⟨2,214,none⟩),.pointer (some a),.int .u64 386])).run Tryz.prog w=.ok (some (214,a,386)) w:=by kernel_rfl
theorem aNf (a:Addr) (w:World):(AZ (.agg #[.pointer (some ⟨2,214,none⟩),.pointer (some a),.int .u64 130])).run Tryz.prog w=.ok (some (214,a,130)) w:=by kernel_rfl
theorem aNg (w:World):(aTn 214 214).run Tryz.prog w=.ok true w:=by kernel_rfl
theorem aNh (d b:Addr) (x:Int) (z:Value) (W:World) (A:W.cell? b=some (.int .i64 x)) (E:W.cell? d=some z) (F:W.frozen? d=false):
  (aC1 #[.agg #[.pointer (some ⟨2,214,none⟩),.pointer (some d),.int .u64 386],.agg #[.pointer (some ⟨2,214,none⟩),.pointer (some b),.int .u64 130]]).run Tryz.prog W
   =.ok (.tuple #[]) (W.setCell d (.int .i64 x)):=by
 rw[aNd];simp only[vL,aNe,aNf,jB];simp[aCz,loadVar,isAgg,underlying,Tryz.underlying214,A,jB,aNg,storeVar,Value.cells,storeCells,Addr.add];rw[run_store Tryz.prog W d _ _ (by rfl)];simp[E,F]
def iF (w:World):Prop:=w.cell? ⟨0,0,none⟩=some (.iface 283 (.agg #[.pointer (some ⟨2,114,none⟩)]))
theorem iF.lt {w:World} (h:iF w):0<w.heap.size:=iO w _ h
theorem iF.below {w w':World} (h:iF w) (d:Below w.heap.size w w'):iF w':=(d.cell (p:=⟨0,0,none⟩) h.lt).trans h
theorem iF.grown {w w':World} {g:Nat} (h:iF w) (d:w.grownBy w' (some g)) (z:0<g):iF w':=d.cell h (by simp;omega)
theorem aNi (v:Value) (w:World):(BA (.iface 259 v) 114 288 true).run Tryz.prog w=.ok (.tuple #[.nilIface,.bool false]) w:=run_typeAssert_lacksB Tryz.underlying288 (by kernel_rfl) (by kernel_rfl) v _ w
theorem aNj (v:Value) (w:World):(BA (.iface 259 v) 114 291 true).run Tryz.prog w=.ok (.tuple #[.iface 259 v,.bool true]) w:=by kernel_rfl
theorem aNk (t:Value) (w:World):
  Calls Tryz.prog 174 #[.nilIface,t] w fun e w'=>e=.returned (.bool false)/\w'=w:=by
 go_enter Tryz.func174,Tryz.ntmps174;go_wp2;go_ret;exact⟨rfl,rfl⟩
theorem aNl (k x:Int) (d g:Addr) (I:Value) (w:World) (J:w.cell? g=some (.pointer (some d))) (F:w.cell? d=some I) (M:w.frozen? d=false):
  Calls Tryz.prog 213 #[.iface 259 (.agg #[.int .i64 k,.iface 214 (.int .i64 x)]),.iface 222 (.pointer (some d)),.agg #[.pointer (some ⟨2,222,none⟩),.pointer (some g),.int .u64 150],.iface 283 (.agg #[.pointer (some ⟨2,214,none⟩)])] w
   fun e w'=>e=.returned (.bool true)/\w.grownBy w' (some d.block)/\w'.cell? d=some (.int .i64 x):=by
 have Y:=@qB Tryz.prog 227 _ aCx Tryz.func227 (by kernel_rfl) (by kernel_rfl) (by kernel_rfl) (by kernel_rfl);have Z:=@qB Tryz.prog 282 _ (GV "AssignableTo" aCy) Tryz.func282 (by kernel_rfl) (by kernel_rfl) (by kernel_rfl) (by kernel_rfl);have a0:=@qB Tryz.prog 228 _ (GU (AY "reflectlite.Value.Elem" 0) aC0) Tryz.func228 (by kernel_rfl) (by kernel_rfl) (by kernel_rfl) (by kernel_rfl)
 have a1:=@qB Tryz.prog 210 _ (fun args=>OK (args.getD 0 (.tuple #[]))) Tryz.func210 (by kernel_rfl) (by kernel_rfl) (by kernel_rfl) (by kernel_rfl);have a2:=@qB Tryz.prog 229 _ aC1 Tryz.func229 (by kernel_rfl) (by kernel_rfl) (by kernel_rfl) (by kernel_rfl);have tF:=aM5;have tC:=aM6;have mA:=aM1;have mU:=aM2;have aF:=aM7;have aC:=aM8;have uC:=aM9 x;have q1:=aNi;have q2:=aNj;go_enter Tryz.func213,Tryz.ntmps213;go_wp2;refine wp_loop_rounds 2 ?_;rw[rounds_succ];go_wp2
 have O:=iO w _ J;have G:=iO w _ F;have A:Below w.heap.size w ((w.alloc (.cells #[.pointer (some ⟨2,222,none⟩),.pointer (some g),.int .u64 150] 262)).alloc (.cells #[.int .i64 k,.iface 214 (.int .i64 x)] 259)):=((aB _ _).alloc (aA _) _).alloc (by simp) _;have H:((w.alloc (.cells #[.pointer (some ⟨2,222,none⟩),.pointer (some g),.int .u64 150] 262)).alloc (.cells #[.int .i64 k,.iface 214 (.int .i64 x)] 259)).heap.size=w.heap.size+1+1:=by simp
 have E:∀i,i<3->((w.alloc (.cells #[.pointer (some ⟨2,222,none⟩),.pointer (some g),.int .u64 150] 262)).alloc (.cells #[.int .i64 k,.iface 214 (.int .i64 x)] 259)).cell? ⟨w.heap.size,i,none⟩=#[.pointer (some ⟨2,222,none⟩),.pointer (some g),.int .u64 150][i]? :=fun i hi=>by
  rw[OL _ _ ⟨w.heap.size,i,none⟩ (by simp),World.cell?_alloc_at _ _ _ _ rfl]
 have v0:=E 0 (by decide);have v1:=E 1 (by decide);have v2:=E 2 (by decide);clear E;generalize (w.alloc (.cells #[.pointer (some ⟨2,222,none⟩),.pointer (some g),.int .u64 150] 262)).alloc (.cells #[.int .i64 k,.iface 214 (.int .i64 x)] 259)=z at*
 have eV:=aNc g d z (by rw[A.cell O];exact J);have T:z.heap.size=w.heap.size+1+1:=H;have L:=hid H;have sC:=aNh d ⟨z.heap.size,0,none⟩ x I (z.alloc (.cells #[.int .i64 x] 214)) (bS _ _ _)
  (by rw[OL _ _ d (by omega),A.cell G];exact F)
  (by rw[World.frozen?_alloc_old _ _ d (by omega),A.frozen G];exact M)
 clear H T;rw[rounds_succ];go_wp2;go_ret;have U:d.block<z.heap.size:=by have:=L.out;omega
 refine⟨rfl,zN (b:=z.alloc (.cells #[.int .i64 x] 214)) (rZ (A.alloc (by have:=L.out;omega) _) _) ?_,?_⟩
 ·exact⟨rfl,rfl,rfl,by simp,fun i hi V=>heap_setCell_other _ _ _ _ (fun e=>V (by rw[e]))⟩
 ·exact World.cell?_setCell_same _ _ _ (by rw[OL _ _ d U,A.cell G];exact F)
theorem aNm (k x:Int) (d:Addr) (I:Value) (w:World) (F:iF w) (G:w.cell? d=some I) (J:w.frozen? d=false):
  Calls Tryz.prog 174 #[.iface 259 (.agg #[.int .i64 k,.iface 214 (.int .i64 x)]),.iface 222 (.pointer (some d))] w
   fun e w'=>e=.returned (.bool true)/\w.grownBy w' (some d.block)/\w'.cell? d=some (.int .i64 x):=by
 have a1:=@qB Tryz.prog 210 _ (fun args=>OK (args.getD 0 (.tuple #[]))) Tryz.func210 (by kernel_rfl) (by kernel_rfl) (by kernel_rfl) (by kernel_rfl);have a2:=@qB Tryz.prog 211 _ (aTj (AY "reflectlite.Value.Type" 0) (fun t _ _ _=>aTk t)) Tryz.func211 (by kernel_rfl) (by kernel_rfl) (by kernel_rfl) (by kernel_rfl)
 have a3:=@qB Tryz.prog 212 _ (GU (AY "reflectlite.Value.IsNil" 0) aCw) Tryz.func212 (by kernel_rfl) (by kernel_rfl) (by kernel_rfl) (by kernel_rfl);have a4:=@qB Tryz.prog 271 _ (aCv fun t=>do pure (.int .u8 (<-Rtype.kind t))) Tryz.func271 (by kernel_rfl) (by kernel_rfl) (by kernel_rfl) (by kernel_rfl);have a5:=@qB Tryz.prog 284 _ (aTl ReflectliteType.elem) Tryz.func284 (by kernel_rfl) (by kernel_rfl) (by kernel_rfl) (by kernel_rfl)
 have a6:=@qB Tryz.prog 285 _ (GV "Implements" aTm) Tryz.func285 (by kernel_rfl) (by kernel_rfl) (by kernel_rfl) (by kernel_rfl);have uP:=aMt d;have tP:=aMu;have mK:=aMy;have mE:=aMz;have mI:=aM0;have kP:=aMv;have kC:=aMw;have eP:=aM3;have iC:=aM4;have L:=iO w _ G;have U:=F.lt;have M:w.cell? ⟨0,0,none⟩=some (.iface 283 (.agg #[.pointer (some ⟨2,114,none⟩)])):=F
 obtain⟨z,A⟩:∃z,z=(w.alloc (.cells #[.pointer (some d)] 222)).alloc (.cells #[.pointer (some ⟨2,222,none⟩),.pointer (some ⟨w.heap.size,0,none⟩),.int .u64 150] 262):=⟨_,rfl⟩;have E:Below w.heap.size w z:=by rw[A];exact((aB _ _).alloc (aA _) _).alloc (by simp) _
 have H:z.cell? ⟨w.heap.size,0,none⟩=some (.pointer (some d)):=by
  rw[A,OL _ _ ⟨w.heap.size,0,none⟩ (by simp),bS]
 have V:=aMx ⟨w.heap.size,0,none⟩ d z H;have Y:z.cell? ⟨0,0,none⟩=some (.iface 283 (.agg #[.pointer (some ⟨2,114,none⟩)])):=by rw[E.cell (p:=⟨0,0,none⟩) U];exact M
 have O:=hid (aNl k x d ⟨w.heap.size,0,none⟩ I z H (by rw[E.cell L];exact G) (by rw[E.frozen L];exact J));rw[A] at V Y O;have Z:=hid E;have HW:=hid A;clear E H A F M G J;go_enter Tryz.func174,Tryz.ntmps174;go_wp2_with (go_at_call 213;refine O.out.mono ?_;rintro e w4 ⟨rfl,T,a0⟩);go_ret;rw[<-HW.out] at T;exact⟨rfl,zN (rZ Z.out _) T,a0⟩
end
section
open Go.RowKit Go.Shelf
def stD (a:ByteArray) (o:Int) (l:List Int) (most:Int):Nat->Int
 |0=>if a.data.toList≠[]/\bK a.data.toList=a.data.toList then 0 else 1
 |1=>if gW l ((a.size:Int)+1) then 0 else 3
 |2=>nZ (l.take (l.length-1)) most
 |3=>if cE l=[] then 3 else 0
 |_=>nW (unL a.data.toList (cE l)) o
def stE (a:ByteArray) (o:Int) (l:List Int) (most:Int):Nat->Int
 |4=>if stD a o l most 4=0 then 0 else 3
 |k=>stD a o l most k
def stF:Nat->Nat
 |0=>167
 |1=>169
 |2=>170
 |3=>171
 |_=>173
def stY:Nat->Nat
 |0|1|2=>168
 |_=>172
def stS (w0:World) (z:Nat) (a:ByteArray) (o:Int) (v:Value) (l:List Int) (most:Int) (k:Nat) (W:World):Prop:=
 ∃d b,Arr W z 213 [.string a,.int .i64 o,v,.int .i64 most,d,.string b]/\(k=2->RdI w0 d (l.take (l.length-1)))/\(k=3->RdI W d (cE l))/\(k=4->b=mkS (unL a.data.toList (cE l)))/\(k=5->b=mkS (lE (unL a.data.toList (cE l)) o))
theorem st0 {a:ByteArray} {o:Int} {l:List Int} {most:Int} (h:stE a o l most 0=0):a.data.toList≠[]/\bK a.data.toList=a.data.toList:=by
 by_cases q:a.data.toList≠[]/\bK a.data.toList=a.data.toList
 ·exact q
 ·exfalso;have:stE a o l most 0=if a.data.toList≠[]/\bK a.data.toList=a.data.toList then 0 else 1:=rfl;rw[this,if_neg q] at h;omega
theorem st1 {a:ByteArray} {o:Int} {l:List Int} {most:Int} (h:stE a o l most 1=0):gW l ((a.size:Int)+1):=by
 by_cases q:gW l ((a.size:Int)+1)
 ·exact q
 ·exfalso;have:stE a o l most 1=if gW l ((a.size:Int)+1) then 0 else 3:=rfl;rw[this,if_neg q] at h;omega
theorem st2 {a:ByteArray} {o:Int} {l:List Int} {most:Int} (h:stE a o l most 2=0):((cE l).length:Int)<=most:=by
 by_cases q:((cE l).length:Int)<=most
 ·exact q
 ·exfalso;have:stE a o l most 2=if((cE l).length:Int)<=most then 0 else 4:=rfl;rw[this,if_neg q] at h;omega
theorem st3 {a:ByteArray} {o:Int} {l:List Int} {most:Int} (h:stE a o l most 3=0):cE l≠[]:=fun q=>by
 have:stE a o l most 3=if cE l=[] then 3 else 0:=rfl;rw[this,if_pos q] at h;omega
theorem XN {L:List UInt8} {o:Int} (d:0<L.length):mJ L o=true↔(0<=o/\o<(L.length:Int)):=by
 unfold mJ;rw[Bool.and_eq_true,decide_eq_true_iff,decide_eq_true_iff];omega
theorem st4 {a:ByteArray} {o:Int} {l:List Int} {most:Int} (A:cE l≠[]):stE a o l most 4=0↔(0<=o/\o<((cE l).length:Int)):=by
 have d:(unL a.data.toList (cE l)).length=(cE l).length:=oO _ _;have E:0<(unL a.data.toList (cE l)).length:=by rw[d];exact kV.2 A
 have e:stE a o l most 4=if(if mJ (unL a.data.toList (cE l)) o then(0:Int) else 1)=0 then 0 else 3:=rfl;rw[e,<-d];have hi:=XN (o:=o) E
 cases z:mJ (unL a.data.toList (cE l)) o with
 |true=>simp;exact hi.1 z
 |false=>
  simp;intro F;rw[z] at hi;rcases Int.lt_or_le o (unL a.data.toList (cE l)).length with q|q
  ·exact absurd (hi.2 ⟨F,q⟩) (by simp)
  ·exact q
theorem aNn {a:ByteArray} {o:Int} {l:List Int} {most:Int} {k:Nat} (z:k<5) (h:stE a o l most k≠0) (d:∀j,j<k->stE a o l most j=0):rest a o l most=(cW,stE a o l most k):=by
 match k,z with
 |0,_=>
  have e:stE a o l most 0=if a.data.toList≠[]/\bK a.data.toList=a.data.toList then 0 else 1:=rfl
  by_cases q:a.data.toList≠[]/\bK a.data.toList=a.data.toList
  ·rw[e,if_pos q] at h;omega
  ·rw[e,if_neg q];exact wQ q
 |1,_=>
  have e:stE a o l most 1=if gW l ((a.size:Int)+1) then 0 else 3:=rfl
  by_cases q:gW l ((a.size:Int)+1)
  ·rw[e,if_pos q] at h;omega
  ·rw[e,if_neg q];exact zK (st0 (d 0 (by omega))) q
 |2,_=>
  have e:stE a o l most 2=if((cE l).length:Int)<=most then 0 else 4:=rfl
  by_cases q:((cE l).length:Int)<=most
  ·rw[e,if_pos q] at h;omega
  ·rw[e,if_neg q];exact zL (st0 (d 0 (by omega))) (st1 (d 1 (by omega))) q
 |3,_=>
  have e:stE a o l most 3=if cE l=[] then 3 else 0:=rfl
  by_cases q:cE l=[]
  ·rw[e,if_pos q];exact zM (st0 (d 0 (by omega))) (st1 (d 1 (by omega))) (st2 (d 2 (by omega))) (by rw[q];simp)
  ·rw[e,if_neg q] at h;omega
 |4,_=>
  have A:=st3 (d 3 (by omega));have E:=fun q=>h ((st4 (a:=a) (most:=most) A).2 q)
  rw[zM (st0 (d 0 (by omega))) (st1 (d 1 (by omega))) (st2 (d 2 (by omega))) E];have e:stE a o l most 4=if stD a o l most 4=0 then 0 else 3:=rfl
  by_cases q:stD a o l most 4=0
  ·rw[e,if_pos q] at h;omega
  ·rw[e,if_neg q]
theorem aNo {a:ByteArray} {o:Int} {l:List Int} {most:Int} (d:∀j,j<5->stE a o l most j=0):rest a o l most=(mkS (lE (unL a.data.toList (cE l)) o),0):=by
 have z:=st3 (d 3 (by omega));have A:=(st4 (a:=a) (most:=most) z).1 (d 4 (by omega));have E:(unL a.data.toList (cE l)).length=(cE l).length:=oO _ _;rw[wR (st0 (d 0 (by omega))) (st1 (d 1 (by omega))) (st2 (d 2 (by omega))) A];unfold lE;rw[if_pos ((XN (by rw[E];exact kV.2 z)).2 (by rw[E];exact A))]
theorem aNp (w0 w:World) (d:Nat) (a:ByteArray) (o:Int) (v:Value) (l:List Int) (most:Int) (ha:a.size<=140737488355328) (Y:RdI w0 v l) (hl:l.length<=100000) (a1: -9223372036854775808<=o) (a2:o<=9223372036854775807) (a3: -9223372036854775808<=most) (a4:most<=1000000) (Z:Below w0.heap.size w0 w) (a7:w0.heap.size<=d):
  ∀k,k<5->∀W,stS w0 d a o v l most k W->w.grownBy W (some d)->(∀j,j<k->stE a o l most j=0)->Calls Tryz.prog (stF k) #[.pointer (some ⟨d,0,none⟩)] W fun e E=>e=.returned (.int .i64 (stD a o l most k))/\W.grownBy E (some d)/\(stE a o l most k=0->stS w0 d a o v l most (k+1) E):=by
 intro k hk W hS hg G;obtain⟨A,b,F,s2,s3,s4,s5⟩:=hS;have hB:Below w0.heap.size w0 W:=Z.grown hg Z.size (fun q e=>by injection e with e;omega);have a0:RdI W v l:=Y.below hB
 match k,hk with
 |0,_=>
  refine(aMi d a o most v A b W ha F).mono ?_;rintro e E ⟨rfl,M⟩;exact⟨rfl,rZ M _,fun _=>⟨A,b,F.below M F.lt,by omega,by omega,by omega,by omega⟩⟩
 |1,_=>
  have H:=st0 (G 0 (by omega));have O:a.size<=256:=by
   have L:a.data.toList.length=a.size:=by simp
   rw[<-L,<-H.2];exact rX _
  have e1:stD a o l most 1=if gW l ((a.size:Int)+1) then 0 else 3:=rfl
  by_cases z:gW l ((a.size:Int)+1)
  ·rw[e1,if_pos z];refine(aMl d a o most v A l b W O F a0 z).mono ?_;rintro e E ⟨rfl,I,U,J,T⟩;exact⟨rfl,I,fun _=>⟨U,b,J,fun _=>T w0 Y,by omega,by omega,by omega⟩⟩
  ·rw[e1,if_neg z];refine(aMk d a o most v A l b W O F a0 z).mono ?_;rintro e E ⟨rfl,M⟩;exact⟨rfl,rZ M _,fun h=>absurd (st1 h) z⟩
 |2,_=>
  have V:=st1 (G 1 (by omega));have O:a.size<=256:=by
   have H:=st0 (G 0 (by omega));have L:a.data.toList.length=a.size:=by simp
   rw[<-L,<-H.2];exact rX _
  refine(aMm d a o most v A (l.take (l.length-1)) b W F ((s2 rfl).below hB) (by rw[List.length_take];omega) (fun x hx=>by have:=V.2.2 x hx;omega) a3 a4).mono ?_;rintro e E ⟨rfl,I,U,J,T⟩;refine⟨rfl,I,fun h=>⟨U,b,J,by omega,fun _=>?_,by omega,by omega⟩⟩;rw[(wO (m:=l.take (l.length-1)) (st2 h)).1] at T;exact T
 |3,_=>
  have H:=st0 (G 0 (by omega));have V:=st1 (G 1 (by omega));have h2:=st2 (G 2 (by omega));have L:a.data.toList.length=a.size:=by simp
  have O:a.size<=256:=by rw[<-L,<-H.2];exact rX _
  have a5:0<a.size:=by rw[<-L];exact kV.2 H.1
  have e3:stD a o l most 3=if cE l=[] then 3 else 0:=rfl
  by_cases z:cE l=[]
  ·rw[e3,if_pos z];refine(aMn d a o most v A b W F (by have:=s3 rfl;rwa[z] at this)).mono ?_;rintro e E ⟨rfl,rfl⟩;exact⟨rfl,rZ (aB _ _) _,fun h=>absurd z (st3 h)⟩
  ·rw[e3,if_neg z];refine(aMo d a o most v A (cE l) b W F (s3 rfl) (kV.2 z) (by omega) (by omega) (by rw[<-H.2];exact BS _) (LQ V a5)).mono ?_;rintro e E ⟨rfl,I,J⟩;exact⟨rfl,I,fun _=>⟨A,_,J,by omega,by omega,fun _=>rfl,by omega⟩⟩
 |4,_=>
  have h2:=st2 (G 2 (by omega));obtain rfl:=s4 rfl;have a6:(mkS (unL a.data.toList (cE l))).size<=1000000000:=by rw[cP,oO];omega
  refine(aMp d a o most v A _ W F a6 a1 a2).mono ?_;rintro e E ⟨rfl,I,J⟩;exact⟨rfl,I,fun _=>⟨A,_,J,by omega,by omega,by omega,fun _=>rfl⟩⟩
theorem aNq (a:ByteArray) (o:Int) (l:List Int) (most:Int):∀k,k<5->∀W,Calls Tryz.prog (stY k) #[.int .i64 (stD a o l most k)] W fun e d=>e=.returned (.int .i64 (stE a o l most k))/\d=W:=by
 intro k A W
 match k,A with
 |0,_=>exact LS _ W
 |1,_=>exact LS _ W
 |2,_=>exact LS _ W
 |3,_=>
  refine(XJ (stD a o l most 3) W).mono ?_;rintro e d ⟨rfl,rfl⟩;refine⟨fX ?_,rfl⟩;have E:stD a o l most 3=if cE l=[] then 3 else 0:=rfl;have F:stE a o l most 3=if cE l=[] then 3 else 0:=rfl;rw[E,F]
  by_cases z:cE l=[]
  ·rw[if_pos z];rfl
  ·rw[if_neg z];rfl
 |4,_=>exact XJ (stD a o l most 4) W
theorem aNr (w0:World) (d:Nat) (a:ByteArray) (o:Int) (v:Value) (l:List Int) (most:Int) (k:Nat) (W z:World) (h:stS w0 d a o v l most k W) (A:Below W.heap.size W z):stS w0 d a o v l most k z:=by
 obtain⟨F,b,E,G,H,I,J⟩:=h;exact⟨F,b,E.below A E.lt,G,fun e=>(H e).below A,I,J⟩
theorem aNs:∀k,k<5->Enters Tryz.prog (stF k):=by
 intro k d
 match k,d with
 |0,_=>exact fN Tryz.func167 rfl rfl
 |1,_=>exact fN Tryz.func169 rfl rfl
 |2,_=>exact fN Tryz.func170 rfl rfl
 |3,_=>exact fN Tryz.func171 rfl rfl
 |4,_=>exact fN Tryz.func173 rfl rfl
theorem aNt:∀k,k<5->Enters Tryz.prog (stY k):=by
 intro k d
 match k,d with
 |0,_=>exact fN Tryz.func168 rfl rfl
 |1,_=>exact fN Tryz.func168 rfl rfl
 |2,_=>exact fN Tryz.func168 rfl rfl
 |3,_=>exact fN Tryz.func172 rfl rfl
 |4,_=>exact fN Tryz.func172 rfl rfl
theorem aNu (a:ByteArray) (o:Int) (v:Value) (l:List Int) (most:Int) (w:World) (hE:iF w) (ha:a.size<=140737488355328) (O:RdI w v l) (hl:l.length<=100000) (a2: -9223372036854775808<=o) (a3:o<=9223372036854775807) (a4: -9223372036854775808<=most) (a5:most<=1000000):
  Calls Tryz.prog 115 #[.agg #[.string a,.int .i64 o,v],.int .i64 most] w fun e w'=>e=.returned (.tuple #[.string (rest a o l most).1,.int .i64 (rest a o l most).2])/\Below w.heap.size w w':=by
 have a6:=hid (fun A wb a7 a8=>aNp w A wb a o v l most ha O hl a2 a3 a4 a5 a7 a8);obtain⟨d,z,rfl,b4,b5,_⟩:=O.open;go_enter Tryz.func115,Tryz.ntmps115;go_wp2_with fail;have T:(w.alloc (.cells #[.string a,.int .i64 o,.slice d l.length z] 50)).heap.size=w.heap.size+1:=by simp
 have F:Below w.heap.size w ((((w.alloc (.cells #[.string a,.int .i64 o,.slice d l.length z] 50)).alloc (.cells #[.string a,.int .i64 o,.slice d l.length z,.int .i64 most,.slice none 0 0,.string {data:=#[]}] 213)).alloc (.cells #[.int .i64 0] 214)).alloc (.cells #[.func (.func 167) #[] #[],.func (.func 168) #[] #[],.func (.func 169) #[] #[],.func (.func 168) #[] #[],.func (.func 170) #[] #[],.func (.func 168) #[] #[],.func (.func 171) #[] #[],.func (.func 172) #[] #[],.func (.func 173) #[] #[],.func (.func 172) #[] #[]] 220)):=((((aB _ _).alloc (aA _) _).alloc (by simp) _).alloc (by simp;omega) _).alloc (by simp;omega) _
 have L:Arr ((((w.alloc (.cells #[.string a,.int .i64 o,.slice d l.length z] 50)).alloc (.cells #[.string a,.int .i64 o,.slice d l.length z,.int .i64 most,.slice none 0 0,.string {data:=#[]}] 213)).alloc (.cells #[.int .i64 0] 214)).alloc (.cells #[.func (.func 167) #[] #[],.func (.func 168) #[] #[],.func (.func 169) #[] #[],.func (.func 168) #[] #[],.func (.func 170) #[] #[],.func (.func 168) #[] #[],.func (.func 171) #[] #[],.func (.func 172) #[] #[],.func (.func 173) #[] #[],.func (.func 172) #[] #[]] 220)) (w.heap.size+1) 213 [.string a,.int .i64 o,.slice d l.length z,.int .i64 most,.slice none 0 0,.string {data:=#[]}]:=by
  have:=((Arr.new (w.alloc (.cells #[.string a,.int .i64 o,.slice d l.length z] 50)) 213 [.string a,.int .i64 o,.slice d l.length z,.int .i64 most,.slice none 0 0,.string {data:=#[]}]).alloc (.cells #[.int .i64 0] 214)).alloc (.cells #[.func (.func 167) #[] #[],.func (.func 168) #[] #[],.func (.func 169) #[] #[],.func (.func 168) #[] #[],.func (.func 170) #[] #[],.func (.func 168) #[] #[],.func (.func 171) #[] #[],.func (.func 172) #[] #[],.func (.func 173) #[] #[],.func (.func 172) #[] #[]] 220);rwa[T] at this
 have G:Arr ((((w.alloc (.cells #[.string a,.int .i64 o,.slice d l.length z] 50)).alloc (.cells #[.string a,.int .i64 o,.slice d l.length z,.int .i64 most,.slice none 0 0,.string {data:=#[]}] 213)).alloc (.cells #[.int .i64 0] 214)).alloc (.cells #[.func (.func 167) #[] #[],.func (.func 168) #[] #[],.func (.func 169) #[] #[],.func (.func 168) #[] #[],.func (.func 170) #[] #[],.func (.func 168) #[] #[],.func (.func 171) #[] #[],.func (.func 172) #[] #[],.func (.func 173) #[] #[],.func (.func 172) #[] #[]] 220)) (w.heap.size+1+1) 214 [.int .i64 0]:=by
  have:=(Arr.new ((w.alloc (.cells #[.string a,.int .i64 o,.slice d l.length z] 50)).alloc (.cells #[.string a,.int .i64 o,.slice d l.length z,.int .i64 most,.slice none 0 0,.string {data:=#[]}] 213)) 214 [.int .i64 0]).alloc (.cells #[.func (.func 167) #[] #[],.func (.func 168) #[] #[],.func (.func 169) #[] #[],.func (.func 168) #[] #[],.func (.func 170) #[] #[],.func (.func 168) #[] #[],.func (.func 171) #[] #[],.func (.func 172) #[] #[],.func (.func 173) #[] #[],.func (.func 172) #[] #[]] 220)
  rwa[show((w.alloc (.cells #[.string a,.int .i64 o,.slice d l.length z] 50)).alloc (.cells #[.string a,.int .i64 o,.slice d l.length z,.int .i64 most,.slice none 0 0,.string {data:=#[]}] 213)).heap.size=w.heap.size+1+1 by simp] at this
 have hF:Arr ((((w.alloc (.cells #[.string a,.int .i64 o,.slice d l.length z] 50)).alloc (.cells #[.string a,.int .i64 o,.slice d l.length z,.int .i64 most,.slice none 0 0,.string {data:=#[]}] 213)).alloc (.cells #[.int .i64 0] 214)).alloc (.cells #[.func (.func 167) #[] #[],.func (.func 168) #[] #[],.func (.func 169) #[] #[],.func (.func 168) #[] #[],.func (.func 170) #[] #[],.func (.func 168) #[] #[],.func (.func 171) #[] #[],.func (.func 172) #[] #[],.func (.func 173) #[] #[],.func (.func 172) #[] #[]] 220)) (w.heap.size+1+1+1) 220 [.func (.func 167) #[] #[],.func (.func 168) #[] #[],.func (.func 169) #[] #[],.func (.func 168) #[] #[],.func (.func 170) #[] #[],.func (.func 168) #[] #[],.func (.func 171) #[] #[],.func (.func 172) #[] #[],.func (.func 173) #[] #[],.func (.func 172) #[] #[]]:=by
  have:=Arr.new (((w.alloc (.cells #[.string a,.int .i64 o,.slice d l.length z] 50)).alloc (.cells #[.string a,.int .i64 o,.slice d l.length z,.int .i64 most,.slice none 0 0,.string {data:=#[]}] 213)).alloc (.cells #[.int .i64 0] 214)) 220 [.func (.func 167) #[] #[],.func (.func 168) #[] #[],.func (.func 169) #[] #[],.func (.func 168) #[] #[],.func (.func 170) #[] #[],.func (.func 168) #[] #[],.func (.func 171) #[] #[],.func (.func 172) #[] #[],.func (.func 173) #[] #[],.func (.func 172) #[] #[]]
  rwa[show(((w.alloc (.cells #[.string a,.int .i64 o,.slice d l.length z] 50)).alloc (.cells #[.string a,.int .i64 o,.slice d l.length z,.int .i64 most,.slice none 0 0,.string {data:=#[]}] 213)).alloc (.cells #[.int .i64 0] 214)).heap.size=w.heap.size+1+1+1 by simp] at this
 generalize ((((w.alloc (.cells #[.string a,.int .i64 o,.slice d l.length z] 50)).alloc (.cells #[.string a,.int .i64 o,.slice d l.length z,.int .i64 most,.slice none 0 0,.string {data:=#[]}] 213)).alloc (.cells #[.int .i64 0] 214)).alloc (.cells #[.func (.func 167) #[] #[],.func (.func 168) #[] #[],.func (.func 169) #[] #[],.func (.func 168) #[] #[],.func (.func 170) #[] #[],.func (.func 168) #[] #[],.func (.func 171) #[] #[],.func (.func 172) #[] #[],.func (.func 173) #[] #[],.func (.func 172) #[] #[]] 220))=wc at*
 have U:∀k,k<5->wc.cell? ⟨w.heap.size+1+1+1,k*2,none⟩=some (iR (.func (stF k)) #[] #[])/\wc.cell? ⟨w.heap.size+1+1+1,k*2+1,none⟩=some (iR (.func (stY k)) #[] #[]):=fun k M=>by
  match k,M with
  |0,_=>exact⟨hF.cell (i:=0) rfl,hF.cell (i:=1) rfl⟩
  |1,_=>exact⟨hF.cell (i:=2) rfl,hF.cell (i:=3) rfl⟩
  |2,_=>exact⟨hF.cell (i:=4) rfl,hF.cell (i:=5) rfl⟩
  |3,_=>exact⟨hF.cell (i:=6) rfl,hF.cell (i:=7) rfl⟩
  |4,_=>exact⟨hF.cell (i:=8) rfl,hF.cell (i:=9) rfl⟩
 have V:=L.lt;refine(aMs (w.heap.size+1) (w.heap.size+1+1+1) wc stF stY (stD a o l most) (stE a o l most) (stS w (w.heap.size+1) a o (.slice d l.length z) l most) U (by omega) V aNs aNt (a6.out wc (w.heap.size+1) F (by omega)) (aNq a o l most) (fun k W W' h hb=>aNr w _ a o _ l most k W W' h hb) ⟨_,_,L,by omega,by omega,by omega,by omega⟩).mono ?_;rintro e A ⟨H,a9⟩;have I:Below w.heap.size w A:=F.grown H F.size (fun q e=>by injection e with e;omega);have Y:A.cell? ⟨w.heap.size+1+1,0,none⟩=some (.int .i64 0):=H.cell (G.cell (i:=0) rfl) (by simp)
 have Z:A.frozen? ⟨w.heap.size+1+1,0,none⟩=false:=by rw[World.frozen?_of_block (H.block _ G.lt (by simp))];exact G.free 0
 have b0:iF A:=hE.below I;clear T F L G hF U V H;rcases a9 with⟨k,M,a0,E,rfl⟩|⟨E,hS,rfl⟩
 ·have J:=hid (aNn M a0 E);obtain⟨x,hx⟩:∃x,x=stE a o l most k:=⟨_,rfl⟩;rw[<-hx] at J ⊢;clear a0 E hx;have HA:=hid (aNm k x ⟨w.heap.size+1+1,0,none⟩ (.int .i64 0) A b0 Y Z);clear Y Z;go_wp2_with fail;refine HA.out.mono ?_;rintro e w2 ⟨rfl,b1,b6⟩;have b2:Below w.heap.size w w2:=I.grown b1 I.size (fun q e=>by injection e with e;omega);go_wp2_with fail
  go_quiet (fail)
  go_wp2_with fail
  go_ret2
  rw[J.out];exact⟨rfl,iI b2 _⟩
 ·have J:=hid (aNo E);obtain⟨lv,b,b3,_,_,_,a1⟩:=hS;obtain rfl:=a1 rfl;have d5:=b3.cell (i:=5) rfl;clear E a1;go_wp2_with (go_at_call 174;refine(aNk _ _).mono ?_;rintro e w2 ⟨rfl,rfl⟩)
  go_ret2
  rw[J.out];exact⟨rfl,I⟩
end
end Go.Proofs.YtiifmcicleljjaaGreatDoor
