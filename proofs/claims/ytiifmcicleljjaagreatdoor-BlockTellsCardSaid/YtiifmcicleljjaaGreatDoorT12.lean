/- The walks and the plain laws, part 12. -/
import Derived.Sort.BigQuietIn
import Derived.Sort.LoopGhostIn
import Derived.Sort.QuietIn
import Derived.Sort.CutIn
import Derived.Test.YtiifmcicleljjaaGreatDoorT9
set_option maxRecDepth 100000
set_option maxHeartbeats 12800000
set_option linter.unusedVariables false
open Array renaming getElem?_eq_some_iff->gQ,replicate_succ->lL,replicate_zero->lM
open Bool renaming noConfusion->tQ
open Go renaming CallsIn->mD,callsIn_of_wp->tW,callsIn_of_wp_marks->xX,heap_setCell_other->kT,ownFrom_below->GT,run_takeDeferred->sJ
open Go.Addr renaming add->iN
open Go.Fence renaming wide->eA
open Go.IntKind renaming i64->aI,wrap_i64->aM
open Go.KeepsOthers renaming drew->aC3,setCell->iH
open Go.Lib renaming OthersKept->GY,byteCells->nS
open Go.OwnFrom renaming and->GS
open Go.RowKit.Below renaming refl->aB
open Go.Value renaming int->bO
open Go.Value.slice renaming injEq->aCd
open Go.World renaming size_alloc->fV
open Int renaming toNat_natCast->eG
open List renaming append_assoc->cF,append_nil->eE,append_toArray->lO,cons_append->gE,drop_zero->AP,flatMap_append->pZ,flatMap_singleton->AN,getD_eq_getElem?_getD->aV,getElem?_append_left->gS,getElem?_concat_length->AQ,getElem?_eq_getElem->aN,getElem?_eq_some_iff->eU,getElem?_map->dY,length_append->aL,length_cons->cR,length_drop->cI,length_eq_zero_iff->mV,length_map->bJ,length_nil->cX,length_take->aX,map_append->fI,mem_append->cU,mem_cons->kD,mem_of_getElem?->cH,mem_singleton->dC,nil_append->iG,push_toArray->lN,replicate->bB,size_toArray->mY,take_add_one->cQ,take_of_length_le->cS
open Nat renaming le_refl->aA,min_eq_left->gU,reduceAdd->lZ,reduceSub->mZ,sub_zero->AF,zero_le->aU
open Option.some renaming inj->bW
open UInt8 renaming ofNat->eK
namespace Go.Proofs.YtiifmcicleljjaaGreatDoor
section
open Go.RowKit Go Go.Shelf
theorem aH6 (v:Value) (l:List Int) (w:World) (E:RdI w v l) (d:∀x∈l,0<=x/\x<=1048576):
  Calls Tryz.prog 158 #[v] w fun e w'=>e=.returned (.bool true)/\w'=w:=by
 obtain⟨a,T,rfl,U,H,F⟩:=E.open;unfold maxLen at H;have I:=hid d;clear d E;go_enter Tryz.func158,Tryz.ntmps158;go_wp2_with fail
 go_loopg [3] l.length (fun g J wr=>∃k:Nat,k<=l.length/\g=l.length-k/\J=.int .i64 (k:Int)/\wr=w)
 case atStart=>exact⟨0,aU _,rfl,rfl,rfl⟩
 case round=>
  obtain⟨k,V,z,rfl,rfl⟩:=hrel;have L:=hid z;clear z
  by_cases M:k<l.length
  ·have O:decide ((k:Int)<(l.length:Int))=true:=decide_eq_true (by omega);obtain⟨b,off,rfl,d,G⟩:=F (by omega);obtain⟨x,A⟩:=dH M;have Y:=G k x A;have Z:=I.out x (cH A);have v1:decide (x<0)=false:=decide_eq_false (by omega);have v2:decide (x>1048576)=false:=decide_eq_false (by omega);have v3:decide (1048576<x)=false:=decide_eq_false (by omega);clear G F A;go_wp2_with fail;have z:=L.out
   go_roundg (l.length-(k+1))
   case measure=>omega
   case rel=>exact⟨k+1,by omega,rfl,by go_num,rfl⟩
  ·have O:decide ((k:Int)<(l.length:Int))=false:=decide_eq_false (by omega);go_wp2_with fail;go_ret;exact⟨rfl,rfl⟩
theorem aH7 (v:Value) (l:List Int) (w:World) (F:RdI w v l) (z:∀x∈l,x<=20):
  Calls Tryz.prog 160 #[v] w fun e w'=>∃d:Int,e=.returned (.int .i64 d)/\d<=20/\w'=w:=by
 obtain⟨a,ca,rfl,a1,I,G⟩:=F.open;unfold maxLen at I;have J:=hid z;clear z F;go_enter Tryz.func160,Tryz.ntmps160;go_wp2_with fail
 go_loopg [3,4] l.length (fun g L O wr=>∃(k:Nat) (d:Int),k<=l.length/\g=l.length-k/\O=.int .i64 (k:Int)/\L=.int .i64 d/\d<=20/\wr=w)
 case atStart=>exact⟨0,0,aU _,rfl,rfl,rfl,by omega,rfl⟩
 case round=>
  obtain⟨k,d,hk,A,rfl,rfl,T,rfl⟩:=hrel;have U:=hid A;clear A
  by_cases V:k<l.length
  ·have Y:decide ((k:Int)<(l.length:Int))=true:=decide_eq_true (by omega);obtain⟨b,off,rfl,z,H⟩:=G (by omega);obtain⟨x,E⟩:=dH V;have c1:=H k x E;have a2:=J.out x (cH E);obtain⟨M,Z⟩:∃M,max d x=M:=⟨_,rfl⟩;have a3:(if d<x then x else d)=M:=by rw[<-Z];split<;>omega
   have a0:M<=20:=by omega
   clear H G E;go_wp2_with fail;have A:=U.out
   go_roundg (l.length-(k+1))
   case measure=>omega
   case rel=>exact⟨k+1,M,by omega,rfl,by go_num,rfl,a0,rfl⟩
  ·have Y:decide ((k:Int)<(l.length:Int))=false:=decide_eq_false (by omega);go_wp2_with fail;go_ret;exact⟨d,rfl,T,rfl⟩
theorem aH8 (v:Value) (l:List Int) (w:World) (F:RdI w v l) (h2:2<=l.length) (a1:l.length<=258) (A:∀x∈l,0<=x/\x<=20000) (I:l.sum<=20000):
  Calls Tryz.prog 102 #[v,.int .i64 20] w fun e w'=>∃L,e=.returned (.tuple #[L,.int .i64 0])/\OwI w' w.heap.size L (nJ l)/\Below w.heap.size w w':=by
 have a2:=hid (KE h2 a1 (fun x z=>(A x z).1) I);have a3:=hid (DD l (fun x z=>(A x z).1));have HS:=hid I;have b1:=F;obtain⟨a,ca,rfl,b2,a4,O⟩:=F.open;unfold maxLen at a4;obtain⟨b,off,rfl,hb,T⟩:=O (by omega);have HC:=hid T;have HB:=hid A;have t1:decide ((l.length:Int)<2)=false:=decide_eq_false (by omega);have t2:decide ((l.length:Int)>258)=false:=decide_eq_false (by omega);have t3:decide (258<(l.length:Int))=false:=decide_eq_false (by omega);have a5:=aH6 _ l w F (fun x z=>by have:=A x z;omega);clear O T F I A;go_enter Tryz.func102,Tryz.ntmps102;go_wp2_with fail
 refine a5.mono ?_;rintro e w' ⟨rfl,rfl⟩;go_wp2_with fail
 go_loopg [7,8] l.length (fun g s7 s8 wr=>∃(k:Nat) (v7:Value),k<=l.length/\g=l.length-k/\v7=s7/\s8=.int .i64 (k:Int)/\OwI wr w'.heap.size v7 ((l.take k).map (fun x=>max x 1))/\Below w'.heap.size w' wr)
 case atStart=>exact⟨0,_,aU _,rfl,rfl,rfl,OwI.nil _ _,aB _ _⟩
 case round=>
  obtain⟨k,v7,hk,J,rfl,rfl,G,E⟩:=hrel;have HG:=hid J;clear J;have U:=E.size;have b3:((l.take k).map (fun x=>max x 1)).length=k:=by rw[bJ,aX];omega
  by_cases a6:k<l.length
  ·have u1:decide ((k:Int)<(l.length:Int))=true:=decide_eq_true (by omega);obtain⟨x,z⟩:=dH a6;have c1:=(E.cell (p:=⟨b,off+k,none⟩) hb).trans (HC.out k x z);obtain⟨M,V⟩:∃M,max x 1=M:=⟨_,rfl⟩;have b4:(if x<1 then 1 else x)=M:=by rw[<-V];split<;>omega
   have HT:=hid (show(l.take (k+1)).map (fun x=>max x 1)=(l.take k).map (fun x=>max x 1)++[M] by rw[cQ,z,fI,<-V];rfl);clear z;go_wp2_with (at_builtin;refine eN rfl _ _ rfl w'.heap.size _ _ rfl (OwI.alloc G _) _ M rfl (bS _ _ _) ?_ ?_ ?_;(omega);(simp;omega);intro v4 w4 r1 r2 r3);have J:=HG.out
   go_roundg (l.length-(k+1))
   case measure=>omega
   case rel=>exact⟨k+1,_,by omega,rfl,rfl,by go_num,by rw[HT.out];exact r1,(E.alloc U _).trans r2⟩
  ·have u1:decide ((k:Int)<(l.length:Int))=false:=decide_eq_false (by omega);rw[cS (by omega)] at G;have Y:=aHr v7 (l.map (fun x=>max x 1)) wr (OwI.rd G) (by rw[bJ];omega) (by rw[bJ];omega) (fun x z=>by
    obtain⟨y,_,rfl⟩:=List.mem_map.1 z;omega) (by have:=a3.out;have:=HS.out;omega)
   go_wp2_with fail;refine Y.mono ?_;rintro e Z ⟨v9,rfl,H,a0⟩;have a7:kL (l.map (fun x=>max x 1))=nJ l:=rfl;rw[a7] at H;have a8:=bV E a0;have a9:=Ow.base H U;have b0:=aH7 v9 (nJ l) Z (OwI.rd H) (fun x z=>(a2.out.1.2.2 x z).2);clear G Y E a0 H;go_wp2_with fail
   go_loopg [7,9,10,11] 0 (fun g _s7 s9 _s10 _s11 wx=>g=0/\s9=v9/\wx=Z)
   case atStart=>exact⟨rfl,rfl,rfl⟩
   case round=>
    obtain⟨_,rfl,rfl⟩:=hrel;go_wp2_with fail;refine b0.mono ?_;rintro e w6 ⟨d,rfl,hd,rfl⟩;have v1:decide (d>20)=false:=decide_eq_false (by omega);have v2:decide (20<d)=false:=decide_eq_false (by omega);go_wp2_with fail
    go_ret2
    exact⟨_,rfl,a9,a8⟩
def LOK (w:World) (xs:List Value) (gs:List (List Int)):Prop:=xs.length=gs.length/\∀(j:Nat) (x:Value) (g:List Int),xs[j]? =some x->gs[j]? =some g->RdI w x g
theorem LOK.nil (w:World):LOK w [] []:=⟨rfl,fun j x g h=>by simp at h⟩
theorem LOK.below {w w':World} {xs:List Value} {gs:List (List Int)} (h:LOK w xs gs) (d:Below w.heap.size w w'):LOK w' xs gs:=⟨h.1,fun j x g z A=>(h.2 j x g z A).below d⟩
theorem LOK.snoc {w:World} {xs:List Value} {gs:List (List Int)} (h:LOK w xs gs) {x:Value} {g:List Int} (E:RdI w x g):LOK w (xs++[x]) (gs++[g]):=by
 refine⟨by rw[aL,aL,h.1];rfl,fun j F G d z=>?_⟩
 by_cases A:j<xs.length
 ·rw[gS A] at d;rw[gS (by rw[<-h.1];exact A)] at z;exact h.2 j F G d z
 ·have H:=(eU.1 d).1;rw[aL,List.length_singleton] at H;obtain rfl:j=xs.length:=by omega
  rw[AQ] at d;rw[h.1,AQ] at z;obtain rfl:=bW d;obtain rfl:=bW z;exact E
def RdL (w:World) (v:Value) (gs:List (List Int)):Prop:=∃xs,Rd w v gs.length xs/\LOK w xs gs
theorem RdL.below {w w':World} {v:Value} {gs:List (List Int)} (h:RdL w v gs) (d:Below w.heap.size w w'):RdL w' v gs:=by
 obtain⟨xs,z,A⟩:=h;exact⟨xs,z.below d,A.below d⟩
theorem RdL.open {w:World} {v:Value} {gs:List (List Int)} (h:RdL w v gs):∃a cap,v=.slice a gs.length cap/\gs.length<=cap/\cap<=maxLen/\
  (0<gs.length->∃b off,a=some ⟨b,off,none⟩/\b<w.heap.size/\∀(j:Nat) (g:List Int),gs[j]? =some g->∃x,w.cell? ⟨b,off+j,none⟩=some x/\RdI w x g):=by
 obtain⟨xs,⟨a,cap,rfl,A,E,F⟩,G,H⟩:=h;refine⟨a,cap,rfl,A,E,fun L=>?_⟩;rcases F with rfl|⟨b,off,rfl,I,J⟩
 ·simp only[cX] at G;omega
 ·refine⟨b,off,rfl,I,fun j g d=>?_⟩;have M:=(eU.1 d).1;have z:xs[j]? =some xs[j]:=aN (by omega);refine⟨xs[j],?_,H j _ g z d⟩;rw[J j (by omega),aV,z];rfl
theorem wK:ElT Tryz.prog 63 27 24 (.slice none 0 0):=ElT.mk' (by kernel_rfl) Tryz.underlying63 rfl (by decide)
theorem Ow.rdL {w:World} {B:Nat} {v:Value} {xs:List Value} {gs:List (List Int)} (h:Ow w B 27 v xs) (d:LOK w xs gs):RdL w v gs:=⟨xs,by rw[<-d.1];exact h.rd,d⟩
theorem aH9 {m:List Int} {k:Nat} (h:10*k<m.length):(cK m)[k]? =some ((m.drop (10*k)).take 10):=wH m k (by omega)
theorem aIa {m:List Int} {k:Nat} (h:10*k<m.length):(cK m).take (k+1)=(cK m).take k++[(m.drop (10*k)).take 10]:=by rw[cQ,aH9 h];rfl
theorem aIb {w:World} {b off cap:Nat} {m:List Int} (A:b<w.heap.size) (E:∀j x,m[j]? =some x->w.cell? ⟨b,off+j,none⟩=some (.int .i64 x)) (G:m.length<=cap) (H:cap<=maxLen) (i h:Nat) (hi:i<=m.length) (I:h=min (i+10) m.length):
  RdI w (.slice (some ⟨b,off+i,none⟩) (h-i) (cap-i)) ((m.drop i).take 10):=by
 have d:((m.drop i).take 10).length=h-i:=by rw[aX,cI];omega
 refine⟨_,cap-i,by rw[d],by rw[d];omega,by omega,.inr ⟨b,off+i,rfl,A,fun j F=>?_⟩⟩;rw[bJ,d] at F;have z:m[i+j]? =some m[i+j]:=aN (by omega);rw[Nat.add_assoc,E _ _ z,aV,dY,List.getElem?_take_of_lt (by omega),List.getElem?_drop,z];rfl
theorem aIc {w:World} {a:Option Addr} {n c:Nat} {l:List Int} (h:RdI w (.slice a n c) l):∀b off,a=some ⟨b,off,none⟩->0<l.length->b<w.heap.size/\∀j x,l[j]? =some x->w.cell? ⟨b,off+j,none⟩=some (.int .i64 x):=fun b off e A=>by
 obtain⟨H,I,d,_,_,E⟩:=h.open;obtain⟨J,L,z,F,G⟩:=E A;rw[aCd] at d;obtain⟨rfl,_,_⟩:=d;rw[e] at z
 cases z
 exact⟨F,G⟩
theorem Ow.cellAt {w:World} {B e b off n c:Nat} {xs:List Value} (h:Ow w B e (.slice (some ⟨b,off,none⟩) n c) xs) {j:Nat} {x:Value} (d:xs[j]? =some x):w.cell? ⟨b,off+j,none⟩=some x:=by
 obtain⟨G,h⟩:=h;rcases h with⟨z,_⟩|⟨g,cap,A,z,H,E,I,J,L,F⟩
 ·cases z
 ·cases z
  have M:=(eU.1 d).1;rw[Nat.zero_add,cell_of_row w _ j A e (0,0) E];rw[<-F,List.getElem?_take,if_pos (by omega)] at d
  simpa using d
theorem Ow.openN {w:World} {B e:Nat} {v:Value} {xs:List Value} (h:Ow w B e v xs) (d:0<xs.length):∃b off c,v=.slice (some ⟨b,off,none⟩) xs.length c:=by
 rcases h.2 with⟨rfl,e⟩|⟨g,cap,z,rfl,_⟩
 ·omega
 ·exact⟨g,0,cap,rfl⟩
theorem TB (v:Value) (m:List Int) (w w0:World) (G:RdI w v m) (H:RdI w0 v m) (hm:m.length<=1000000):
  Calls Tryz.prog 47 #[v] w fun e w'=>∃I xs,e=.returned I/\Ow w' w.heap.size 27 I xs/\LOK w0 xs (cK m)/\Below w.heap.size w w':=by
 obtain⟨a,d,rfl,a0,J,L⟩:=G.open;have M:=aIc H;have a1:=hid J;unfold maxLen at J;clear G H;go_enter Tryz.func47,Tryz.ntmps47;go_wp2_with fail
 go_loopg [3,4] ((m.length+9)/10) (fun g s3 s4 wr=>∃(k:Nat) (v3:Value) (xs:List Value),k<=(m.length+9)/10/\g=(m.length+9)/10-k/\v3=s3/\s4=.int .i64 ((10*k:Nat):Int)/\Ow wr w.heap.size 27 v3 xs/\LOK w0 xs ((cK m).take k)/\Below w.heap.size w wr)
 case atStart=>exact⟨0,_,[],aU _,rfl,rfl,rfl,Ow.nil _ _ _,LOK.nil _,aB _ _⟩
 case round=>
  obtain⟨k,v3,xs,hk,A,rfl,rfl,O,z,E⟩:=hrel;have HG:=hid A;clear A;have a2:=E.size;have a4:xs.length=k:=by rw[z.1,aX,iD];omega
  obtain⟨i,hi⟩:∃i,10*k=i:=⟨_,rfl⟩;rw[hi];have T:=hid hi;clear hi
  by_cases a5:i<m.length
  ·have u1:decide ((i:Int)<(m.length:Int))=true:=decide_eq_true (by omega);obtain⟨b,off,rfl,hb,hc⟩:=L (by omega);obtain⟨U,V⟩:=M b off rfl (by omega);obtain⟨h,F⟩:∃h,h=min (i+10) m.length:=⟨_,rfl⟩;have m1:aI.wrap ((i:Int)+10)=(i:Int)+10:=by rw[aM];omega
   have m2:min ((i:Int)+10) (m.length:Int)=(h:Int):=by omega
   have m3:(if(m.length:Int)<(i:Int)+10 then(m.length:Int) else(i:Int)+10)=(h:Int):=by split<;>omega
   have m4:(if(i:Int)+10<(m.length:Int) then(i:Int)+10 else(m.length:Int))=(h:Int):=by split<;>omega
   have a6:∀W,(Instr.sliceAt 27 (.slice (some ⟨b,off,none⟩) m.length d) (some (.int .i64 (i:Int))) (some (.int .i64 (h:Int))) none).run Tryz.prog W=.ok (.slice (some ⟨b,off+i,none⟩) (h-i) (d-i)) W:=fun W=>by
    have k1:(0:Int)<=(i:Int):=by omega
    have k2:(i:Int)<=(h:Int):=by omega
    have Y:(h:Int)<=(d:Int):=by omega
    have Z:¬d=i:=by omega
    by_cases h0:i=0
    ·subst h0;simp[go_sem,Y,Z,iN]
    ·simp[go_sem,k2,Y,Z,iN,h0]
   have HP:=hid (aIb U V a0 a1.out i h (by omega) F);have a3:(xs.length+1)*24<=140737488355328:=by omega
   clear hc L V U M hb;have HH:=hid F;clear F;go_wp2_with (at_builtin;refine rD wK rfl _ _ rfl w.heap.size _ xs rfl (Ow.alloc O _) wr.heap.size (.slice (some ⟨b,off+i,none⟩) (h-i) (d-i)) rfl (bS _ _ _) rfl ?_ ?_ ?_;(exact a3);(simp;omega);intro v4 w4 r1 r2 r3);have A:=HG.out;have hi:=T.out
   go_roundg ((m.length+9)/10-(k+1))
   case measure=>omega
   case rel=>
    refine⟨k+1,_,_,by omega,rfl,rfl,?_,r1,?_,(E.alloc a2 _).trans r2⟩
    ·rw[<-hi];go_num
    ·rw[aIa (by omega),hi];exact z.snoc HP.out
  ·have u1:decide ((i:Int)<(m.length:Int))=false:=decide_eq_false (by omega);have hi:=T.out;rw[cS (by rw[iD];omega)] at z;clear hi;go_wp2_with fail;go_ret;exact⟨_,_,rfl,O,z,E⟩
theorem aId (v:Value) (m:List Int) (w:World) (z:RdI w v m) (E:m.length<=1000000):
  Calls Tryz.prog 47 #[v] w fun e w'=>∃d,e=.returned d/\RdL w' d (cK m)/\Below w.heap.size w w':=
 (TB v m w w z z E).mono fun _ _ ⟨d,_,F,G,H,A⟩=>⟨d,F,G.rdL (H.below A),A⟩
theorem TF (v:Value) (l:List Int) (n:Nat) (w:World) (E:RdI w v l) (d:∀x∈l,0<=x/\x<(n:Int)):
  Calls Tryz.prog 101 #[v,.int .i64 (n:Int)] w fun e w'=>e=.returned (.bool false)/\w'=w:=by
 obtain⟨a,T,rfl,U,H,F⟩:=E.open;unfold maxLen at H;have I:=hid d;clear d E;go_enter Tryz.func101,Tryz.ntmps101;go_wp2_with fail
 go_loopg [5] l.length (fun g J wr=>∃k:Nat,k<=l.length/\g=l.length-k/\J=.int .i64 (k:Int)/\wr=w)
 case atStart=>exact⟨0,aU _,rfl,rfl,rfl⟩
 case round=>
  obtain⟨k,V,z,rfl,rfl⟩:=hrel;have L:=hid z;clear z
  by_cases M:k<l.length
  ·have O:decide ((k:Int)<(l.length:Int))=true:=decide_eq_true (by omega);obtain⟨b,off,rfl,d,G⟩:=F (by omega);obtain⟨x,A⟩:=dH M;have Y:=G k x A;have Z:=I.out x (cH A);have v1:decide (x<0)=false:=decide_eq_false (by omega);have v2:decide (x>=(n:Int))=false:=decide_eq_false (by omega);have v3:decide ((n:Int)<=x)=false:=decide_eq_false (by omega);clear G F A;go_wp2_with fail;have z:=L.out
   go_roundg (l.length-(k+1))
   case measure=>omega
   case rel=>exact⟨k+1,by omega,rfl,by go_num,rfl⟩
  ·have O:decide ((k:Int)<(l.length:Int))=false:=decide_eq_false (by omega);go_wp2_with fail;go_ret;exact⟨rfl,rfl⟩
theorem TC {l g:List Int} (h:bL l=0) (d:∀x∈g,0<=x/\x<(l.length:Int)):nI l g=lT l g:=by
 unfold nI;rw[if_pos];unfold SE;rw[if_neg (fun k=>k h),aHm d];rfl
theorem TD {l g:List Int} {k:Nat} {x:Int} (h:g[k]? =some x):lT l (g.take (k+1))=lT l (g.take k)+l.getD x.toNat 0:=by
 rw[cQ,h];exact SF _ _ _
theorem TG (v u:Value) (l g:List Int) (w:World) (L:RdI w v l) (M:RdI w u g) (F:bL l=0) (d:∀x∈g,0<=x/\x<(l.length:Int)) (b4:g.length<=1000):
  Calls Tryz.prog 104 #[v,u] w fun e w'=>e=.returned (.tuple #[.int .i64 (nI l g),.int .i64 0])/\Below w.heap.size w w':=by
 rw[TC F d];have G:=(eH F).1;have A:=DH v l w L;rw[F] at A;have A:=A.mono (fun e w' (h:e=.returned (.int .i64 0)/\w'=w)=>(⟨h.1,by rw[h.2];exact aB _ _⟩:e=.returned (.int .i64 0)/\Below w.heap.size w w'));have a6:=hid (fun k=>SG G.2.2 (g.take k));have HX:=hid d;have V:=hid (fun(x:Int) (h:0<=x/\x<(l.length:Int))=>show l[x.toNat]? =some (l.getD x.toNat 0) by
  rw[aV,aN (show x.toNat<l.length by omega)];rfl)
 have Y:=fun W (h:RdI W u g)=>TF u g l.length W h d
 have b5:=G.1;have a7:=hid (fun(x:Int) (h:0<=x/\x<(l.length:Int))=>G.2.2 (l.getD x.toNat 0) (cH (V.out x h)));obtain⟨a,ca,rfl,b6,a8,Z⟩:=L.open;unfold maxLen at a8;obtain⟨b,off,rfl,hb,hc⟩:=Z (by omega);obtain⟨a2,c2,rfl,b7,a9,a0⟩:=M.open;unfold maxLen at a9;clear L Z G d F;go_enter Tryz.func104,Tryz.ntmps104;go_wp2_with fail;refine A.mono ?_;rintro e w1 ⟨rfl,H⟩;have a1:=M.below H;have HC:=hid (fun j x (z:l[j]? =some x)=>((lP H).1 b (off+j) hb).trans (hc j x z))
 have b0:=hid (fun E I (h:E<w.heap.size) (h2:∀j x,g[j]? =some x->w.cell? ⟨E,I+j,none⟩=some (.int .i64 x)) j x (z:g[j]? =some x)=>((lP H).1 E (I+j) h).trans (h2 j x z));clear A hc;go_wp2_with fail;refine(Y _ a1).mono ?_;rintro e w2 ⟨rfl,rfl⟩;clear Y M a1;go_wp2_with fail
 go_loopg [7,8] g.length (fun gg s7 s8 wr=>∃k:Nat,k<=g.length/\gg=g.length-k/\s8=.int .i64 (k:Int)/\s7=.int .i64 (lT l (g.take k))/\wr=w2)
 case atStart=>exact⟨0,aU _,rfl,rfl,rfl,rfl⟩
 case round=>
  obtain⟨k,hk,d,rfl,rfl,rfl⟩:=hrel;have HG:=hid d;clear d;have a3:=a6.out k;rw[aX,gU hk] at a3
  by_cases b1:k<g.length
  ·have u1:decide ((k:Int)<(g.length:Int))=true:=decide_eq_true (by omega);obtain⟨E,I,rfl,b3,a4⟩:=a0 (by omega);obtain⟨x,z⟩:=dH b1;have c1:=b0.out E I b3 a4 k x z;have J:=HX.out x (cH z);have O:=V.out x J;have a5:=a7.out x J;have HT:=hid (TD (l:=l) z);obtain⟨X,rfl⟩:∃X:Nat,x=(X:Int):=⟨x.toNat,by omega⟩;rw[eG] at O a5 HT;have c2:=HC.out X _ O;obtain⟨S,T⟩:∃S,S=lT l (g.take k):=⟨_,rfl⟩;obtain⟨D,U⟩:∃D,D=l.getD X 0:=⟨_,rfl⟩;rw[<-T,<-U] at HT;rw[<-T] at a3 ⊢;rw[<-U] at a5 c2;have m1:aI.wrap (S+D)=S+D:=by rw[aM];omega
   have v1:(X:Int)<(l.length:Int):=J.2;have v2:X<l.length:=by omega
   clear z O a4 a0 T U J;go_wp2_with fail;have d:=HG.out
   go_roundg (g.length-(k+1))
   case measure=>omega
   case rel=>exact⟨k+1,by omega,rfl,by go_num,by rw[HT.out],rfl⟩
  ·have u1:decide ((k:Int)<(g.length:Int))=false:=decide_eq_false (by omega);rw[cS (by omega)];go_wp2_with fail
   go_ret2
   exact⟨rfl,H⟩
theorem TE {m:List Int} {n wh k:Nat} {x:Int} (h:m[k]? =some x):dJ m n wh (k+1)=if k/10%2=wh then(dJ m n wh k).set x.toNat ((dJ m n wh k).getD x.toNat 0+1) else dJ m n wh k:=by
 have e:m.getD k 0=x:=by rw[aV,h];rfl
 show(if k/10%2=wh then(dJ m n wh k).set (m.getD k 0).toNat ((dJ m n wh k).getD (m.getD k 0).toNat 0+1) else dJ m n wh k)=_;rw[e]
theorem aIg (v:Value) (m:List Int) (n wh:Nat) (w:World) (Y:RdI w v m) (hm:m.length<=1000000) (hn:n<=1000) (hw:wh<=1) (E:∀x∈m,0<=x/\x<(n:Int)):
  Calls Tryz.prog 103 #[v,.int .i64 (n:Int),.int .i64 (wh:Int)] w fun e w'=>∃Z,e=.returned Z/\OwI w' w.heap.size Z (iK m n wh)/\Below w.heap.size w w':=by
 have HX:=hid E;have a4:=hid (fun k hk=>(wI m n wh E k hk).2.2);have a0:=hid (rP m n wh);obtain⟨a,ca,rfl,b0,a5,O⟩:=Y.open;unfold maxLen at a5;have a1:bB n (bO .i64 0)=(dJ m n wh 0).map (bO .i64):=by show _=(bB n (0:Int)).map _;rw[List.map_replicate]
 clear Y E;go_enter Tryz.func103,Tryz.ntmps103;go_wp2_with (at_make;refine mkA gL rfl _ _ rfl n rfl rfl ?_ ?_;omega);have z:=Arr.made w 3 (.int .i64 0) n;rw[a1] at z;have hB:=bD (aB w.heap.size w) (.cells (fB (.int .i64 0) n) 3);change Arr (w.alloc (.cells (fB (.int .i64 0) n) 3)) _ _ _ at z;generalize w.alloc (.cells (fB (.int .i64 0) n) 3)=w1 at*
 clear a1
 go_loopg [8] m.length (fun g s8 wr=>∃k:Nat,k<=m.length/\g=m.length-k/\s8=.int .i64 (k:Int)/\Arr wr w.heap.size 3 ((dJ m n wh k).map (bO .i64))/\Below w.heap.size w wr)
 case atStart=>exact⟨0,aU _,rfl,rfl,z,hB⟩
 case round=>
  clear z hB;obtain⟨k,hk,G,rfl,z,H⟩:=hrel;have HG:=hid G;clear G
  by_cases a6:k<m.length
  ·have u1:decide ((k:Int)<(m.length:Int))=true:=decide_eq_true (by omega);obtain⟨b,off,rfl,hb,T⟩:=O (by omega);obtain⟨x,E⟩:=dH a6;have c1:=(H.cell (p:=⟨b,off+k,none⟩) hb).trans (T k x E);have U:=HX.out x (cH E);have A:=TE (n:=n) (wh:=wh) E;obtain⟨X,rfl⟩:∃X:Nat,x=(X:Int):=⟨x.toNat,by omega⟩;rw[eG] at A;obtain⟨q,I⟩:∃q,q=k/10:=⟨_,rfl⟩;obtain⟨p,J⟩:∃p,p=q%2:=⟨_,rfl⟩;have m1:(k:Int).tdiv 10=(q:Int):=by rw[I];exact Int.ofNat_tdiv k 10
   have m2:(q:Int).tmod 2=(p:Int):=by rw[J];exact Int.ofNat_tmod q 2
   have m3:aI.wrap (q:Int)=(q:Int):=by rw[aM];omega
   have m4:(k:Int)/10=(q:Int):=by omega
   have m5:(q:Int)%2=(p:Int):=by omega
   rw[<-I,<-J] at A
   by_cases F:p=wh
   ·rw[if_pos F] at A;have u2:((p:Int)==(wh:Int))=true:=by rw[beq_iff_eq,F]
    have a2:=a0.out k;obtain⟨D,L⟩:∃D,D=dJ m n wh k:=⟨_,rfl⟩;have M:D[X]? =some (D.getD X 0):=by rw[aV,aN (by rw[L,a2];omega)];rfl
    have a7:=a4.out k (by omega) (D.getD X 0) (by rw[<-L];exact cH M);rw[<-L] at A z;obtain⟨d,hd⟩:∃d,d=D.getD X 0:=⟨_,rfl⟩;rw[<-hd] at A M a7;have c2:=z.cell (i:=X) (v:=.int .i64 d) (by rw[dY,M];rfl);have f2:=z.free X;have m6:aI.wrap (d+1)=d+1:=by rw[aM];omega
    have v1:(X:Int)<(n:Int):=U.2;have V:=hid A;have a8:p<=1:=by omega
    clear A I J F E T O hd M a2 L U;go_wp2_with fail
    go_region
    all_goals go_wp2_with fail
    have G:=HG.out
    go_roundg (m.length-(k+1))
    case measure=>omega
    case rel=>
     refine⟨k+1,by omega,rfl,by go_num,?_,(H.setCell (p:=⟨w.heap.size,X,none⟩) (aA _) _).drew⟩;have:=z.set X (.int .i64 (d+1));rw[<-List.map_set,<-V.out] at this;exact this
   ·rw[if_neg F] at A;have u2:((p:Int)==(wh:Int))=false:=by rw[beq_eq_false_iff_ne];omega
    have V:=hid A;have a8:p<=1:=by omega
    clear A I J F E T O U;go_wp2_with fail;have G:=HG.out
    go_roundg (m.length-(k+1))
    case measure=>omega
    case rel=>exact⟨k+1,by omega,rfl,by go_num,by rw[V.out];exact z,H⟩
  ·have u1:decide ((k:Int)<(m.length:Int))=false:=decide_eq_false (by omega);have a9:k=m.length:=by omega
   subst a9;have a3:((dJ m n wh m.length).map (bO .i64)).length=n:=by rw[bJ,a0.out]
   have ho:=z.own (B:=w.heap.size) (aA _) (by rw[a3];simp only[maxLen];omega);rw[a3] at ho;go_wp2_with fail;go_ret;exact⟨_,rfl,ho,H⟩
theorem DK {m:List Int} {j:Nat} {g:List Int} (h:(cK m)[j]? =some g):(∀x∈g,x∈m)/\g.length<=10:=by
 have d:=(eU.1 h).1;rw[iD] at d;rw[wH m j d] at h;obtain rfl:=bW h;exact⟨fun x z=>List.mem_of_mem_drop (List.mem_of_mem_take z),by rw[aX];omega⟩
theorem tD {m:List Int} {n wh:Nat} (A:m.length<=20000) (h:∀x∈m,0<=x/\x<(n:Int)):(iK m n wh).length=n/\(iK m n wh).sum<=20000/\∀x∈iK m n wh,0<=x/\x<=20000:=by
 obtain⟨E,F,d⟩:=wI m n wh h m.length (aA _);unfold iK;exact⟨rP _ _ _ _,by omega,fun x z=>by have:=d x z;omega⟩
theorem LOK.two {w:World} {x y:Value} {a b:List Int} (d:RdI w x a) (z:RdI w y b):LOK w [x,y] [a,b]:=(LOK.nil w |>.snoc d).snoc z
def TH (w w':World) (m:List Int) (n:Nat) (e:Ending):Prop:=
 ∃v u,e=.returned (.tuple #[v,u,.int .i64 0])/\RdL w' v [dN m n 0,dN m n 1]/\OwI w' w.heap.size u (cT m n)/\Below w.heap.size w w'
theorem aIh (v:Value) (m:List Int) (n:Nat) (w:World) (L:RdI w v m) (i0:0<m.length) (E:m.length<=20000) (M:2<=n) (O:n<=258) (d:∀x∈m,0<=x/\x<(n:Int)):
  Calls Tryz.prog 39 #[v,.int .i64 (n:Int)] w fun e w'=>TH w w' m n e:=by
 have c0:=hid (tB (which:=0) M O d E);have c2:=hid (tB (which:=1) M O d E);have c3:=hid (rQ (which:=0) M O d E).2;have c4:=hid (rQ (which:=1) M O d E).2;have HX:=hid d;obtain⟨a,ca,rfl,i1,i2,hA⟩:=L.open;have t1:decide ((n:Int)<2)=false:=decide_eq_false (by omega);have t2:decide ((n:Int)>258)=false:=decide_eq_false (by omega);have t3:decide (258<(n:Int))=false:=decide_eq_false (by omega);have t4:((m.length:Int)==0)=false:=by rw[beq_eq_false_iff_ne];omega
 have t5:decide ((m.length:Int)>1048576)=false:=decide_eq_false (by omega);have t6:decide (1048576<(m.length:Int))=false:=decide_eq_false (by omega);have t7:(m.length==0)=false:=by rw[beq_eq_false_iff_ne];omega
 have c6:=TF _ m n w L d;have a7:=fun(wh:Nat) (hw:wh<=1) W h=>aIg (.slice a m.length ca) m n wh W h (by omega) (by omega) hw d
 have a8:=fun(wh:Nat) u W (h:RdI W u (iK m n wh))=>aH8 u (iK m n wh) W h (by rw[(tD E d).1];exact M) (by rw[(tD E d).1];exact O) (tD E d).2.2 (tD E d).2.1
 have c7:=a7 0 (by decide);have c8:=a7 1 (by decide);have c9:=fun W h=>aId (.slice a m.length ca) m W h (by omega)
 clear a7 hA d;go_enter Tryz.func39,Tryz.ntmps39;go_wp2_with fail;refine c6.mono ?_;rintro e w0 ⟨rfl,rfl⟩;go_wp2_with fail;refine(c7 _ L).mono ?_;rintro e w1 ⟨v1,rfl,d0,a9⟩;have d1:=L.below a9;go_wp2_with fail;refine(a8 0 v1 _ (OwI.rd d0)).mono ?_;rintro e w2 ⟨v2,rfl,d2,b0⟩;have b1:=d1.below b0;have b2:=bV a9 b0;have d3:=OwI.rd d2;have i3:w0.heap.size<=w2.heap.size:=b2.size;clear d1 d0 a9 b0 d2;go_wp2_with fail;refine(c8 _ b1).mono ?_;rintro e w3 ⟨v3,rfl,d4,Z⟩;have d5:=b1.below Z;have d6:=d3.below Z;have d7:=bV b2 Z;clear b1 d3 b2;go_wp2_with fail;refine(a8 1 v3 _ (OwI.rd d4)).mono ?_
 rintro e w4 ⟨v4,rfl,d8,a0⟩;have d9:=d5.below a0;have e0:=d6.below a0;have e1:=bV d7 a0;have e2:=OwI.rd d8;clear d5 d6 d7 d4 Z d8 a0;go_wp2_with fail;refine(c9 _ d9).mono ?_;rintro e T ⟨v5,rfl,e3,H⟩;have a1:=e0.below H;have a2:=e2.below H;have e4:=bV e1 H;rw[show nJ (iK m n 0)=dN m n 0 from rfl] at a1;rw[show nJ (iK m n 1)=dN m n 1 from rfl] at a2;obtain⟨A,a3⟩:∃A,A=dN m n 0:=⟨_,rfl⟩;obtain⟨C,a4⟩:∃C,C=dN m n 1:=⟨_,rfl⟩;rw[<-a3] at a1 c0 c3;rw[<-a4] at a2 c2 c4;obtain⟨a5,c5,rfl,e5,f9,a6⟩:=e3.open;unfold maxLen at f9;rw[iD] at e5 a6;rw[iD]
 obtain⟨G,hG⟩:∃G,G=(m.length+9)/10:=⟨_,rfl⟩;rw[<-hG] at e5 a6 ⊢;have HA:=hid a3;have HC:=hid a4;have e6:=hid hG;have i4:G<=2001:=by omega
 have g0:=hid (fun j g (h:(cK m)[j]? =some g)=>DK h);have e7:=fun(g:List Int) u W (h:RdI W u g) (hv:RdI W v2 A) (h1:∀x∈g,x∈m) (h3:g.length<=10)=>TG v2 u A g W hv h c0.out (by rw[c3.out];exact fun x d=>HX.out x (h1 x d)) (by omega)
 have e8:=fun(g:List Int) u W (h:RdI W u g) (hv:RdI W v4 C) (h1:∀x∈g,x∈m) (h3:g.length<=10)=>TG v4 u C g W hv h c2.out (by rw[c4.out];exact fun x d=>HX.out x (h1 x d)) (by omega)
 have g1:=hid e7;have g2:=hid e8;have g3:=hid (show cT m n=(cK m).map (nX A C) by unfold cT;rw[a3,a4]);clear c6 c7 c8 a8 c9 L d9 e0 e2 e1 H e3 e7 e8 a3 a4 hG;go_wp2_with fail
 go_loopg [12,13,14,15,16,17] G (fun g g4 g5 _s14 _s15 _s16 _s17 wr=>∃(k:Nat) (u:Value),k<=G/\g=G-k/\u=g4/\g5=.int .i64 (k:Int)/\OwI wr T.heap.size u (((cK m).take k).map (nX A C))/\Below T.heap.size T wr)
 case atStart=>exact⟨0,_,aU _,rfl,rfl,rfl,OwI.nil _ _,aB _ _⟩
 case round=>
  obtain⟨k,u,hk,z,rfl,rfl,ho,F⟩:=hrel;have HG:=hid z;clear z;have i5:=F.size;have i6:(((cK m).take k).map (nX A C)).length<=3000:=by rw[bJ,aX];omega
  by_cases g6:k<G
  ·have u1:decide ((k:Int)<(G:Int))=true:=decide_eq_true (by omega);obtain⟨b5,o5,rfl,H,e9⟩:=a6 (by omega);obtain⟨g,z⟩:∃g,(cK m)[k]? =some g:=⟨_,aN (by rw[iD,<-e6.out];exact g6)⟩;obtain⟨x,f0,f1⟩:=e9 k g z;have c1:=(F.cell (p:=⟨b5,o5+k,none⟩) H).trans f0;have b3:=f1.below F;have f2:=a1.below F;obtain⟨q1,q2⟩:=g0.out k g z;have b4:=g1.out g x wr b3 f2 q1 q2;have HT:=hid (show((cK m).take (k+1)).map (nX A C)=((cK m).take k).map (nX A C)++[if nI C g<nI A g then 1 else 0] by rw[cQ,z,fI];rfl);have HQ:=hid q1
   obtain⟨U,f3⟩:∃U,U=nI A g:=⟨_,rfl⟩;obtain⟨V,b6⟩:∃V,V=nI C g:=⟨_,rfl⟩;rw[<-f3] at b4 HT;rw[<-b6] at HT;have g7:=hid b6;obtain⟨ax,cx,rfl,_,_,_⟩:=f1.open;clear e9 z f0 a6 f3 b6;go_wp2_with fail;refine b4.mono ?_;rintro e w6 ⟨rfl,Y⟩;have b7:=bV F Y;have c1:=(Y.cell (p:=⟨b5,o5+k,none⟩) (by show b5<wr.heap.size;omega)).trans c1;have b8:=g2.out g _ w6 (b3.below Y) (a2.below b7) HQ.out q2;rw[<-g7.out] at b8;have f4:=OwI.below ho Y (aA _);have i7:=b7.size;clear b4 b3 f2 Y ho;go_wp2_with fail;refine b8.mono ?_;rintro e w7 ⟨rfl,I⟩;have b9:=bV b7 I
   have f5:=OwI.below f4 I (aA _);have f6:=b9.size;clear b8 I f4 c1
   by_cases J:V<U
   ·have u2:decide (V<U)=true:=decide_eq_true J;rw[if_pos J] at HT;clear J;go_wp2_with (at_builtin;refine eN rfl _ _ rfl T.heap.size _ _ rfl (OwI.alloc f5 _) _ 1 rfl (bS _ _ _) ?_ ?_ ?_;(omega);(simp;omega);intro v8 w8 r1 r2 r3);have z:=HG.out
    go_roundg (G-(k+1))
    case measure=>omega
    case rel=>exact⟨k+1,_,by omega,rfl,rfl,by go_num,by rw[HT.out];exact r1,(b9.alloc f6 _).trans r2⟩
   ·have u2:decide (V<U)=false:=decide_eq_false J;rw[if_neg J] at HT;clear J;go_wp2_with (at_builtin;refine eN rfl _ _ rfl T.heap.size _ _ rfl (OwI.alloc f5 _) _ 0 rfl (bS _ _ _) ?_ ?_ ?_;(omega);(simp;omega);intro v8 w8 r1 r2 r3);have z:=HG.out
    go_roundg (G-(k+1))
    case measure=>omega
    case rel=>exact⟨k+1,_,by omega,rfl,rfl,by go_num,by rw[HT.out];exact r1,(b9.alloc f6 _).trans r2⟩
  ·have u1:decide ((k:Int)<(G:Int))=false:=decide_eq_false (by omega);rw[cS (by rw[iD,<-e6.out];omega),<-g3.out] at ho;have f7:=a1.below F;have f8:=a2.below F;have g8:=bV e4 F;have i8:=e4.size;obtain⟨av,cv,rfl,_,_,_⟩:=f7.open;obtain⟨aw,cw,rfl,_,_,_⟩:=f8.open;go_wp2_with fail
   go_ret3
   have g9:=xY wr 27 [.slice av A.length cv,.slice aw C.length cw] 2 rfl (by decide);have I:=bD (aB wr.heap.size wr) (.cells #[.slice av A.length cv,.slice aw C.length cw] 27);refine⟨_,_,rfl,⟨[.slice av A.length cv,.slice aw C.length cw],g9,?_⟩,Ow.base (OwI.alloc ho _) (by omega),bD g8 _⟩;rw[<-HA.out,<-HC.out];exact LOK.two (f7.below I) (f8.below I)
end
section
theorem aA7 (ws:List Int):∀t,t<ws.length->∀x,iJ ws t x=0\/((x:Int)<iJ ws t x/\iJ ws t x<((ws.length+t:Nat):Int))
 |0,_,x=>.inl rfl
 |t+1,h,x=>by
  have d:=jT.all ws t (by omega);have H:=pR ws t (by omega);obtain⟨a,b,s,z,_,F,G,_,_,_⟩:=qL (ws.length+t) (bP ws t) (by omega);have I:=d.lt a (z.mem_iff.1 (by simp)) _ (HT.root_mem _);have J:=d.lt b (z.mem_iff.1 (by simp)) _ (HT.root_mem _)
  show(if x=(bM (bM (bP ws t)).2).1.2.root then _ else if x=(bM (bP ws t)).1.2.root then _ else iJ ws t x)=0\/_<(if x=(bM (bM (bP ws t)).2).1.2.root then _ else if x=(bM (bP ws t)).1.2.root then _ else iJ ws t x)/\(if x=(bM (bM (bP ws t)).2).1.2.root then _ else if x=(bM (bP ws t)).1.2.root then _ else iJ ws t x)<_;rw[F,G]
  by_cases A:x=b.2.root
  ·rw[if_pos A];right;omega
  ·rw[if_neg A]
   by_cases E:x=a.2.root
   ·rw[if_pos E];right;omega
   ·rw[if_neg E];rcases aA7 ws t (by omega) x with k|k
    ·exact .inl k
    ·right;omega
theorem aA8 (ws:List Int):∀t,t<ws.length->∀x,x<ws.length+t->(∃p∈bP ws t,p.2.root=x)\/iJ ws t x≠0
 |0,h,x,G=>by
  obtain⟨p,d,F⟩:=(jT.all ws 0 h).leaves x (by omega);obtain⟨j,U,rfl⟩:=bQ.start_mem d;obtain rfl:=dC.1 F;exact .inl ⟨_,d,rfl⟩
 |t+1,h,x,G=>by
  have F:=pR ws t (by omega);obtain⟨a,b,s,d,H,I,J,_,_,_⟩:=qL (ws.length+t) (bP ws t) (by omega);have L:bP ws (t+1)=s++[(a.1+b.1,.node (ws.length+t) a.2 b.2)]:=H;have M:iJ ws (t+1) x=if x=b.2.root then((ws.length+t:Nat):Int) else if x=a.2.root then((ws.length+t:Nat):Int) else iJ ws t x:=by rw[<-I,<-J];rfl
  rw[L,M]
  by_cases O:x=ws.length+t
  ·exact .inl ⟨_,cU.2 (.inr (dC.2 rfl)),O.symm⟩
  ·by_cases z:x=b.2.root
   ·rw[if_pos z];right;omega
   ·by_cases A:x=a.2.root
    ·rw[if_neg z,if_pos A];right;omega
    ·rw[if_neg z,if_neg A];rcases aA8 ws t (by omega) x (by omega) with⟨p,T,E⟩|k
     ·have:=d.mem_iff.2 T;simp only[kD] at this;rcases this with rfl|rfl|q
      ·exact absurd E.symm A
      ·exact absurd E.symm z
      ·exact .inl ⟨p,cU.2 (.inl q),E⟩
     ·exact .inr k
theorem aRp (ws:List Int) (h:2<=ws.length) (x:Nat) (E:x<2*ws.length-2):∃u:Nat,iJ ws (ws.length-1) x=(u:Int)/\x<u/\u<=2*ws.length-2:=by
 obtain⟨p,A,F⟩:=CT ws h;rcases aA8 ws (ws.length-1) (by omega) x (by omega) with⟨q,d,G⟩|k
 ·rw[A] at d;obtain rfl:=dC.1 d;omega
 ·rcases aA7 ws (ws.length-1) (by omega) x with z|⟨z,H⟩
  ·exact absurd z k
  ·exact⟨(iJ ws (ws.length-1) x).toNat,by omega,by omega,by omega⟩
theorem aRq {q d:List (Int×Int)} {r:bQ} (E:nN q) (z:q.Perm (oD r)) (h:r≠[]) (F:r.Pairwise (fun p q=>p.2.root<q.2.root)) (A:(q.getD 0 (0,0)::d).Perm q):
  q.getD 0 (0,0)=((bM r).1.1,((bM r).1.2.root:Int))/\d.Perm (oD (bM r).2):=by
 have e:=aRg E z h F;refine⟨e,?_⟩;rw[e] at A;exact List.Perm.cons_inv ((A.trans z).trans (aRh h).symm)
structure vD (N:Nat) (U:Nat->Int) (j:Nat) (D:Nat->Int):Prop where
 top:D (N-1)=0
 down:∀x,j<=x->x<N-1->D x=D (U x).toNat+1
 bd:∀x,j<=x->x<N->0<=D x/\D x<=((N-x:Nat):Int)
theorem vD.start (N:Nat) (U:Nat->Int):vD N U (N-1) (fun _=>0):=⟨rfl,fun x d z=>by omega,fun x d z=>by omega⟩
theorem vD.step {N:Nat} {U:Nat->Int} {j u:Nat} {D:Nat->Int} (h:vD N U (j+1) D) (H:j+1<N) (E:U j=(u:Int)) (I:j<u) (F:u<N) (G:∀x,j<=x->x<N-1->j<(U x).toNat):vD N U j (fun d=>if d=j then D u+1 else D d):=by
 refine⟨?_,fun x A z=>?_,fun x A z=>?_⟩
 ·show(if N-1=j then _ else _)=_;rw[if_neg (by omega)];exact h.top
 ·show(if x=j then _ else _)=(if(U x).toNat=j then _ else _)+1;have J:=G x A z;rw[if_neg (show ¬(U x).toNat=j by omega)]
  by_cases e:x=j
  ·subst e;rw[if_pos rfl,E,eG]
  ·rw[if_neg e];exact h.down x (by omega) z
 ·show 0<=(if x=j then _ else _)/\(if x=j then _ else _)<=_
  by_cases e:x=j
  ·subst e;rw[if_pos rfl];have:=h.bd u (by omega) F;omega
  ·rw[if_neg e];exact h.bd x (by omega) z
end
section
open Go.RowKit Go Go.Shelf
attribute [local go_sem] Oper.semAt_some
def vE:Nat->List UInt8->List (List UInt8)
 |0,_=>[]
 |_+1,[]=>[]
 |f+1,c::r=>(c::r).take (dX (c::r))::vE f ((c::r).drop (dX (c::r)))
theorem aBc:∀f g s,s.length<=f->s.length<=g->vE f s=vE g s
 |0,g,s,d,z=>by
  have:s=[]:=mV.1 (by omega);subst this
  cases g<;>rfl
 |f+1,0,s,d,z=>by
  have:s=[]:=mV.1 (by omega);subst this;rfl
 |f+1,g+1,[],_,_=>rfl
 |f+1,g+1,c::r,d,z=>by
  unfold vE;have:=pS (c::r) (by simp);rw[aBc f g _ (by rw[cI];simp only[cR] at*;omega) (by rw[cI];simp only[cR] at*;omega)]
def jX (s:List UInt8):List (List UInt8):=vE s.length s
theorem MZ:jX []=[]:=rfl
theorem NA (s:List UInt8) (h:s≠[]):jX s=s.take (dX s)::jX (s.drop (dX s)):=by
 cases s with
 |nil=>exact absurd rfl h
 |cons c r=>
  have:=pS (c::r) h;show vE (r.length+1) (c::r)=_;unfold vE jX;rw[aBc r.length ((c::r).drop (dX (c::r))).length _ (by rw[cI];simp only[cR] at*;omega) (aA _)]
def zX (x:List UInt8):Array Value:=#[.string (mkS x)]
theorem NB {B:Nat} {J:List (List UInt8)->World->Prop} (h:AbidesFrom B J) {s:List (List UInt8)} {A:World} (d:J s A) (k:Nat):J s (A.drewN k):=
 h s A _ none d ⟨rfl,rfl,rfl,aA _,fun _ _ _=>rfl⟩ (fun r e=>by cases e)
theorem aR0 (n:Nat) (hn:1<=n) (l Bs n₀:Nat) (F:ByteArray) (b3:F.size<=1000000) (J:List (List UInt8)->World->Prop) (b4:∀s A v,J s A->J s (A.setCell ⟨Bs,0,none⟩ v)) (B:Nat) (a4:AbidesFrom B J)
  (hY:∀d x W1,J d W1->(∃r,d++x::r=jX F.data.toList)->YieldAt eA (n-1) Tryz.prog l (zX x) W1 fun e Z=>e=.returned (.bool true)/\J (d++[x]) Z/\KpB n₀ Bs W1 Z)
  (W:World) (hA:Arr W Bs 9 [.string F]) (h0:J [] W):
  mD eA n Tryz.prog 127 #[.func (.yield l) #[] #[],.pointer (some ⟨Bs,0,none⟩)] W fun e Z=>(∃v,e=.returned v)/\J (jX F.data.toList) Z:=by
 refine tW Tryz.func127 rfl trivial ?_ rfl;simp only[Tryz.ntmps127,mY,cR,cX,lZ,mZ,lL,lM,lN,lO,iG,gE];have e3:=hid (show ∃L,L=jX F.data.toList from⟨_,rfl⟩)
 gi_wp2_with fail
 gi_loopg [3] F.size (fun g _s3 wr=>∃(d:List (List UInt8)) (s:ByteArray),g=s.size/\s.size<=1000000/\d++jX s.data.toList=jX F.data.toList/\J d wr/\Arr wr Bs 9 [.string s])
 case atStart=>exact⟨[],F,rfl,b3,rfl,h0,hA⟩
 case round=>
  obtain⟨d,s,G,e4,I,hJ,hA⟩:=hrel;have HG:=hid G;have HP:=hid I;have O:=hid (show s.data.toList.length=s.size by simp);clear G I;have c0:=hA.cell (i:=0) rfl
  by_cases z:s.data.toList=[]
  ·have te:s.toList.isEmpty=true:=by rw[Lib.toList_data,z];rfl
   have I:=HP.out;rw[z,MZ,eE] at I;have b5:=hid I;clear I HP z
   gi_wp2_with fail
   go_end0
   exact⟨⟨_,rfl⟩,by rw[<-b5.out];exact hJ⟩
  ·have b6:0<s.size:=by rw[<-O.out];exact List.length_pos_iff.2 z
   have te:s.toList.isEmpty=false:=LR z;have b7:=hid z;clear z
   gi_wp2_with fail
   gi_loopg [3] 255 (fun g s3 U=>∃k:Nat,1<=k/\k<=255/\k<=s.size/\g=256-k/\s3=.int .i64 (k:Int)/\Hid (∀j,j<k->s.data.toList[j]? =s.data.toList[0]?)/\J d U/\Arr U Bs 9 [.string s])
   case atStart=>exact⟨1,by omega,by omega,by omega,by omega,rfl,hid (fun j hj=>by rw[show j=0 by omega]),hJ,hA⟩
   case round=>
    obtain⟨k,e5,b8,b9,G,rfl,HJ,a0,V⟩:=hrel;have c2:=hid G;clear G c0;have c1:=V.cell (i:=0) rfl;obtain⟨T,hT⟩:∃T:Bool,T=decide (k<s.size/\k<255/\s.data.toList[k]? =s.data.toList[0]?):=⟨_,rfl⟩;have HT:=hid hT;clear hT;obtain⟨m,a9,c3,c4⟩:=yI s.size 255 (by decide);have c5:min (s.size:Int) 255=(m:Int):=by rw[<-a9];omega
    gi_upto_region 2 with fail
    gi_cut [18,21,22,23,24,25,26,27,28,29] from 6 (fun c6 c7 c8 c9 d1 d2 d3 d4 d5 d6 U=>(c6=.bool T/\c7=u21/\c8=u22/\c9=u23/\d1=u24/\d2=u25/\d3=u26/\d4=u27/\d5=u28/\d6=u29)/\J d U/\Arr U Bs 9 [.string s])
    case first=>
     by_cases g1:k<m
     ·have u1:decide ((k:Int)<(m:Int))=true:=decide_eq_true (by omega);have g2:k<s.size:=by omega
      have e2:=eW s k g2;have e0:=eW s 0 b6
      by_cases H:s[k]=s[0]
      ·have u3:((s[k].toNat:Int)==(s[0].toNat:Int))=true:=by rw[H];simp
       have u4:decide ((s[k].toNat:Int)=(s[0].toNat:Int))=true:=decide_eq_true (by rw[H]);have Y:=hid (show T=true by rw[HT.out,decide_eq_true];exact⟨g2,by omega,by rw[e2,e0,H]⟩);clear H e2 e0
       gi_quiet (fail)
       gi_wp2_with fail
       gi_meet
       exact⟨⟨by rw[Y.out],rfl,rfl,rfl,rfl,rfl,rfl,rfl,rfl,rfl⟩,NB a4 a0 _,V.drewN _⟩
      ·have z:(s[k].toNat:Int)≠(s[0].toNat:Int):=fun e=>H (UInt8.toNat_inj.1 (by omega))
       have u3:((s[k].toNat:Int)==(s[0].toNat:Int))=false:=by rw[beq_eq_false_iff_ne];exact z
       have u4:decide ((s[k].toNat:Int)=(s[0].toNat:Int))=false:=decide_eq_false z;have Y:=hid (show T=false by rw[HT.out,decide_eq_false];rintro⟨_,_,M⟩;rw[e2,e0] at M;injection M with M;exact H M);clear H e2 e0 z
       gi_quiet (fail)
       gi_wp2_with fail
       gi_meet
       exact⟨⟨by rw[Y.out],rfl,rfl,rfl,rfl,rfl,rfl,rfl,rfl,rfl⟩,NB a4 a0 _,V.drewN _⟩
     ·have u1:decide ((k:Int)<(m:Int))=false:=decide_eq_false (by omega);have Y:=hid (show T=false by rw[HT.out,decide_eq_false];rintro⟨h1,h2,_⟩;omega)
      gi_quiet (fail)
      gi_wp2_with fail
      gi_meet
      exact⟨⟨by rw[Y.out],rfl,rfl,rfl,rfl,rfl,rfl,rfl,rfl,rfl⟩,NB a4 a0 _,V.drewN _⟩
    case rest=>
     obtain⟨⟨rfl,rfl,rfl,rfl,rfl,rfl,rfl,rfl,rfl,rfl⟩,b0,a5⟩:=hcut;clear a9 c5 c3 c4 c1 a0 V
     cases T with
     |true=>
      have a1:=of_decide_eq_true HT.out.symm;have HS:=hid a1.2.2;have g1:=a1.1;have g2:=a1.2.1;clear a1
      gi_wp2_with fail
      have G:=c2.out
      gi_roundg (256-(k+1))
      case measure=>omega
      case rel=>exact⟨k+1,by omega,by omega,by omega,rfl,by go_num,hid (fun j hj=>by rcases Nat.lt_or_ge j k with h|h;exact HJ.out j h;rw[show j=k by omega];exact HS.out),b0,a5⟩
     |false=>
      have b1:=of_decide_eq_false HT.out.symm;have b2:dX s.data.toList=k:=DV b8 (by rw[O.out];exact b9) HJ.out (by
       by_cases h1:k<s.size
       ·by_cases h2:k<255
        ·exact .inr (.inr (fun M=>b1 ⟨h1,h2,M⟩))
        ·exact .inl (by omega)
       ·exact .inr (.inl (by rw[O.out];omega)))
      have a2:=NA s.data.toList b7.out;rw[b2] at a2;have d7:s.extract 0 k=mkS (s.data.toList.take k):=by rw[nT,AP,AF]
      obtain⟨E,a6⟩:∃E,E=s.extract k s.size:=⟨_,rfl⟩;have a7:E.data.toList=s.data.toList.drop k:=by
       rw[a6,nT,fW,cS (by rw[cI,O.out];omega)]
      have e6:E.size=s.size-k:=by
       have:E.data.toList.length=E.size:=by simp
       rw[<-this,a7,cI,O.out]
      obtain⟨x,hx⟩:∃x,x=s.data.toList.take k:=⟨_,rfl⟩;rw[<-hx] at d7 a2;have a3:=HP.out;rw[a2] at a3;obtain⟨fn,tmps,assign,body,hy,hR⟩:=hY d x wc b0 ⟨_,a3⟩;unfold zX at hy;have e7:s.extract k s.size=E:=a6.symm;have d8:=hid (show(d++[x])++jX E.data.toList=jX F.data.toList by rw[a7,cF];exact a3);have c1:=a5.cell (i:=0) rfl;clear a6 a7 hx a2 a3 b1 b2 HT;have q1:(k:Int)<=(s.size:Int):=by omega
      gi_wp2_with fail
      refine hR.mono ?_;rintro e W3 ⟨rfl,d9,e1⟩;have a8:Arr W3 Bs 9 [.string s]:=by unfold Arr;rw[e1.2];exact a5
      have d0:=a8.cell (i:=0) rfl;have f3:=a8.free 0
      gi_wp2_with fail
      have G:=HG.out
      gi_roundg E.size
      case measure=>omega
      case rel=>exact⟨d++[x],E,rfl,by omega,d8.out,b4 _ _ _ d9,a8.set 0 _⟩
theorem aBd (n:Nat) (E:1<=n) (Bs z:Nat) (d:ByteArray) (F:d.size<=1000000) (w:World) (A:Arr w Bs 9 [.string d]):
  MN n Tryz.prog 127 #[.pointer (some ⟨Bs,0,none⟩)] zX Bs (KpB z Bs) (jX d.data.toList) w:=fun l J W G H I L M=>
 aR0 n E l Bs z d F J I _ H L W (A.below G A.lt) M
theorem aBe (n:Nat) (d:ByteArray) (w:World):
  mD eA n Tryz.prog 58 #[.string d] w fun e w'=>e=.returned (.func (.func 127) #[] #[.pointer (some ⟨w.heap.size,0,none⟩)])/\w'=w.alloc (.cells #[.string d] 9):=by
 refine tW Tryz.func58 rfl trivial ?_ rfl;simp only[Tryz.ntmps58,mY,cR,cX,lZ,mZ,lL,lM,lN,lO,iG,gE]
 gi_wp2
 go_ret;exact⟨rfl,rfl⟩
def pkL (x:List UInt8):List UInt8:=x.take (min x.length 4)++if 4<=x.length then[eK (x.length-4)] else[]
theorem aR5 {s:List UInt8} {n:Nat} (h:n<=s.length):mN s n=pkL (s.take n):=by
 unfold mN pkL;rw[aX,gU h,List.take_take,show min (min n 4) n=min n 4 by omega]
theorem FE:∀(k:Nat) (s:List UInt8),s.length<=k->bC s=(jX s).flatMap pkL
 |0,s,h=>by
  have:s=[]:=mV.1 (by omega);subst this;rfl
 |k+1,s,h=>by
  by_cases d:s=[]
  ·subst d;rfl
  ·have z:=pS s d;rw[yU s d,NA s d,List.flatMap_cons,aR5 z.2.2,FE k _ (by rw[cI];omega)]
theorem NC:∀(k:Nat) (s:List UInt8),s.length<=k->∀x∈jX s,1<=x.length/\x.length<=255
 |0,s,h,x,d=>by
  have:s=[]:=mV.1 (by omega);subst this;rw[MZ] at d;simp at d
 |k+1,s,h,x,d=>by
  by_cases z:s=[]
  ·subst z;rw[MZ] at d;simp at d
  ·have A:=pS s z;rw[NA s z] at d;rcases kD.1 d with rfl|d
   ·rw[aX];omega
   ·exact NC k _ (by rw[cI];omega) x d
theorem aBg {d:List UInt8} {z r:List (List UInt8)} {x:List UInt8} (h:z++x::r=jX d):(z.flatMap pkL).length<=2*d.length:=by
 have A:=(oS d.length d (aA _)).1;rw[FE d.length d (aA _),<-h,pZ,aL] at A;omega
theorem Bld.same {w w':World} {B b:Nat} {l:List UInt8} (h:Bld w B b l) (z:∀k o,w.heap[k]? =some o->o.isCells=true->(k=b\/∃c d,o=.cells c 5 d)->w'.heap[k]? =some o):Bld w' B b l:=by
 have A:∀p,Lib.BuilderAtF 112 5 B b p (nS l) w->Lib.BuilderAtF 112 5 B b p (nS l) w':=by
  rintro p ⟨F,v,G,E,H⟩;refine⟨F,v,z b _ G rfl (.inl rfl),⟨E.1,?_⟩,H⟩;rcases E.2 with I|⟨g,cap,J,d,e,L,M,rest⟩
  ·exact .inl I
  ·exact .inr ⟨g,cap,J,d,e,L,z g _ M rfl (.inr ⟨_,_,rfl⟩),rest⟩
 exact h.elim (fun x=>.inl (A _ x)) (fun x=>.inr (A _ x))
theorem Bld.kept {w w':World} {B b:Nat} {l:List UInt8} {row:Option Nat} (h:Bld w B b l) (E:w.grownBy w' row) (F:∀r,row=some r->∃o:Obj,w.heap[r]? =some o/\o.isCells=false):Bld w' B b l:=
 h.same fun k o z A _=>(E.block k (gQ.1 z).1 (fun e=>by
  obtain⟨H,d,G⟩:=F k e.symm;rw[z] at d
  injection d with d
  rw[d,G] at A;exact absurd A (by decide))).trans z
theorem Bld.setBox {w:World} {B b Bs:Nat} {l:List UInt8} (h:Bld w B b l) {x v:Value} (d:Arr w Bs 9 [x]) (A:b≠Bs):Bld (w.setCell ⟨Bs,0,none⟩ v) B b l:=
 h.same fun k o z _ E=>by
  have F:k≠Bs:=by
   rintro rfl;rcases E with e|⟨c,G,rfl⟩
   ·exact A e.symm
   ·unfold Arr at d;rw[z] at d
    injection d with d
    injection d with _ h2 _
    exact absurd h2 (by decide)
  rw[kT w ⟨Bs,0,none⟩ k v (fun e=>F e)];exact z
theorem Arr.keptB {w w':World} {b:Nat} {e:TypeId} {l:List Value} {row:Option Nat} (h:Arr w b e l) (E:w.grownBy w' row) (F:∀r,row=some r->∃o:Obj,w.heap[r]? =some o/\o.isCells=false):Arr w' b e l:=by
 have z:w.heap[b]? =some (.cells l.toArray e (0,0)):=h;show w'.heap[b]? =_;rw[E.block b h.lt (fun q=>by
  obtain⟨G,d,A⟩:=F b q.symm;rw[z] at d
  injection d with d
  rw[<-d] at A;exact tQ A)]
 exact z
theorem Arr.others {w w':World} {g b:Nat} {x:Value} (h:Arr w g 9 [x]) (d:GY 5 (some b) w w') (z:g≠b):Arr w' g 9 [x]:=
 d g _ h (fun e=>z (by injection e)) (fun c A e=>by injection e with _ h2 _;exact absurd h2 (by decide))
theorem aBh {B b:Nat} {w w':World} (A:w.heap.size<=w'.heap.size) (E:GY 5 (some b) w w') (F:∀o,w.heap[b]? =some o->o.isCells=true):KeepsFrom B w w':=
 ⟨A,fun k o _ z d=>E k o z (fun e=>by injection e with e;subst e;rw[F o z] at d;exact absurd d (by decide)) (fun c G e=>by rw[e] at d;exact tQ d)⟩
theorem aR6 (n:Nat) (hn:3<=n) (s:ByteArray) (w:World) (O:s.size<=1000000):
  mD eA n Tryz.prog 22 #[.string s] w fun e w'=>e=.returned (.string (mkS (bC s.data.toList)))/\Below w.heap.size w w':=by
 have Z:1<=n:=by omega
 refine xX Tryz.func22 rfl trivial ?_ rfl;simp only[Tryz.ntmps22,mY,cR,cX,lZ,mZ,lL,lM,lN,lO,iG,gE]
 gi_wp2_with fail
 refine⟨trivial,(aBe (n-1) s _).mono ?_⟩;rintro e w' ⟨rfl,rfl⟩
 gi_wp2_with fail
 have a5:=aAp w;have b1:Bld ((w.alloc (.cells #[.pointer none,.slice none 0 0] 112)).alloc (.cells #[.string s] 9)) w.heap.size w.heap.size []:=a5.same fun k o hk _ _=>by rw[Below.heap_alloc _ _ _ (gQ.1 hk).1];exact hk
 have T:=Arr.new (w.alloc (.cells #[.pointer none,.slice none 0 0] 112)) 9 [.string s];rw[fV] at T;change Arr ((w.alloc (.cells #[.pointer none,.slice none 0 0] 112)).alloc (.cells #[.string s] 9)) _ _ _ at T;have b9:((w.alloc (.cells #[.pointer none,.slice none 0 0] 112)).alloc (.cells #[.string s] 9)).heap.size=w.heap.size+1+1:=by simp
 have b2:Below w.heap.size w ((w.alloc (.cells #[.pointer none,.slice none 0 0] 112)).alloc (.cells #[.string s] 9)):=((aB _ w).alloc (aA _) _).alloc (by simp) _;clear a5;generalize (w.alloc (.cells #[.pointer none,.slice none 0 0] 112)).alloc (.cells #[.string s] 9)=H at*
 refine MO (w0:=H) (Bs:=w.heap.size+1) Z (gf:=127) (lb:=#[.pointer (some ⟨w.heap.size+1,0,none⟩)]) rfl (enters_of Tryz.func127 (by kernel_rfl) rfl)
  (aBd (n-1) (by omega) (w.heap.size+1) w.heap.size s O H T) DZ (LM (by omega) (by omega)) (aB _ _) (fun _=>rfl) (by omega)
  (fun F W=>(Bld W w.heap.size w.heap.size (F.flatMap pkL)/\∃x,Arr W (w.heap.size+1) 9 [x])/\Below w.heap.size w W)
  (GS (Own.from (fun s A B row O hg I=>⟨O.1.kept hg I,by obtain⟨x,hx⟩:=O.2;exact⟨x,hx.keptB hg I⟩⟩) _) (GT (aA _) (by omega)))
  (fun F A v ⟨⟨Z,x,h2⟩,h3⟩=>⟨⟨Z.setBox h2 (by omega),v,h2.set 0 v⟩,h3.setCell (p:=⟨w.heap.size+1,0,none⟩) (by show w.heap.size<=w.heap.size+1;omega) _⟩)
  ⟨⟨b1,_,T⟩,b2⟩
  (fun x=>{tmps:=#[.string s,undef,.string ⟨#[]⟩,.pointer (some ⟨w.heap.size,0,none⟩),.string (mkS x),.string s,.func (.func 127) #[] #[.pointer (some ⟨w.heap.size+1,0,none⟩)],.string (mkS x),undef,undef,undef,undef,undef,undef,undef,undef,undef,undef,undef,undef,undef,undef,undef],defers:=[]}) ?assign ?body ?done
 case assign=>
  intro l x W K hK;unfold zX
  gi_wp2
  exact hK
 case body=>
  rintro l F x W ⟨⟨J,y,U⟩,L⟩ ⟨r,I⟩;have hx:=NC s.data.toList.length s.data.toList (aA _) x (by rw[<-I];simp);have b3:=aBg I;rw[show s.data.toList.length=s.size by simp] at b3;obtain⟨m,b4,c0,c1⟩:=yI x.length 4 (by decide);have c2:min (x.length:Int) 4=(m:Int):=by rw[<-b4];omega
  have c3:(mkS x).extract 0 m=mkS (x.take m):=by rw[nT,AP,AF,fW]
  have a0:=L.size;have hq:(m:Int)<=(x.length:Int):=by omega
  have b5:∀o,W.heap[w.heap.size]? =some o->o.isCells=true:=fun o z=>by
   rcases J with⟨_,v,E,_⟩|⟨_,v,E,_⟩
   ·rw[E] at z;injection z with z;rw[<-z];rfl
   ·rw[E] at z;injection z with z;rw[<-z];rfl
  gi_wp2_with fail
  refine⟨trivial,fun _=>by omega,((callsIn_wide.2 (aQu w.heap.size w.heap.size _ (mkS (x.take m)) W J (by rw[cP,aX];omega) a0)).inRound l).mono ?_⟩;rintro e M ⟨rfl,V,G,Y⟩;rw[fW] at V;have a1:=U.others Y (by omega);have a6:=aBh (B:=H.heap.size) G.size Y b5;have a7:=L.trans G
  by_cases h4:4<=x.length
  ·have t1:decide ((x.length:Int)>=4)=true:=decide_eq_true (by omega);have t2:decide ((4:Int)<=(x.length:Int))=true:=decide_eq_true (by omega);obtain⟨d,hd⟩:∃d:Nat,d=x.length-4:=⟨_,rfl⟩;obtain⟨b,E⟩:∃b:UInt8,b=eK d:=⟨_,rfl⟩;have a2:b.toNat=d:=by rw[E,UInt8.toNat_ofNat'];omega
   have m1:aI.wrap ((x.length:Int)-4)=(d:Int):=by rw[aM];omega
   have m2:(x.length:Int)-4=(d:Int):=by omega
   have m3:IntKind.u8.wrap (d:Int)=(b.toNat:Int):=by rw[a2,IntKind.wrap_u8];omega
   have m4:(d:Int)%256=(b.toNat:Int):=by rw[a2];omega
   have a3:=hid (show F.flatMap pkL++x.take m++[b]=(F++[x]).flatMap pkL by
    rw[pZ,AN,cF]
    congr 1
    unfold pkL;rw[if_pos h4,E,hd,show min x.length 4=m by omega])
   have b6:∀o,M.heap[w.heap.size]? =some o->o.isCells=true:=fun o z=>by
    rcases V with⟨_,v,E,_⟩|⟨_,v,E,_⟩
    ·rw[E] at z;injection z with z;rw[<-z];rfl
    ·rw[E] at z;injection z with z;rw[<-z];rfl
   clear E a2 hd
   gi_wp2_with fail
   refine⟨trivial,fun _=>by omega,((callsIn_wide.2 (aAm w.heap.size w.heap.size _ b M V (by rw[aL,aX];omega) (by have:=G.size;omega))).inRound l).mono ?_⟩;rintro e W3 ⟨rfl,b7,a4,a8⟩;have a9:=a1.others a8 (by omega);have b8:=aBh (B:=H.heap.size) a4.size a8 b6
   gi_wp2_with fail
   exact⟨a6.trans b8,⟨G.trans a4,a9.trans U.symm⟩,⟨by rw[<-a3.out];exact b7,_,a9⟩,a7.trans a4⟩
  ·have t1:decide ((x.length:Int)>=4)=false:=decide_eq_false (by omega);have t2:decide ((4:Int)<=(x.length:Int))=false:=decide_eq_false (by omega);have a3:=hid (show F.flatMap pkL++x.take m=(F++[x]).flatMap pkL by
    rw[pZ,AN]
    congr 1
    unfold pkL;rw[if_neg h4,eE,show min x.length 4=m by omega])
   gi_wp2_with fail
   exact⟨a6,⟨G,a1.trans U.symm⟩,⟨by rw[<-a3.out];exact V,_,a1⟩,a7⟩
 case done=>
  rintro D W hD ⟨⟨J,y,U⟩,L⟩ hK;rw[<-FE s.data.toList.length s.data.toList (aA _)] at J;have a0:=L.size
  gi_wp2_with fail
  refine⟨trivial,(callsIn_wide.2 (aAn w.heap.size w.heap.size _ W J a0)).mono ?_⟩;rintro e M ⟨rfl,_,G,Y⟩;have b0:M.heap[D]? =some (.deferred (some [])):=Y D _ hK (fun e=>by injection e with e;omega) (fun c fz e=>by injection e)
  gi_wp2_with fail
  refine⟨by simp,.inl ⟨_,_,rfl,sJ b0,?_⟩⟩;exact⟨_,results_tmp rfl _ _ _,rfl,(L.trans G).trans (belowK_b (w:=H) (by omega) M D _ _ hD b0 rfl rfl)⟩
theorem aR7 (s:ByteArray) (w:World) (d:s.size<=1000000):
  Calls Tryz.prog 22 #[.string s] w fun e w'=>e=.returned (.string (mkS (bC s.data.toList)))/\Below w.heap.size w w':=
 callsIn_wide.1 (aR6 3 (aA _) s w d)
def tL (n:Nat):Nat:=if n<4 then n else 5
theorem aR8 (n:Nat) (w:World):Calls Tryz.prog 59 #[.int .i64 (n:Int)] w fun e w'=>e=.returned (.int .i64 (tL n:Int))/\w'=w:=by
 unfold tL
 by_cases h:n<4
 ·have t1:decide ((n:Int)<4)=true:=decide_eq_true (by omega);rw[if_pos h];go_enter Tryz.func59,Tryz.ntmps59;go_wp2_with fail;go_ret;exact⟨rfl,rfl⟩
 ·have t1:decide ((n:Int)<4)=false:=decide_eq_false (by omega);rw[if_neg h];go_enter Tryz.func59,Tryz.ntmps59;go_wp2_with fail;go_ret;exact⟨rfl,rfl⟩
theorem aR9 (x:List UInt8):(pkL x).length=tL x.length:=by
 unfold pkL tL;rw[aL,aX]
 by_cases h:4<=x.length
 ·rw[if_pos h,if_neg (by omega)];simp;omega
 ·rw[if_neg h,if_pos (by omega)];simp;omega
def pC (l:List (List UInt8)):Nat:=(l.flatMap pkL).length
theorem aSa (l:List (List UInt8)) (x:List UInt8):pC (l++[x])=pC l+tL x.length:=by
 unfold pC;rw[pZ,aL,AN,aR9]
theorem aSb (n:Nat) (hn:3<=n) (s:ByteArray) (w:World) (F:s.size<=1000000):
  mD eA n Tryz.prog 17 #[.string s] w fun e w'=>e=.returned (.int .i64 ((bC s.data.toList).length:Int))/\Below w.heap.size w w':=by
 have I:1<=n:=by omega
 refine xX Tryz.func17 rfl trivial ?_ rfl;simp only[Tryz.ntmps17,mY,cR,cX,lZ,mZ,lL,lM,lN,lO,iG,gE]
 gi_wp2_with fail
 refine⟨trivial,(aBe (n-1) s _).mono ?_⟩;rintro e w' ⟨rfl,rfl⟩
 gi_wp2_with fail
 have V:=(Arr.new w 3 [.int .i64 0]).alloc (.cells #[.string s] 9);have G:=Arr.new (w.alloc (.cells #[.int .i64 0] 3)) 9 [.string s];rw[fV] at G;change Arr ((w.alloc (.cells #[.int .i64 0] 3)).alloc (.cells #[.string s] 9)) _ _ _ at G;change Arr ((w.alloc (.cells #[.int .i64 0] 3)).alloc (.cells #[.string s] 9)) _ _ _ at V;have a6:((w.alloc (.cells #[.int .i64 0] 3)).alloc (.cells #[.string s] 9)).heap.size=w.heap.size+1+1:=by simp
 have a2:Below w.heap.size w ((w.alloc (.cells #[.int .i64 0] 3)).alloc (.cells #[.string s] 9)):=((aB _ w).alloc (aA _) _).alloc (by simp) _;generalize (w.alloc (.cells #[.int .i64 0] 3)).alloc (.cells #[.string s] 9)=J at*
 refine MO (w0:=J) (Bs:=w.heap.size+1) I (gf:=127) (lb:=#[.pointer (some ⟨w.heap.size+1,0,none⟩)]) rfl (enters_of Tryz.func127 (by kernel_rfl) rfl)
  (aBd (n-1) (by omega) (w.heap.size+1) w.heap.size s F J G) DZ (LM (by omega) (by omega)) (aB _ _) (fun _=>rfl) (by omega)
  (fun d W=>(Arr W w.heap.size 3 [.int .i64 (pC d:Int)]/\∃x,Arr W (w.heap.size+1) 9 [x])/\Below w.heap.size w W)
  (GS (Own.from (fun s A B row F Y E=>⟨F.1.keptB Y E,by obtain⟨x,Z⟩:=F.2;exact⟨x,Z.keptB Y E⟩⟩) _) (GT (aA _) (by omega)))
  (fun d A v ⟨⟨I,x,h2⟩,h3⟩=>⟨⟨I.other ⟨w.heap.size+1,0,none⟩ (by simp) v,v,h2.set 0 v⟩,h3.setCell (p:=⟨w.heap.size+1,0,none⟩) (by show w.heap.size<=w.heap.size+1;omega) _⟩)
  ⟨⟨V,_,G⟩,a2⟩
  (fun x=>{tmps:=#[.string s,undef,.pointer (some ⟨w.heap.size,0,none⟩),.string (mkS x),.string s,.func (.func 127) #[] #[.pointer (some ⟨w.heap.size+1,0,none⟩)],.string (mkS x),undef,undef,undef,undef,undef,undef],defers:=[]}) ?assign ?body ?done
 case assign=>
  intro l x W K L;unfold zX
  gi_wp2
  exact L
 case body=>
  rintro l d x W ⟨⟨z,y,a0⟩,H⟩ ⟨r,E⟩;have Z:=NC s.data.toList.length s.data.toList (aA _) x (by rw[<-E];simp);have M:=aBg E;rw[show s.data.toList.length=s.size by simp] at M;change pC d<=2*s.size at M;have a7:=H.size;have O:=z.cell (i:=0) rfl;have f0:=z.free 0;have T:=hid (aSa d x);have a3:tL x.length<=5:=by unfold tL;split<;>omega
  obtain⟨q,hq⟩:∃q,q=tL x.length:=⟨_,rfl⟩;have a1:=fun W=>(callsIn_wide (n:=n-1-1-1)).2 (aR8 x.length W)
  rw[<-hq] at a1 T a3;clear hq;obtain⟨a,ha⟩:∃a,a=pC d:=⟨_,rfl⟩;rw[<-ha] at T M O;obtain⟨c,hc⟩:∃c:Nat,c=a+q:=⟨_,rfl⟩;have m1:aI.wrap ((a:Int)+(q:Int))=(c:Int):=by rw[aM];omega
  have m2:(a:Int)+(q:Int)=(c:Int):=by omega
  have m3:aI.wrap (c:Int)=(c:Int):=by rw[aM];omega
  have HC:=hid (show pC (d++[x])=c by rw[T.out,hc]);clear ha hc
  gi_wp2_with fail
  gi_region_with (refine⟨trivial,fun _=>by omega,((a1 _).inRound l).mono ?_⟩;rintro e w2 ⟨rfl,rfl⟩)
  all_goals
   gi_wp2_with fail
   refine⟨((iH W _ _).trans (aC3 _)).from _,⟨((aB w.heap.size W).setCell (p:=⟨w.heap.size,0,none⟩) (aA _) _).drew,kT W ⟨w.heap.size,0,none⟩ (w.heap.size+1) _ (by simp)⟩,⟨?_,y,a0.other ⟨w.heap.size,0,none⟩ (by simp) _⟩,(H.setCell (p:=⟨w.heap.size,0,none⟩) (aA _) _).drew⟩;rw[HC.out];exact z.set 0 _
 case done=>
  rintro D W hD ⟨⟨z,y,a0⟩,H⟩ L;have O:=z.cell (i:=0) rfl;have f0:=z.free 0;have HF:=hid (show pC (jX s.data.toList)=(bC s.data.toList).length by rw[FE _ _ (aA _)];rfl)
  gi_wp2_with fail
  have U:=(iH W ⟨w.heap.size,0,none⟩ (.int .i64 (pC (jX s.data.toList):Int))).same D _ L rfl;refine⟨by simp,.inl ⟨_,_,rfl,sJ U,?_⟩⟩;have a4:(W.setCell ⟨w.heap.size,0,none⟩ (.int .i64 (pC (jX s.data.toList):Int))).cell? ⟨w.heap.size,0,none⟩=some (.int .i64 (pC (jX s.data.toList):Int)):=World.cell?_setCell_same _ _ _ O;have a5:=cell_kept a4 (grownBy_putObj' _ D (.deferred none)) (fun r e=>by cases e;exact⟨_,U,rfl⟩)
  refine⟨.int .i64 (pC (jX s.data.toList):Int),?_,by rw[HF.out],(H.setCell (p:=⟨w.heap.size,0,none⟩) (aA _) _).trans (belowK_b (w:=J) (by omega) _ D _ _ hD U rfl rfl)⟩;simp[results,Tryz.f17,go_sem,a5]
theorem ND (s:ByteArray) (w:World) (d:s.size<=1000000):
  Calls Tryz.prog 17 #[.string s] w fun e w'=>e=.returned (.int .i64 ((bC s.data.toList).length:Int))/\Below w.heap.size w w':=
 callsIn_wide.1 (aSb 3 (aA _) s w d)
end
end Go.Proofs.YtiifmcicleljjaaGreatDoor
