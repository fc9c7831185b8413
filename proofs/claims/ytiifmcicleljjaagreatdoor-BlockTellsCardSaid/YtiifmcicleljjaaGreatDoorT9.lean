/- The walks and the plain laws, part 9. -/
import Derived.RangeFuncNested
import Derived.RangeFuncBound
import Derived.RangeFuncCalls
import Derived.RangeFuncLeaves
import Derived.RangeFuncBox
import Derived.Shelf.RegionOpen
import Derived.OwnWalkIn
import Derived.TacticsInMore
import Derived.LoopNIn
import Derived.LoopIn
import Derived.OrdersIn
import Derived.Test.YtiifmcicleljjaaGreatDoorT7
import Derived.Test.YtiifmcicleljjaaGreatDoorT8
set_option maxRecDepth 100000
set_option maxHeartbeats 12800000
set_option linter.unusedVariables false
open Array renaming getElem?_eq_some_iff->gQ,replicate_succ->lL,replicate_zero->lM
open Bool renaming noConfusion->tQ
open Go renaming CallsIn->mD,Operand->iM,Program->gD,belowK_b->pJ,bodyPost_ret->gJ,callsIn_of_wp->tW,cell_kept->tX,grownBy_putObj'->mC,heap_setCell_other->kT,ownFrom_below->GT,run_endLoop->GX,run_enterLoop_outer->aC2,run_takeDeferred->sJ
open Go.Fence renaming wide->eA
open Go.IntKind renaming i64->aI,wrap_i64->aM
open Go.KeepsOthers renaming setCell->iH
open Go.Lib renaming toList_data->AW
open Go.OwnFrom renaming and->GS
open Go.RowKit.Below renaming heap_alloc->oF,refl->aB
open Go.Value renaming int->bO,slice->lK
open Go.World renaming alloc_heap_new->BC,cell?_setCell_other->iQ,cell?_setCell_same->oM,frozen?_setCell->AU,putObj_heap_other->pK,putObj_heap_same->BD,size_alloc->fV
open List renaming append_assoc->cF,append_nil->eE,append_toArray->lO,cons_append->gE,drop_eq_getElem_cons->oH,drop_of_length_le->qY,eq_nil_of_length_eq_zero->vK,eq_of_mem_replicate->aCo,getD->fF,getElem?_drop->gR,getElem?_eq_getElem->aN,getElem?_eq_some_iff->eU,getElem?_map->dY,getElem?_take_of_lt->mB,length_append->aL,length_cons->cR,length_drop->cI,length_map->bJ,length_nil->cX,length_replicate->vO,length_singleton->fK,length_take->aX,mem_append->cU,mem_cons_of_mem->jD,mem_of_getElem?->cH,mem_of_mem_take->nO,nil_append->iG,push_toArray->lN,range->dG,replicate->bB,singleton_append->GI,size_toArray->mY,take_add_one->cQ
open Nat renaming add_assoc->dZ,add_sub_cancel->jZ,eq_zero_or_pos->fJ,le_refl->aA,le_succ->pI,lt_of_lt_of_le->dR,lt_or_ge->bT,pow_le_pow_right->jC,pow_succ->nQ,reduceAdd->lZ,reduceSub->mZ,sub_self->oI,zero_le->aU
open Option renaming some->bA,toList_some->mX
open Option.some renaming inj->bW
namespace Go.Proofs.YtiifmcicleljjaaGreatDoor
section
open Go.RowKit
theorem aK9 (x:Int):∀r:List Int,num (r++[x])=num r+2^r.length*(x.toNat+1):=by
 intro r
 induction r with
 |nil=>simp[num]
 |cons d r z=>
  rw[gE,num,z,num,cR,nQ];have:2^r.length*2*(x.toNat+1)=2*(2^r.length*(x.toNat+1)):=by rw[Nat.mul_comm (2^r.length) 2,Nat.mul_assoc]
  omega
theorem aLa:∀l:List Int,(∀x∈l,x<=1)->num l+2<=2^(l.length+1):=by
 intro l
 induction l with
 |nil=>intro _;simp[num]
 |cons d l z=>
  intro h;have E:=h d (by simp);have F:=z (fun x A=>h x (by simp[A]));rw[num,cR,nQ];have:d.toNat<=1:=by omega
  omega
def nL (d:List Int):Int:=if num d<=1099511627776 then(num d:Int) else 0
def lA (d:List Int):Int:=if num d<=1099511627776 then 0 else 4
theorem aLb:(2:Nat)^42=4398046511104:=by decide
theorem WP:(2:Nat)^43=8796093022208:=by decide
theorem aLc (v:Value) (d:List Int) (w:World) (hr:RdI w v d) (hd:∀x∈d,x=0\/x=1):
  Calls Tryz.prog 180 #[v] w fun e w'=>e=.returned (.tuple #[.int .i64 (nL d),.int .i64 (lA d)])/\w'=w:=by
 obtain⟨a,ca,rfl,b2,a5,J⟩:=hr.open;unfold maxLen at a5;have O:=hid hd;clear hr hd;go_enter Tryz.func180,Tryz.ntmps180;go_wp2_with fail
 go_loopg [4] d.length (fun T s4 wr=>∃k:Nat,k<=d.length/\T=d.length-k/\s4=.int .i64 k/\w=wr)
 case atStart=>exact⟨0,aU _,rfl,rfl,rfl⟩
 case round=>
 obtain⟨k,hk,z,rfl,rfl⟩:=hrel;have E:=hid z;clear z
 by_cases a6:k<d.length
 ·obtain⟨b1,o1,rfl,a7,F⟩:=J (by omega);obtain⟨x,A⟩:=dH a6;have c1:=F k x A;have U:=O.out x (cH A);clear F J A;rcases U with rfl|rfl
  all_goals
   go_wp2_with fail;have z:=E.out
   go_roundg (d.length-(k+1))
   case measure=>omega
   case rel=>exact⟨k+1,by omega,rfl,by go_num,rfl⟩
 ·clear E;go_wp2_with fail
  go_loopg [5,6,7] d.length (fun T s5 s6 s7 wr=>∃i n p:Nat,i<=d.length/\i<=42/\T=d.length-i/\s7=.int .i64 i/\s5=.int .i64 n/\s6=.int .i64 p/\Hid (n=num (d.take i)/\p=2^i)/\n<=8796093022208/\p<=4398046511104/\w=wr)
  case atStart=>exact⟨0,0,1,aU _,by omega,rfl,rfl,rfl,rfl,hid ⟨by simp[num],rfl⟩,by omega,by omega,rfl⟩
  case round=>
  obtain⟨i,n,p,hi,b3,z,rfl,rfl,rfl,V,hn,hp,rfl⟩:=hrel;have E:=hid z;clear z
  by_cases a8:i<d.length
  ·by_cases a1:i=42
   ·have t1:decide ((41:Int)<(i:Int))=true:=decide_eq_true (by omega);have Y:(41:Int)<(i:Int):=by omega
    have a9:=hid a1;clear a1;go_wp2_with fail
    go_ret2
    have b4:=aDy d;have b0:2^43<=2^d.length:=jC (by decide) (by have:=a9.out;omega);rw[WP] at b0;refine⟨?_,rfl⟩;unfold nL lA;rw[if_neg (by omega),if_neg (by omega)];rfl
   ·have t1:decide ((41:Int)<(i:Int))=false:=decide_eq_false (by omega);have Y:(i:Int)<=41:=by omega
    obtain⟨b1,o1,rfl,a7,F⟩:=J (by omega);obtain⟨x,A⟩:=dH a8;have c1:=F i x A;have U:=O.out x (cH A);have a2:=hid (show num (d.take (i+1))=num (d.take i)+2^i*(x.toNat+1) by
     rw[cQ,A,mX,aK9,aX,Nat.min_eq_left hi])
    have a3:=hid (show num (d.take (i+1))<=8796093022208 by
     have h1:=aLa (d.take (i+1)) (fun y hy=>by rcases O.out y (nO hy) with h|h<;>omega);have h2:(2:Nat)^((d.take (i+1)).length+1)<=2^43:=jC (by decide) (by rw[aX];omega);rw[WP] at h2;omega)
    have a4:=hid (show 2^(i+1)<=4398046511104 by rw[<-aLb];exact jC (by decide) (by omega));clear F J A;rcases U with rfl|rfl
    ·go_wp2_with fail;have z:=E.out
     go_roundg (d.length-(i+1))
     case measure=>omega
     case rel=>
      obtain⟨Z,G⟩:=V.out;have I:=a2.out;have q4:=a3.out;have q5:=a4.out;rw[<-Z,<-G] at I;have q6:2^(i+1)=2*p:=by rw[G,nQ];omega
      have q7:p*((0:Int).toNat+1)=p:=by simp
      rw[q7] at I;exact⟨i+1,n+p,2*p,by omega,by omega,rfl,by go_num,by go_num,by go_num,hid ⟨by omega,by omega⟩,by omega,by omega,rfl⟩
    ·go_wp2_with fail;have z:=E.out
     go_roundg (d.length-(i+1))
     case measure=>omega
     case rel=>
      obtain⟨Z,G⟩:=V.out;have I:=a2.out;have q4:=a3.out;have q5:=a4.out;rw[<-Z,<-G] at I;have q6:2^(i+1)=2*p:=by rw[G,nQ];omega
      have q7:p*((1:Int).toNat+1)=p*2:=by simp
      rw[q7] at I;exact⟨i+1,n+p*2,2*p,by omega,by omega,rfl,by go_num,by go_num,by go_num,hid ⟨by omega,by omega⟩,by omega,by omega,rfl⟩
  ·have a0:i=d.length:=by omega
   have L:n=num d:=by have:=V.out.1;rw[a0,List.take_of_length_le (aA _)] at this;exact this
   by_cases M:n<=1099511627776
   ·have t1:decide ((1099511627776:Int)<(n:Int))=false:=decide_eq_false (by omega);have Y:(n:Int)<=1099511627776:=by omega
    have H:=hid L;clear L a0;go_wp2_with fail
    go_ret2
    refine⟨?_,rfl⟩;unfold nL lA;rw[<-H.out,if_pos M,if_pos M];rfl
   ·have t1:decide ((1099511627776:Int)<(n:Int))=true:=decide_eq_true (by omega);have Y:(1099511627776:Int)<(n:Int):=by omega
    have H:=hid L;clear L a0;go_wp2_with fail
    go_ret2
    refine⟨?_,rfl⟩;unfold nL lA;rw[<-H.out,if_neg M,if_neg M];rfl
end
section
open Go.RowKit Go.Shelf
attribute [local go_sem] Oper.semAt_some
def bv (b:Bool):Int:=if b then 1 else 0
def oW {α:Type} (f:Nat->α) (k:Nat):List α:=(dG k).map f
theorem LL {α:Type} (f:Nat->α) (k:Nat):oW f (k+1)=oW f k++[f k]:=by simp[oW,List.range_succ]
theorem aLd {α:Type} (f:Nat->α) (k:Nat):(oW f k).length=k:=by simp[oW]
def bk (d:List Bool) (j:Nat):Nat×Bool:=(d.length-1-j,d[d.length-1-j]?.getD false)
def DY (x:Nat×Bool):Array Value:=#[bO .i64 (x.1:Int),bO .i64 (bv x.2)]
def KpB (d Bs:Nat) (A B:World):Prop:=Below d A B/\B.heap[Bs]? =A.heap[Bs]?
theorem DZ {d Bs:Nat} {A B C:World} (h:KpB d Bs A B) (k:KpB d Bs B C):KpB d Bs A C:=⟨h.1.trans k.1,k.2.trans h.2⟩
theorem LM {z Bs:Nat} {w:World} (A:z<=w.heap.size) (H:Bs<w.heap.size) (W:World) (l:Nat) (o d:Obj) (E:w.heap.size<=l) (h:W.heap[l]? =some o) (F:o.isCells=false) (G:o.isWalk=false):KpB z Bs W (W.putObj l d):=
 ⟨pJ A W l o d E h F G,(mC W l d).block Bs (by have:=(gQ.1 h).1;omega) (fun e=>by cases e;omega)⟩
theorem KpB.cell {d Bs:Nat} {A B:World} (h:KpB d Bs A B) (k:Nat):B.cell? ⟨Bs,k,none⟩=A.cell? ⟨Bs,k,none⟩:=World.cell?_of_block h.2
theorem aLe (F:Fence) (n:Nat) (O:F.fn 253) (T:F.round=none) (hn:1<=n) (l Bs E b off cap:Nat) (d:List Bool) (a3:d.length<=1000000) (U:b<E) (J L:List (Nat×Bool)->World->Prop)
  (V:∀z x W,J z W->z.length<d.length->YieldAt F (n-1) Tryz.prog l (DY x) W fun e A=>
   (e=.returned (.bool true)/\J (z++[x]) A/\KpB E Bs W A)\/(e=.returned (.bool false)/\L (z++[x]) A))
  (W:World) (Y:W.cell? ⟨Bs,0,none⟩=some (.slice (some ⟨b,off,none⟩) d.length cap)) (Z:∀j,j<d.length->W.cell? ⟨b,off+j,none⟩=some (.int .i64 (bv (d[j]?.getD false)))) (h0:J [] W):
  mD F n Tryz.prog 253 #[.func (.yield l) #[] #[],.pointer (some ⟨Bs,0,none⟩)] W fun e A=>(∃v,e=.returned v)/\
   ((∃M,M=oW (bk d) d.length/\J M A)\/(∃z,(∃k,k<=d.length/\z=oW (bk d) k)/\L z A)):=by
 refine tW Tryz.func253 rfl O ?_ T;simp only[Tryz.ntmps253,mY,cR,cX,lZ,mZ,lL,lM,lN,lO,iG,gE]
 gi_wp2
 gi_loopw [3] (fun i wr=>∃q:Nat,q<=d.length/\i=.int .i64 ((q:Int)-1)/\J (oW (bk d) (d.length-q)) wr/\KpB E Bs W wr)
  (fun i _=>(intOf i+1).toNat)
 case atStart=>exact⟨d.length,aA _,rfl,by rw[oI];exact h0,aB _ _,rfl⟩
 case round=>
  obtain⟨q,hq,hi,G,H⟩:=hrel
  cases q with
  |zero=>
   rw[show(((0:Nat):Int)-1)= -1 by omega] at hi;subst hi
   gi_wp2
   go_end0
   exact⟨⟨_,rfl⟩,.inl ⟨_,rfl,by rw[Nat.sub_zero] at G;exact G⟩⟩
  |succ p=>
   rw[show(((p+1:Nat):Int)-1)=(p:Int) by omega] at hi;subst hi;have e1:d.length-1-(d.length-(p+1))=p:=by omega
   have a4:=(H.cell 0).trans Y;have a5:=(H.1.cell (p:=⟨b,off+p,none⟩) U).trans (Z p (by omega));obtain⟨fn,tmps,assign,body,I,hR⟩:=V _ (bk d (d.length-(p+1))) wr G (by rw[aLd];omega);unfold DY bk at I;dsimp only at I;rw[e1] at I
   gi_wp2
   refine hR.mono ?_;rintro e W3 (⟨rfl,a0,a1⟩|⟨rfl,a2⟩)
   ·gi_wp2
    go_roundw
    case rel=>exact⟨p,by omega,by go_num,by rw[show d.length-p=(d.length-(p+1))+1 by omega,LL];exact a0,DZ H a1⟩
    case measure=>simp[intOf]
   ·gi_wp2
    refine gJ (results_none rfl _ _ _) rfl ?_;exact⟨⟨_,rfl⟩,.inr ⟨_,⟨d.length-(p+1)+1,by omega,(LL _ _).symm⟩,a2⟩⟩
theorem aLf (F:Fence) (n:Nat) (d:F.fn 253) (z:F.round=none) (l Bs cap:Nat) (a:Option Addr) (J:List (Nat×Bool)->World->Prop) (W:World) (H:W.cell? ⟨Bs,0,none⟩=some (.slice a 0 cap)) (A:J [] W):
  mD F n Tryz.prog 253 #[.func (.yield l) #[] #[],.pointer (some ⟨Bs,0,none⟩)] W fun e E=>(∃v,e=.returned v)/\J [] E:=by
 refine tW Tryz.func253 rfl d ?_ z;simp only[Tryz.ntmps253,mY,cR,cX,lZ,mZ,lL,lM,lN,lO,iG,gE]
 gi_wp2
 gi_loopw [3] (fun i wr=>i=.int .i64 (-1)/\J [] wr) (fun _ _=>0)
 case atStart=>exact⟨rfl,A⟩
 case round=>
  obtain⟨rfl,G⟩:=hrel
  gi_wp2
  go_end0
  exact⟨⟨_,rfl⟩,G⟩
def zJ (A:Nat) (W:World) (z:Value) (d:List Bool):Prop:=
 (∃a cap,z=.slice a 0 cap/\d=[])\/∃b off cap,z=.slice (some ⟨b,off,none⟩) d.length cap/\b<A/\∀j,j<d.length->W.cell? ⟨b,off+j,none⟩=some (.int .i64 (bv (d[j]?.getD false)))
theorem zJ.below {d:Nat} {A B:World} (h:Below d A B) {z:Value} {E:List Bool}:zJ d A z E->zJ d B z E
 |.inl e=>.inl e
 |.inr ⟨b,off,cap,e,F,G⟩=>.inr ⟨b,off,cap,e,F,fun j H=>(h.cell (p:=⟨b,off+j,none⟩) F).trans (G j H)⟩
theorem aLg (F:Fence) (n:Nat) (A:F.fn 253) (E:F.round=none) (M:1<=n) (Bs z:Nat) (G:Value) (d:List Bool) (O:d.length<=1000000) (w:World) (T:Bs<w.heap.size) (U:z<=w.heap.size)
  (V:w.cell? ⟨Bs,0,none⟩=some G) (Y:zJ z w G d):
  SeqStopsK F n Tryz.prog 253 #[.pointer (some ⟨Bs,0,none⟩)] DY (KpB z Bs) (fun Z=>Z=oW (bk d) d.length)
   (fun a0=>∃k,k<=d.length/\a0=oW (bk d) k) d.length w:=fun l J Jx W H _ _ hY I=>by
 have L:=(H.cell (p:=⟨Bs,0,none⟩) T).trans V;rcases Y.below (H.mono U) with⟨a,cap,rfl,rfl⟩|⟨b,off,cap,rfl,hb,a1⟩
 ·exact(aLf F n A E l Bs cap a J W L I).mono fun e W' ⟨he,hj⟩=>⟨he,.inl ⟨_,rfl,hj⟩⟩
 ·exact aLe F n A E M l Bs z b off cap d O hb J Jx hY W L a1 I
theorem aLh (F:Fence) (n:Nat) (z:F.fn 245) (A:F.round=none) (a:Option Addr) (d cap:Nat) (w:World):
  mD F n Tryz.prog 245 #[.slice a d cap] w fun e w'=>e=.returned (.func (.func 253) #[] #[.pointer (some ⟨w.heap.size,0,none⟩)])/\w'=w.alloc (.cells #[.slice a d cap] 27):=by
 refine tW Tryz.func245 rfl z ?_ A;simp only[Tryz.ntmps245,mY,cR,cX,lZ,mZ,lL,lM,lN,lO,iG,gE]
 gi_wp2
 go_ret;exact⟨rfl,rfl⟩
def hor (l:List (Nat×Bool)):Nat:=l.foldl (fun n x=>2*n+(if x.2 then 2 else 1)) 0
theorem WQ (l:List (Nat×Bool)) (x:Nat×Bool):hor (l++[x])=2*hor l+(if x.2 then 2 else 1):=by simp[hor]
theorem WR (d:List Bool):∀k,k<=d.length->hor (oW (bk d) k)=num ((d.drop (d.length-k)).map bv):=by
 intro k
 induction k with
 |zero=>intro _;simp[oW,hor,num]
 |succ k A=>
  intro E;have z:d.length-(k+1)<d.length:=by omega
  rw[LL,WQ,A (by omega),oH z,List.map_cons,num,show d.length-(k+1)+1=d.length-k by omega];have e:(bk d k).2=d[d.length-(k+1)]:=by
   unfold bk;rw[show d.length-1-k=d.length-(k+1) by omega,aN z];rfl
  rw[e]
  cases d[d.length-(k+1)]
  ·simp[bv];omega
  ·simp[bv];omega
theorem aLi:∀(l:List Int) (k:Nat),num (l.drop k)<=num l:=by
 intro l
 induction l with
 |nil=>intro k;simp
 |cons d l z=>
  intro k
  cases k with
  |zero=>simp
  |succ k=>rw[List.drop_succ_cons,num];have:=z k;omega
theorem aLj (d:List Bool):fP (fun x=> !(x==0)&& !(x==1)) (d.map bv)= -1:=by
 apply oN;intro x z;obtain⟨b,_,rfl⟩:=List.mem_map.1 z
 cases b<;>rfl
theorem aLk (n:Nat) (hn:3<=n) (a:Option Addr) (cap:Nat) (d:List Bool) (b1:d.length<=1000000) (w:World) (E:RdI w (.slice a d.length cap) (d.map bv)) (hI:zJ w.heap.size w (.slice a d.length cap) d):
  mD eA n Tryz.prog 225 #[.slice a d.length cap] w fun e W'=>e=.returned (.tuple #[.int .i64 (nL (d.map bv)),.int .i64 (lA (d.map bv))])/\Below w.heap.size w W':=by
 have h1:1<=n:=by omega
 have a1:eA.round=none:=rfl;have a7:∀W,Below w.heap.size w W->Calls Tryz.prog 85 #[.slice a d.length cap,.func (.func 244) #[] #[]] W fun e w'=>e=.returned (.bool false)/\w'=W:=fun W hW=>
  (uN 244 #[] (fun x=> !(x==0)&& !(x==1)) (.slice a d.length cap) (d.map bv) W (E.below hW) (enters_of Tryz.func244 (by kernel_rfl) rfl) (fun W _ x _=>aF9 x W)).mono fun e w' ⟨h1,h2⟩=>by
  rw[aLj] at h1;exact⟨h1,h2⟩
 refine callsIn_of_wp_marks Tryz.func225 rfl trivial ?_ a1;simp only[Tryz.ntmps225,mY,cR,cX,lZ,mZ,lL,lM,lN,lO,iG,gE]
 gi_wp2_with fail
 have a8:Below w.heap.size w ((w.alloc (.cells #[.int .i64 0] 3)).alloc (.cells #[.int .i64 0] 30)):=((aB _ w).alloc (aA _) _).alloc (by simp) _;refine⟨trivial,(callsIn_wide.2 (a7 _ a8)).mono ?_⟩;rintro e w' ⟨rfl,rfl⟩
 gi_wp2_with fail
 refine⟨trivial,(aLh eA (n-1) trivial a1 a d.length cap _).mono ?_⟩;rintro e w' ⟨rfl,rfl⟩;have bR:=Boxed.new w 3 (.int .i64 0);have bE:=Boxed.new (w.alloc (.cells #[.int .i64 0] 3)) 30 (.int .i64 0);have bN:=Boxed.new ((w.alloc (.cells #[.int .i64 0] 3)).alloc (.cells #[.int .i64 0] 30)) 27 (.slice a d.length cap);rw[fV] at bE;rw[fV,fV] at bN;have a9:=a8.alloc (o:=.cells #[.slice a d.length cap] 27) (by simp;omega)
 gi_wp2_with fail
 refine wpIn_rangeFunc_ownG a1 h1 (gf:=253) (lb:=#[.pointer (some ⟨w.heap.size+1+1,0,none⟩)]) rfl trivial (enters_of Tryz.func253 (by kernel_rfl) rfl)
  (aLg eA (n-1) trivial a1 (by omega) (w.heap.size+1+1) w.heap.size _ d b1 _ (by simp) (by simp;omega) bN.cell (hI.below a9)) DZ (LM (by simp;omega) (by simp)) (aB _ _) (fun _=>rfl)
  (fun F W=>(hor F<=1099511627776/\(W.cell? ⟨w.heap.size,0,none⟩=some (.int .i64 (hor F:Int))/\W.frozen? ⟨w.heap.size,0,none⟩=false)/\(W.cell? ⟨w.heap.size+1,0,none⟩=some (.int .i64 0)/\W.frozen? ⟨w.heap.size+1,0,none⟩=false))/\Below w.heap.size w W)
  (fun c F W=>(c=.ret/\1099511627776<hor F/\W.cell? ⟨w.heap.size,0,none⟩=some (.int .i64 0)/\W.cell? ⟨w.heap.size+1,0,none⟩=some (.int .i64 4))/\Below w.heap.size w W)
  (GS (Own.from (fun s A B row z M E=>⟨z.1,⟨tX z.2.1.1 M E,(frozen_kept z.2.1.1 M E).trans z.2.1.2⟩,tX z.2.2.1 M E,(frozen_kept z.2.2.1 M E).trans z.2.2.2⟩) _) (GT (aA _) (by simp;omega)))
  (fun c=>GS (Own.from (fun s A B row z M E=>⟨z.1,z.2.1,tX z.2.2.1 M E,tX z.2.2.2 M E⟩) _) (GT (aA _) (by simp;omega)))
  ⟨⟨by simp[hor],⟨((bR.alloc _).alloc _).cell,((bR.alloc _).alloc _).frozen⟩,(bE.alloc _).cell,(bE.alloc _).frozen⟩,a9⟩
  (fun x=>{tmps:=#[.slice a d.length cap,undef,.pointer (some ⟨w.heap.size,0,none⟩),.pointer (some ⟨w.heap.size+1,0,none⟩),undef,.int .i64 (bv x.2),.slice a d.length cap,.bool false,.slice a d.length cap,.func (.func 253) #[] #[.pointer (some ⟨w.heap.size+1+1,0,none⟩)],.int .i64 (x.1:Int),.int .i64 (bv x.2),undef,undef,undef,undef,undef,undef,undef,undef],defers:=[]}) ?assign ?body ?done ?stop
 case assign=>
  intro l x W K I;unfold DY
  gi_wp2
  exact I
 case body=>
  rintro l F ⟨i,b⟩ W ⟨⟨T,⟨G,hf⟩,J,a3⟩,L⟩ _;obtain⟨h,hh⟩:∃h,h=hor F:=⟨_,rfl⟩;have z:=WQ F (i,b);rw[<-hh] at T G z;have O:=hid z;have b0:w.heap.size+1+1≠w.heap.size:=by omega
  clear hh z a7 E;have U:(⟨w.heap.size+1,0,none⟩:Addr)≠⟨w.heap.size,0,none⟩:=fun e=>by have:=congrArg Addr.block e;simp at this
  have H:(⟨w.heap.size,0,none⟩:Addr)≠⟨w.heap.size+1,0,none⟩:=fun e=>U e.symm
  cases b
  ·have a4:bv false=0:=rfl;dsimp only
   rw[a4]
   by_cases b2:1099511627776<2*h+1
   ·have t1:decide ((1099511627776:Int)<2*(h:Int)+1)=true:=decide_eq_true (by omega);have t2:(1099511627776:Int)<2*(h:Int)+1:=by omega
    gi_wp2
    refine⟨(((iH W _ _).trans (iH _ _ _)).trans (iH _ _ _)).from _,⟨rfl,by rw[O.out,if_neg (by decide)];omega,?_,?_⟩,
     ((L.setCell (p:=⟨w.heap.size,0,none⟩) (aA _) _).setCell (p:=⟨w.heap.size,0,none⟩) (aA _) _).setCell (p:=⟨w.heap.size+1,0,none⟩) (pI _) _⟩
    ·rw[iQ _ _ _ _ U];exact oM _ _ _ (oM _ _ _ G)
    ·refine oM (u:=.int .i64 0) _ _ _ ?_;rw[iQ _ _ _ _ H,iQ _ _ _ _ H];exact J
   ·have t1:decide ((1099511627776:Int)<2*(h:Int)+1)=false:=decide_eq_false (by omega);have t2:2*(h:Int)+1<=(1099511627776:Int):=by omega
    gi_wp2
    refine⟨(iH W _ _).from _,⟨(aB w.heap.size W).setCell (p:=⟨w.heap.size,0,none⟩) (aA _) _,kT _ _ _ _ b0⟩,⟨by rw[O.out,if_neg (by decide)];omega,⟨?_,?_⟩,?_,?_⟩,L.setCell (p:=⟨w.heap.size,0,none⟩) (aA _) _⟩
    ·have e:(hor (F++[(i,false)]):Int)=2*(h:Int)+1:=by rw[O.out,if_neg (by decide)];omega
     rw[e];exact oM _ _ _ G
    ·rw[AU];exact hf
    ·rw[iQ _ _ _ _ H];exact J
    ·rw[AU];exact a3
  ·have a4:bv true=1:=rfl;dsimp only
   rw[a4]
   by_cases b2:1099511627776<2*h+2
   ·have t1:decide ((1099511627776:Int)<2*(h:Int)+1+1)=true:=decide_eq_true (by omega);have t2:(1099511627776:Int)<2*(h:Int)+1+1:=by omega
    gi_wp2
    refine⟨(((iH W _ _).trans (iH _ _ _)).trans (iH _ _ _)).from _,⟨rfl,by rw[O.out,if_pos trivial];omega,?_,?_⟩,
     ((L.setCell (p:=⟨w.heap.size,0,none⟩) (aA _) _).setCell (p:=⟨w.heap.size,0,none⟩) (aA _) _).setCell (p:=⟨w.heap.size+1,0,none⟩) (pI _) _⟩
    ·rw[iQ _ _ _ _ U];exact oM _ _ _ (oM _ _ _ G)
    ·refine oM (u:=.int .i64 0) _ _ _ ?_;rw[iQ _ _ _ _ H,iQ _ _ _ _ H];exact J
   ·have t1:decide ((1099511627776:Int)<2*(h:Int)+1+1)=false:=decide_eq_false (by omega);have t2:2*(h:Int)+1+1<=(1099511627776:Int):=by omega
    gi_wp2
    refine⟨(iH W _ _).from _,⟨(aB w.heap.size W).setCell (p:=⟨w.heap.size,0,none⟩) (aA _) _,kT _ _ _ _ b0⟩,⟨by rw[O.out,if_pos trivial];omega,⟨?_,?_⟩,?_,?_⟩,L.setCell (p:=⟨w.heap.size,0,none⟩) (aA _) _⟩
    ·have e:(hor (F++[(i,true)]):Int)=2*(h:Int)+1+1:=by rw[O.out,if_pos trivial];omega
     rw[e];exact oM _ _ _ G
    ·rw[AU];exact hf
    ·rw[iQ _ _ _ _ H];exact J
    ·rw[AU];exact a3
 case done=>
  rintro D ys W hD rfl ⟨⟨T,⟨G,hf⟩,J,a3⟩,L⟩ I;rw[WR d _ (aA _),oI,List.drop_zero] at T G;have Y:nL (d.map bv)=(num (d.map bv):Int):=by unfold nL;rw[if_pos T]
  have Z:lA (d.map bv)=0:=by unfold lA;rw[if_pos T]
  have a0:=hid (And.intro Y Z);clear Y Z
  gi_wp2
  have H:(⟨w.heap.size,0,none⟩:Addr)≠⟨w.heap.size+1,0,none⟩:=fun e=>by have:=congrArg Addr.block e;simp at this
  have U:(⟨w.heap.size+1,0,none⟩:Addr)≠⟨w.heap.size,0,none⟩:=fun e=>H e.symm
  obtain⟨V,hV⟩:∃V,V=num (d.map bv):=⟨_,rfl⟩;have a2:=((iH W ⟨w.heap.size,0,none⟩ (.int .i64 (num (d.map bv):Int))).trans (iH _ ⟨w.heap.size+1,0,none⟩ (.int .i64 0))).same D _ I rfl;refine⟨by simp,.inl ⟨_,_,rfl,sJ a2,?_⟩⟩;have b3:((W.setCell ⟨w.heap.size,0,none⟩ (.int .i64 (num (d.map bv):Int))).setCell ⟨w.heap.size+1,0,none⟩ (.int .i64 0)).cell? ⟨w.heap.size,0,none⟩=some (.int .i64 (num (d.map bv):Int)):=by
   rw[iQ _ _ _ _ U];exact oM _ _ _ G
  have b4:((W.setCell ⟨w.heap.size,0,none⟩ (.int .i64 (num (d.map bv):Int))).setCell ⟨w.heap.size+1,0,none⟩ (.int .i64 0)).cell? ⟨w.heap.size+1,0,none⟩=some (.int .i64 0):=by
   refine oM (u:=.int .i64 0) _ _ _ ?_;rw[iQ _ _ _ _ H];exact J
  have a5:=tX b3 (mC _ D (.deferred none)) (fun r e=>by cases e;exact⟨_,a2,rfl⟩);have a6:=tX b4 (mC _ D (.deferred none)) (fun r e=>by cases e;exact⟨_,a2,rfl⟩);refine⟨.tuple #[.int .i64 (num (d.map bv):Int),.int .i64 0],?_,by rw[a0.out.1,a0.out.2],((L.setCell (p:=⟨w.heap.size,0,none⟩) (aA _) _).setCell (p:=⟨w.heap.size+1,0,none⟩) (pI _) _).trans (pJ (w:=w) (aA _) _ D _ _ (by simp at hD;omega) a2 rfl rfl)⟩;simp[results,Tryz.f225,go_sem,a5,a6]
 case stop=>
  rintro D c F W hD ⟨k,hk,rfl⟩ ⟨⟨rfl,b5,G,J⟩,L⟩ I;rw[WR d _ hk] at b5;have b6:num ((d.drop (d.length-k)).map bv)<=num (d.map bv):=by rw[List.map_drop];exact aLi _ _
  have Y:nL (d.map bv)=0:=by unfold nL;rw[if_neg (by omega)]
  have Z:lA (d.map bv)=4:=by unfold lA;rw[if_neg (by omega)]
  have a0:=hid (And.intro Y Z);clear Y Z
  gi_wp2
  refine⟨by simp,.inl ⟨_,_,rfl,sJ I,?_⟩⟩;have a5:=tX G (mC _ D (.deferred none)) (fun r e=>by cases e;exact⟨_,I,rfl⟩);have a6:=tX J (mC _ D (.deferred none)) (fun r e=>by cases e;exact⟨_,I,rfl⟩);refine⟨.tuple #[.int .i64 0,.int .i64 4],?_,by rw[a0.out.1,a0.out.2],L.trans (pJ (w:=w) (aA _) W D _ _ (by simp at hD;omega) I rfl rfl)⟩;simp[results,Tryz.f225,go_sem,a5,a6]
theorem aLl (v:Value) (d:List Int) (w:World) (E:RdI w v d) (F:d.length<=1000000) (H:∀x∈d,x=0\/x=1):
  Calls Tryz.prog 225 #[v] w fun e w'=>e=.returned (.tuple #[.int .i64 (nL d),.int .i64 (lA d)])/\Below w.heap.size w w':=by
 obtain⟨z,rfl⟩:∃z:List Bool,d=z.map bv:=by
  refine⟨d.map (fun x=>decide (x=1)),?_⟩;rw[List.map_map];rw[List.map_congr_left (g:=id) (fun x I=>by rcases H x I with rfl|rfl<;>rfl),List.map_id]
 obtain⟨a,cap,rfl,J,T,G⟩:=E.open;rw[bJ] at E F G J ⊢;refine callsIn_wide.1 (aLk 3 (aA _) a cap z F w E ?_);rcases fJ z.length with A|A
 ·exact .inl ⟨a,cap,by rw[A],vK A⟩
 ·obtain⟨b,off,rfl,L,M⟩:=G A;exact .inr ⟨b,off,cap,rfl,L,fun j O=>M j _ (by rw[dY,aN O];simp)⟩
end
section
open Go.RowKit
theorem WS (l:List Int):dA l=bB (num (l.take (eY 1 l))) 0++dA (l.drop (eY 1 l)):=by
 have z:=IR (l.take (eY 1 l)) 0 1 (l.drop (eY 1 l)) (fun x d=>by have:=yM 1 l x d;omega);rw[List.take_append_drop] at z;have A:dA l=zx 0 1 l:=rfl;rw[A,z];rcases bT (eY 1 l) l.length with h|h
 ·have d:=aN h;have:=vY 1 l d;rw[oH h];have E:dA (l[eY 1 l]::l.drop (eY 1 l+1))=(l[eY 1 l]-1)::dA (l.drop (eY 1 l+1)):=by rw[dA,CB (by omega)];simp
  rw[E,CB (by omega)];simp
 ·rw[qY h,IS];simp[dA,IS]
theorem WT {x:Int} {l:List Int} (h:1<x):dA (x::l)=(x-1)::dA l:=by
 rw[dA,CB (by omega)];simp
def oX (m:List Int) (most:Int):List Int:=if((dA m).length:Int)<=most then dA m else[]
def nZ (m:List Int) (most:Int):Int:=if((dA m).length:Int)<=most then 0 else 4
theorem rW {m:List Int} {most:Int} (h:¬((dA m).length:Int)<=most):oX m most=[]/\nZ m most=4:=by
 unfold oX nZ;rw[if_neg h,if_neg h];exact⟨rfl,rfl⟩
theorem wO {m:List Int} {most:Int} (h:((dA m).length:Int)<=most):oX m most=dA m/\nZ m most=0:=by
 unfold oX nZ;rw[if_pos h,if_pos h];exact⟨rfl,rfl⟩
theorem WU {w:World} {b off cap:Nat} {l:List Int} (E:b<w.heap.size) (F:∀j x,l[j]? =some x->w.cell? ⟨b,off+j,none⟩=some (.int .i64 x)) (i n:Nat) (hi:i+n<=l.length) (H:l.length<=cap) (I:cap<=maxLen):
  RdI w (.slice (some ⟨b,off+i,none⟩) n (cap-i)) ((l.drop i).take n):=by
 have d:((l.drop i).take n).length=n:=by rw[aX,cI];omega
 refine⟨some ⟨b,off+i,none⟩,cap-i,by rw[d],by rw[d];omega,by omega,.inr ⟨b,off+i,rfl,E,fun j z=>?_⟩⟩;rw[bJ,d] at z;have A:l[i+j]? =some (l[i+j]'(by omega)):=aN _;rw[dZ,F _ _ A];have G:((l.drop i).take n)[j]? =some (l[i+j]'(by omega)):=by rw[mB z,gR,A]
 rw[fF,dY,G];rfl
theorem aLm (v:Value) (m:List Int) (most:Int) (w:World) (hr:RdI w v m) (d3:m.length<=100000) (hv:∀x∈m,0<=x/\x<=1000000) (d4: -9223372036854775808<=most) (d5:most<=1000000):
  Calls Tryz.prog 123 #[v,.int .i64 most] w fun e w'=>∃v',e=.returned (.tuple #[v',.int .i64 (nZ m most)])/\OwI w' w.heap.size v' (oX m most)/\Below w.heap.size w w':=by
 have HB:=hid (RJ v m w hr (fun x d=>(hv x d).1));obtain⟨a,ca,rfl,c0,a7,hA⟩:=hr.open;have a8:=a7;unfold maxLen at a7;have HV:=hid hv;have c2:=hid a8;clear hr hv a8;go_enter Tryz.func123,Tryz.ntmps123;go_wp2_with fail;refine HB.out.mono ?_;rintro e G ⟨rfl,rfl⟩;clear HB;go_wp2_with fail
 go_loopg [6,7,8,9,10,11] m.length (fun O s6 s7 _s8 _s9 _s10 _s11 H=>∃(i:Nat) (z:List Int),i<=m.length/\O=m.length-i/\s7=.int .i64 i/\OwI H G.heap.size s6 z/\Hid (z++dA (m.drop i)=dA m)/\z.length<=1000000+i/\Below G.heap.size G H)
 case atStart=>exact⟨0,[],aU _,rfl,rfl,OwI.nil _ _,hid rfl,by simp,aB _ _⟩
 case round=>
 obtain⟨i,z,hi,E,rfl,F,HP,d6,A⟩:=hrel;have HG:=hid E;clear E
 by_cases a9:i<m.length
 ·obtain⟨b0,o0,rfl,b1,a0⟩:=hA (by omega);obtain⟨n,T⟩:∃n,n=eY 1 (m.drop i):=⟨_,rfl⟩;have c3:n<=m.length-i:=by rw[T];have:=vX 1 (m.drop i);rwa[cI] at this
  have hz:=hid (show ∀j,j<n->∀x,m[i+j]? =some x->x=0\/x=1 from fun j hj x d=>by
   have c4:(m.drop i)[j]? =some x:=by rw[gR];exact d
   have h1:=yM 1 (m.drop i) x (by rw[<-T];exact cH (i:=j) (by rw[mB hj];exact c4));have h2:=(HV.out x (cH d)).1;omega)
  have b2:=hid (show ∀x,m[i+n]? =some x->1<x from fun x d=>vY 1 (m.drop i) (by rw[<-T,gR];exact d));have b3:=hid (show dA (m.drop i)=bB (num ((m.drop i).take n)) 0++dA (m.drop (i+n)) by rw[WS,<-T,List.drop_drop]);clear T;obtain⟨I,rfl⟩:∃I:World,I=wr:=⟨_,rfl⟩;have U:=hid (show ∀j x,m[j]? =some x->I.cell? ⟨b0,o0+j,none⟩=some (.int .i64 x) from fun j x d=>by rw[A.cell (p:=⟨b0,o0+j,none⟩) b1];exact a0 j x d);have d7:=hid a0;clear a0 hA;have V:=A.size;go_wp2_with fail
  go_loopg [8] n (fun O s8 H=>∃q:Nat,q<=n/\O=n-q/\s8=.int .i64 q/\I=H)
  case atStart=>exact⟨0,aU _,rfl,rfl,rfl⟩
  case round=>
  obtain⟨q,hq,E,rfl,rfl⟩:=hrel;have b4:=hid E;clear E
  by_cases b5:q<n
  ·obtain⟨x,d⟩:=dH (l:=m) (k:=i+q) (by omega);have c1:=U.out (i+q) x d;have a1:=hz.out q b5 x d;have t1:decide (x<2)=true:=decide_eq_true (by omega);have t3:x<2:=by omega
   have t2:decide (i+q<m.length)=true:=decide_eq_true (by omega);clear d a1;go_wp2_with fail;have E:=b4.out
   go_roundg (n-(q+1))
   case measure=>omega
   case rel=>exact⟨q+1,by omega,rfl,by go_num,rfl⟩
  ·obtain rfl:n=q:=by omega
   clear hq b5 b4;rcases fJ n with h0|h0
   ·subst h0;obtain⟨x,d⟩:=dH (l:=m) (k:=i) a9;have c1:=U.out i x d;have a1:=b2.out x d;have d8:=HV.out x (cH d);have t1:decide (x<2)=false:=decide_eq_false (by omega);have t3:2<=x:=by omega
    have t2:decide (i<m.length)=true:=decide_eq_true (by omega);have e2:=hid (show dA (m.drop i)=(x-1)::dA (m.drop (i+1)) by
     rw[oH a9,show m[i]=x from(eU.1 d).2,WT a1])
    clear d;go_wp2_with (at_builtin;refine eN rfl _ _ rfl G.heap.size _ _ rfl (F.alloc _) I.heap.size (x-1) rfl ?_ ?_ ?_ ?_;(exact bS _ _ _);omega;(simp;omega);intro v4 w4 a2 a3 c5);have E:=HG.out
    go_roundg (m.length-(i+1))
    case measure=>omega
    case rel=>
     refine⟨i+1,z++[x-1],by omega,rfl,by go_num,a2,hid ?_,by simp only[aL,fK];omega,(A.alloc V _).trans a3⟩;rw[cF,GI,<-e2.out];exact HP.out
   ·have c6:=hid (show ∀x∈(m.drop i).take n,x=0\/x=1 from fun x d=>by
     obtain⟨j,hj,rfl⟩:=List.mem_iff_getElem.1 d;rw[aX,cI] at hj;refine hz.out j (by omega) _ ?_;rw[List.getElem_take,List.getElem_drop];exact aN _)
    have b6:=hid (WU (w:=I) (cap:=ca) (dR b1 V) U.out i n (by omega) c0 c2.out);obtain⟨N,hN⟩:∃N,N=num ((m.drop i).take n):=⟨_,rfl⟩;have b7:=hid (show(dA m).length=z.length+N+(dA (m.drop (i+n))).length by
     rw[<-HP.out,aL,b3.out,aL,vO,<-hN];omega)
    have HN:=hid hN;have d9:¬ca=i:=by omega
    have t4:((n:Int)==0)=false:=by rw[beq_eq_false_iff_ne];omega
    have t5:n<=m.length-i:=c3;clear hN;have c7:(m.length<=i+n)\/(i+n<m.length/\∃x,I.cell? ⟨b0,o0+(i+n),none⟩=some (.int .i64 x)/\2<=x):=by
     rcases bT (i+n) m.length with h|h
     ·obtain⟨x,d⟩:=dH h;exact .inr ⟨h,x,U.out _ _ d,by have:=b2.out x d;omega⟩
     ·exact .inl h
    rcases c7 with h1|⟨h1,x,c1,t3⟩
    all_goals
     obtain⟨ao,co,rfl,c8,a4,_⟩:=F.rd.open;unfold maxLen at a4;go_wp2_with fail;refine(aLc _ ((m.drop i).take n) _ b6.out c6.out).mono ?_;rintro e w2 ⟨rfl,rfl⟩
     by_cases a5:N<=1099511627776
     ·have nv:nL ((m.drop i).take n)=(N:Int):=by unfold nL;rw[<-HN.out,if_pos a5]
      have Y:lA ((m.drop i).take n)=0:=by unfold lA;rw[<-HN.out,if_pos a5]
      rw[nv,Y];clear nv Y
      by_cases Z:most<(z.length:Int)+(N:Int)
      ·have t6:decide (most<(z.length:Int)+(N:Int))=true:=decide_eq_true Z;go_wp2_with fail
       go_ret2
       have J:¬((dA m).length:Int)<=most:=by have:=b7.out;omega
       obtain⟨L,M⟩:=rW J;rw[L,M];exact⟨_,rfl,OwI.nil _ _,A⟩
      ·have t6:decide (most<(z.length:Int)+(N:Int))=false:=decide_eq_false Z;go_wp2_with fail
       go_loopg [6,11] N (fun O s6 c9 H=>∃j:Nat,j<=N/\O=N-j/\c9=.int .i64 j/\OwI H G.heap.size s6 (z++bB j 0)/\Below G.heap.size G H)
       case atStart=>exact⟨0,aU _,rfl,rfl,by rw[List.replicate_zero,eE];exact F,A⟩
       case round=>
       clear F A U b6 V;obtain⟨j,hj,E,rfl,F,A⟩:=hrel;have d0:=hid E;have V:=A.size;have b8:(z++bB j (0:Int)).length=z.length+j:=by simp
       have b9:=hid b8;clear E b8
       by_cases e0:j<N
       ·go_wp2_with (at_builtin;refine eN rfl _ _ rfl G.heap.size _ _ rfl (F.alloc _) wr.heap.size 0 rfl ?_ ?_ ?_ ?_;(exact bS _ _ _);(rw[b9.out];omega);(simp;omega);intro v4 w4 a2 a3 c5);have E:=d0.out
        go_roundg (N-(j+1))
        case measure=>omega
        case rel=>exact⟨j+1,by omega,rfl,by go_num,by rw[List.replicate_succ',<-cF];exact a2,(A.alloc V _).trans a3⟩
       ·obtain rfl:j=N:=by omega
        go_wp2_with fail;have E:=HG.out
        go_roundg (m.length-(i+n))
        case measure=>omega
        case rel=>
         refine⟨i+n,z++bB j 0,by omega,rfl,by go_num,F,hid ?_,by rw[b9.out];omega,A⟩;have:=b3.out;rw[<-HN.out] at this;rw[cF,<-this];exact HP.out
     ·have Y:lA ((m.drop i).take n)=4:=by unfold lA;rw[<-HN.out,if_neg a5]
      rw[Y];clear Y;go_wp2_with fail
      go_ret2
      have J:¬((dA m).length:Int)<=most:=by have:=b7.out;omega
      obtain⟨L,M⟩:=rW J;rw[L,M];exact⟨_,rfl,OwI.nil _ _,A⟩
 ·have a6:=hid (show z=dA m by have:=HP.out;rw[qY (by omega),show dA []=[] from rfl,eE] at this;exact this);obtain⟨ao,co,rfl,c8,a4,_⟩:=F.rd.open;unfold maxLen at a4
  by_cases Z:most<(z.length:Int)
  ·have t6:decide (most<(z.length:Int))=true:=decide_eq_true Z;go_wp2_with fail
   go_ret2
   have J:¬((dA m).length:Int)<=most:=by rw[<-a6.out];omega
   obtain⟨L,M⟩:=rW J;rw[L,M];exact⟨_,rfl,OwI.nil _ _,A⟩
  ·have t6:decide (most<(z.length:Int))=false:=decide_eq_false Z;go_wp2_with fail
   go_ret2
   have J:((dA m).length:Int)<=most:=by rw[<-a6.out];omega
   obtain⟨L,M⟩:=wO J;rw[L,M,<-a6.out];exact⟨_,rfl,F,A⟩
theorem aLn (w:World) (n:Nat):pQ (w.alloc (.cells (fB (.int .i64 0) n) 3)) (.slice (some ⟨w.heap.size,0,none⟩) n n) (bB n 0):=by
 refine .inr ⟨w.heap.size,0,n,by rw[vO],by simp,fun j x A=>?_⟩;obtain⟨d,z⟩:=eU.1 A;rw[vO] at d;rw[List.getElem_replicate] at z;subst z;rw[Nat.zero_add];exact(Arr.made w 3 (.int .i64 0) n).cell (by simp[d])
theorem aLo {l:List Int} (z:∀x∈l,0<=x):∀x∈l.take (eY 1 l),x=0\/x=1:=fun x d=>by
 have A:=yM 1 l x d;have E:=z x (nO d);omega
theorem aLp (v:Value) (m:List Int) (most:Int) (w:World) (hr:RdI w v m) (e5:m.length<=100000) (hv:∀x∈m,0<=x/\x<=1000000) (e6: -9223372036854775808<=most) (e7:most<=1000000) (d0:0<m.length):
  Calls Tryz.prog 207 #[v,.int .i64 most] w fun e w'=>∃v',e=.returned (.tuple #[v',.int .i64 (nZ m most)])/\OwI w' w.heap.size v' (oX m most)/\Below w.heap.size w w':=by
 have hb:Calls Tryz.prog 135 #[v] w fun e w'=>e=.returned (.bool false)/\w'=w:=(JI v m w hr).mono fun e w' ⟨h1,O⟩=>by
  rw[oN (fun x z=>decide_eq_false (by have:=hv x z;omega))] at h1;exact⟨h1,O⟩
 have HB:=hid hb;obtain⟨a,ca,rfl,d3,b5,hA⟩:=hr.open;obtain⟨A,o0,rfl,T,b6⟩:=hA d0;have HV:=hid hv;have HA:=hid b6;have d4:=hid b5;unfold maxLen at b5;obtain⟨M,e8,e9,f0,f1,f2⟩:∃M:Nat,(if most<0 then 0 else most)=(M:Int)/\max most 0=(M:Int)/\M<=1000000/\most<=(M:Int)/\(if 0<most then most else 0)=(M:Int):=⟨most.toNat,by split<;>omega,by omega,by omega,by omega,by split<;>omega⟩;clear hr hA hv b6 hb;go_enter Tryz.func207,Tryz.ntmps207;go_wp2_with fail;refine HB.out.mono ?_;rintro e F ⟨rfl,rfl⟩;clear HB;go_wp2_with fail
 go_loopg [0,8,9,10] m.length (fun gh s0 _s8 _s9 _s10 wq=>∃(rest d:List Int) (off cap:Nat),s0=.slice (some ⟨A,off,none⟩) rest.length cap/\rest.length<=cap/\cap<=maxLen/\rest.length<=m.length/\gh=rest.length/\qK wq F.heap.size d/\Hid (d++dA rest=dA m)/\d.length<=1000001/\
  Below F.heap.size F wq/\Hid (∀j x,rest[j]? =some x->F.cell? ⟨A,off+j,none⟩=some (.int .i64 x))/\Hid (∀x∈rest,0<=x/\x<=1000000))
 case atStart=>exact⟨m,[],o0,ca,rfl,d3,d4.out,aA _,rfl,⟨.slice none 0 0,Arr.new F _ _,OwI.nil _ _⟩,hid rfl,by simp,(aB _ _).alloc (aA _) _,HA,HV⟩
 case round=>
 obtain⟨rest,d,off,cap,rfl,b7,a7,f3,Z,a8,HP,f4,I,a0,HR⟩:=hrel;have HG:=hid Z;clear Z
 by_cases f5:0<rest.length
 ·have b8:RdI wr (.slice (some ⟨A,off,none⟩) rest.length cap) rest:=
   ⟨_,_,rfl,b7,a7,.inr ⟨A,off,rfl,dR T I.size,fun j hj=>by
    rw[bJ] at hj;rw[I.cell (p:=⟨A,off+j,none⟩) T,a0.out j _ (aN hj)];simp[fF,hj]⟩⟩
  have b9:=hid b8;have d5:=hid a7;have d6:=vX 1 rest;obtain⟨k,hk⟩:∃k,k=eY 1 rest:=⟨_,rfl⟩;have a1:=WS rest;have a9:=aLo (l:=rest) (fun x z=>(HR.out x z).1);rw[<-hk] at d6 a1 a9;have HK:=hid hk;obtain⟨N,hN⟩:∃N,N=num (rest.take k):=⟨_,rfl⟩;rw[<-hN] at a1;have HN:=hid hN;have HZ:=hid a1;have d7:=hid a9;unfold maxLen at a7;have c0:=hid (show(dA m).length=d.length+N+(dA (rest.drop k)).length by
   rw[<-HP.out,aL,HZ.out,aL,vO];omega)
  clear b8 hk a1 a9 hN;go_wp2_with fail;refine(RF _ rest 1 _ b9.out).mono ?_;rintro e w2 ⟨rfl,O⟩;rw[<-HK.out];have c2:=a8.below O;have a2:=bV I O;have d8:=hid (show RdI w2 (.slice (some ⟨A,off,none⟩) k cap) (rest.take k) by
   have:=WU (w:=w2) (b:=A) (off:=off) (cap:=cap) (dR T a2.size) (fun j x z=>by rw[a2.cell (p:=⟨A,off+j,none⟩) T];exact a0.out j x z) 0 k (by omega) b7 d5.out
   simpa using this)
  clear a8 I b9 O;go_wp2_with fail;refine(aLl _ (rest.take k) _ d8.out (by rw[aX];omega) d7.out).mono ?_;rintro e w3 ⟨rfl,h3⟩;have a3:=c2.below h3;have a4:=bV a2 h3;clear c2 a2 h3;obtain⟨lv,U,J⟩:=a3;obtain⟨la,lc,rfl,d9,b1,_⟩:=J.rd.open;have c1:=U.cell (i:=0) rfl;have a3:qK w3 F.heap.size d:=⟨_,U,J⟩;unfold maxLen at b1
  by_cases b2:N<=1099511627776
  ·have nv:nL (rest.take k)=(N:Int):=by unfold nL;rw[<-HN.out,if_pos b2]
   have V:lA (rest.take k)=0:=by unfold lA;rw[<-HN.out,if_pos b2]
   rw[nv,V];clear nv V
   by_cases Y:(M:Int)-(d.length:Int)<(N:Int)
   ·have t6:decide ((M:Int)-(d.length:Int)<(N:Int))=true:=decide_eq_true Y;go_wp2_with fail
    go_ret2
    have H:¬((dA m).length:Int)<=most:=by have:=c0.out;omega
    obtain⟨E,G⟩:=rW H;rw[E,G];exact⟨_,rfl,OwI.nil _ _,a4⟩
   ·have t6:decide ((M:Int)-(d.length:Int)<(N:Int))=false:=decide_eq_false Y;go_wp2_with (at_make;refine mkA gL rfl _ _ rfl N rfl rfl ?_ ?_;omega);refine(CP F.heap.size _ d (bB N 0) _ (a3.below ((aB _ _).alloc (aA _) _)) (aLn _ _) (by rw[vO];omega)).mono ?_;rintro e w4 ⟨rfl,c3,h4⟩;have b3:=(bD a4 _).trans h4;have c4:(d++bB N (0:Int)).length=d.length+N:=by simp
    have a5:=hid c4;clear a3 U J c1 h4 a4 c4 t6
    by_cases c5:k=rest.length
    ·have a6:=hid (show(d++bB N 0)++dA []=dA m by
      have:=HZ.out;rw[qY (by omega)] at this;rw[cF,<-this];exact HP.out)
     have E:decide (0<rest.length-k)=false:=decide_eq_false (by omega);have e0:rest.length-k=0:=by omega
     by_cases e2:cap=k
     all_goals
      go_wp2_with fail;have Z:=HG.out
      go_roundg 0
      case measure=>omega
      case rel=>exact⟨[],_,_,_,rfl,aU _,by unfold maxLen;omega,aU _,rfl,c3,a6,by rw[a5.out];omega,b3,hid (fun j x z=>by simp at z),hid (fun x z=>by simp at z)⟩
    ·have c6:k<rest.length:=by omega
     obtain⟨x,z⟩:=dH c6;have f6:=HR.out x (cH z);have e3:1<x:=vY 1 rest (by rw[<-HK.out];exact z);have c1:w4.cell? ⟨A,off+k,none⟩=some (.int .i64 x):=by
      rw[b3.cell (p:=⟨A,off+k,none⟩) T];exact a0.out k x z
     have a6:=hid (show((d++bB N 0)++[x-1])++dA (rest.drop (k+1))=dA m by
      have:=HZ.out;rw[oH c6,(eU.1 z).2,WT e3] at this;rw[cF,cF,GI,<-this];exact HP.out)
     have E:decide (0<rest.length-k)=true:=decide_eq_true (by omega);have G:0<rest.length-k:=by omega
     have e2:¬cap=k:=by omega
     have hl:=hid (show rest.length-k-1=(rest.drop (k+1)).length by rw[cI];omega);have c7:Hid (∀x∈rest.drop (k+1),0<=x/\x<=1000000):=hid (fun y L=>HR.out y (List.mem_of_mem_drop L));have HE:=hid c5;clear z c5
     by_cases f7:cap-k=1
     all_goals
      go_wp2_with fail;refine(CP F.heap.size _ (d++bB N 0) [x-1] _ (c3.below ((aB _ _).alloc (aA _) _)) (RG _ _ _) (by rw[a5.out,fK];omega)).mono ?_;rintro e w5 ⟨rfl,c8,h5⟩;have c9:=(bD b3 _).trans h5;go_wp2_with fail;rw[hl.out];have Z:=HG.out
      go_roundg (rest.drop (k+1)).length
      case measure=>rw[cI];omega
     ·refine⟨rest.drop (k+1),_,off+k,0,rfl,by rw[cI];omega,by simp[maxLen],by rw[cI];omega,rfl,c8,a6,by rw[aL,a5.out,fK];omega,c9,hid (fun j y L=>?_),c7⟩;rw[qY (by omega)] at L;simp at L
     ·refine⟨rest.drop (k+1),_,off+k+1,cap-k-1,rfl,by rw[cI];omega,by unfold maxLen;omega,by rw[cI];omega,rfl,c8,a6,by rw[aL,a5.out,fK];omega,c9,hid (fun j y L=>?_),c7⟩;have:=RdI.dropS a0.out (k+1) j y L;rw[dZ off k 1];exact this
  ·have V:lA (rest.take k)=4:=by unfold lA;rw[<-HN.out,if_neg b2]
   rw[V];clear V;go_wp2_with fail
   go_ret2
   have H:¬((dA m).length:Int)<=most:=by have:=c0.out;omega
   obtain⟨E,G⟩:=rW H;rw[E,G];exact⟨_,rfl,OwI.nil _ _,a4⟩
 ·have e4:rest=[]:=vK (by omega);subst e4;obtain⟨lv,U,J⟩:=a8;obtain⟨la,lc,rfl,d9,b1,_⟩:=J.rd.open;have c1:=U.cell (i:=0) rfl;unfold maxLen at b1;have b4:=hid (show d=dA m by have:=HP.out;rw[show dA []=[] from rfl,eE] at this;exact this)
  by_cases Y:most<(d.length:Int)
  ·have t6:decide (most<(d.length:Int))=true:=decide_eq_true Y;go_wp2_with fail
   go_ret2
   have H:¬((dA m).length:Int)<=most:=by rw[<-b4.out];omega
   obtain⟨E,G⟩:=rW H;rw[E,G];exact⟨_,rfl,OwI.nil _ _,I⟩
  ·have t6:decide (most<(d.length:Int))=false:=decide_eq_false Y;go_wp2_with fail
   go_ret2
   have H:((dA m).length:Int)<=most:=by rw[<-b4.out];omega
   obtain⟨E,G⟩:=wO H;rw[E,G,<-b4.out];exact⟨_,rfl,Ow.base J (pI _),I⟩
theorem aLx (v:Value) (most:Int) (w:World) (A:RdI w v []) (Z: -9223372036854775808<=most) (a0:most<=1000000):
  Calls Tryz.prog 207 #[v,.int .i64 most] w fun e w'=>∃E,e=.returned (.tuple #[E,.int .i64 (nZ [] most)])/\OwI w' w.heap.size E (oX [] most)/\Below w.heap.size w w':=by
 have F:Calls Tryz.prog 135 #[v] w fun e w'=>e=.returned (.bool false)/\w'=w:=(JI v [] w A).mono fun e w' ⟨G,J⟩=>by
  rw[oN (fun x L=>by simp at L)] at G;exact⟨G,J⟩
 obtain⟨a,M,rfl,O,a1,T⟩:=A.open;simp only[cX] at O T F ⊢;go_enter Tryz.func207,Tryz.ntmps207;go_wp2_with fail;refine F.mono ?_;rintro e H ⟨rfl,rfl⟩;go_wp2_with fail
 go_loopg [0,8,9,10] 0 (fun U V _s8 _s9 _s10 Y=>U=0/\V=.slice a 0 M/\Y=H.alloc (.cells #[.slice none 0 0] 190))
 case atStart=>exact⟨rfl,rfl,rfl⟩
 case round=>
 obtain⟨hg,rfl,rfl⟩:=hrel;have hc:=bS H (.slice none 0 0) 190
 by_cases I:most<0
 ·have t1:decide (most<0)=true:=decide_eq_true I;have d:nZ [] most=4:=(rW (by show ¬((([]:List Int).length:Nat):Int)<=most;simp;omega)).2;have z:oX [] most=[]:=(rW (by show ¬((([]:List Int).length:Nat):Int)<=most;simp;omega)).1;go_wp2_with fail
  go_ret2
  exact⟨.slice none 0 0,by first|(rw[d];rfl)|rfl,by first|(rw[z];exact OwI.nil _ _)|exact OwI.nil _ _,(aB _ _).alloc (aA _) _⟩
 ·have t1:decide (most<0)=false:=decide_eq_false I;have d:nZ [] most=0:=(wO (by show((([]:List Int).length:Nat):Int)<=most;simp;omega)).2;have z:oX [] most=[]:=(wO (by show((([]:List Int).length:Nat):Int)<=most;simp;omega)).1;go_wp2_with fail
  go_ret2
  exact⟨.slice none 0 0,by first|(rw[d];rfl)|rfl,by first|(rw[z];exact OwI.nil _ _)|exact OwI.nil _ _,(aB _ _).alloc (aA _) _⟩
theorem aLy (v:Value) (m:List Int) (most:Int) (w:World) (z:RdI w v m) (G:m.length<=100000) (H:∀x∈m,0<=x/\x<=1000000) (A: -9223372036854775808<=most) (E:most<=1000000):
  Calls Tryz.prog 207 #[v,.int .i64 most] w fun e w'=>∃F,e=.returned (.tuple #[F,.int .i64 (nZ m most)])/\OwI w' w.heap.size F (oX m most)/\Below w.heap.size w w':=by
 rcases fJ m.length with d|d
 ·obtain rfl:=List.length_eq_zero_iff.1 d;exact aLx v most w z A E
 ·exact aLp v m most w z G H A E d
theorem wP (a:ByteArray) (o:Int) (y:Value) (_hy:y.oneCell'=true) (w:World) (d:a.size<=140737488355328):
  Calls Tryz.prog 69 #[.agg #[.string a,.int .i64 o,y]] w fun e w'=>e=.returned (.int .i64 ((a.size:Int)+1))/\Below w.heap.size w w':=by
 have z:aI.wrap ((a.size:Int)+1)=(a.size:Int)+1:=by rw[aM];omega
 go_enter Tryz.func69,Tryz.ntmps69;go_wp2_with fail;go_ret;exact⟨rfl,(aB _ _).alloc (aA _) _⟩
def oA (s:ByteArray) (o:Nat->Int):List Int:=cZ 0 (cM (bK s.data.toList) (dM s o s.size))++[((bK s.data.toList).length:Int)+1]
theorem EA:(Tryz.prog.info? 50).map (·.size)=some 3:=by kernel_rfl
def cW:ByteArray:={data:=#[]}
theorem rX (s:List UInt8):(bK s).length<=256:=by
 unfold bK jH;rw[bJ];have:=List.length_filter_le (dB s) (dG 256)
 simpa using this
theorem rY {s:ByteArray} (h:0<s.size):s.toList.isEmpty=false:=by
 rw[AW]
 cases e:s.data.toList with
 |nil=>
  have:s.data.toList.length=s.size:=by simp
  rw[e] at this;simp at this;omega
 |cons b l=>rfl
theorem aLz (w:World):
  Calls Tryz.prog 21 #[.string cW] w fun e w'=>e=.returned (.tuple #[.agg #[.string cW,.int .i64 0,.slice none 0 0],.int .i64 1])/\Below w.heap.size w w':=by
 unfold cW;have d:=Arr.new w 50 [.string {data:=#[]},.int .i64 0,.slice none 0 0];have z:=d.cell (i:=0) rfl;have A:=d.cell (i:=1) rfl;have E:=d.cell (i:=2) rfl;have F:=d.free;go_enter Tryz.func21,Tryz.ntmps21;go_wp2_with fail;exact gJ (zI rfl _ _ w.heap.size _ _ (0,0) _ rfl d Tryz.underlying50 rfl EA) rfl ⟨rfl,(aB _ _).alloc (aA _) _⟩
theorem aL0 (s:ByteArray) (w:World) (h0:0<s.size) (hs:s.size<=65536):
  Calls Tryz.prog 21 #[.string s] w fun e w'=>∃o v,Ord (bX s) s.size s.size o/\e=.returned (.tuple #[.agg #[.string (mkS (bK s.data.toList)),.int .i64 ((fD o s.size:Nat):Int),v],.int .i64 0])/\OwI w' w.heap.size v (oA s o)/\Below w.heap.size w w':=by
 have t0:=rY h0;have t1:decide ((65536:Int)<(s.size:Int))=false:=decide_eq_false (by omega);have t2:decide (65536<s.size)=false:=decide_eq_false (by omega);go_enter Tryz.func21,Tryz.ntmps21;go_wp2_with fail;refine(aG5 s _ (by omega)).mono ?_;rintro e w1 ⟨o,hO,rfl,a2⟩;have a3:=a2.size;obtain⟨n,O⟩:∃n,n=fD o s.size:=⟨_,rfl⟩;have b3:=RQ o s.size;rw[<-O] at b3 ⊢;have HN:=hid O;clear O;go_wp2_with fail;refine(KY s _ (by omega)).mono ?_;rintro e d ⟨rfl,a4⟩;obtain⟨A,z⟩:∃A,A=mkS (bK s.data.toList):=⟨_,rfl⟩;obtain⟨L,F⟩:∃L,L=mkS (dM s o s.size):=⟨_,rfl⟩
 have T:L.data.toList=dM s o s.size:=by rw[F];rfl
 have G:A.data.toList=bK s.data.toList:=by rw[z];rfl
 have a5:L.size=s.size:=by rw[F,cP,sY]
 have d2:A.size<=256:=by rw[z,cP];exact rX _
 have a7:A.data.toList.Nodup:=by rw[G];exact BS _
 have U:∀b∈L.data.toList,b∈A.data.toList:=fun b hb=>by
  rw[G,yC];rw[T] at hb;exact(LN s hO).mem_iff.1 hb
 have b4:(cM A.data.toList L.data.toList).length=s.size:=by rw[rH];simp[a5]
 have V:∀x∈cM A.data.toList L.data.toList,0<=x/\x<=1000000:=fun x hx=>by
  have:=vT L.data.toList A.data.toList U x hx;have hl:A.data.toList.length=A.size:=by simp
  omega
 have a8:oA s o=cZ 0 (cM A.data.toList L.data.toList)++[(A.size:Int)+1]:=by
  unfold oA;rw[<-G,<-T];simp
 have a9:=hid a8;have HA:=hid z;rw[<-z,<-F];have d3:=a4.size;have b0:∀W,Calls Tryz.prog 67 #[.string A,.string L] W fun e w'=>∃v,e=.returned (.tuple #[v,.int .i64 0])/\OwI w' W.heap.size v (cM A.data.toList L.data.toList)/\Below W.heap.size W w':=fun W=>aK3 A L W (by omega) (by omega) a7 U
 have b1:=hid b0;obtain⟨M,hM⟩:∃M,M=cM A.data.toList L.data.toList:=⟨_,rfl⟩;rw[<-hM] at b4 V a9 b1;have b5:=hid V;clear b0 a7 U F z T G a5 hM V a8;go_wp2_with fail;have b6:w.heap.size+1<=d.heap.size:=by simp at a3;omega
 have b7:=Arr.new w 50 [.string {data:=#[]},.int .i64 0,.slice none 0 0];have hq:=Arr.new d 50 [.string A,.int .i64 (n:Int),.slice none 0 0];have b8:Below (w.heap.size+1) (w.alloc (.cells #[.string {data:=#[]},.int .i64 0,.slice none 0 0] 50)) (d.alloc (.cells #[.string A,.int .i64 (n:Int),.slice none 0 0] 50)):=
  ((a2.mono (by simp)).trans (a4.mono (by simp at a3;omega))).alloc b6 _
 have d4:(d.alloc (.cells #[.string A,.int .i64 (n:Int),.slice none 0 0] 50)).heap.size=d.heap.size+1:=by simp
 change Arr (d.alloc (.cells #[.string A,.int .i64 (n:Int),.slice none 0 0] 50)) _ _ _ at hq;generalize d.alloc (.cells #[.string A,.int .i64 (n:Int),.slice none 0 0] 50)=wq at*
 refine(b1.out wq).mono ?_;rintro e H ⟨v3,rfl,b9,Y⟩;have d5:=Y.size;go_wp2_with fail;refine(aK8 v3 M H b9.rd (by omega) (by omega) b5.out).mono ?_;rintro e w4 ⟨v4,rfl,c0,Z⟩;have d6:=Z.size;have hq4:=(hq.below Y (by omega)).below Z (by omega);have q0:=hq4.cell (i:=0) rfl;have q1:=hq4.cell (i:=1) rfl;have q2:=hq4.cell (i:=2) rfl;have q3:=hq4.free;go_wp2_with fail;refine(wP A (n:Int) (.slice none 0 0) rfl w4 (by omega)).mono ?_;rintro e w5 ⟨rfl,I⟩;have d7:=I.size;have c1:=hid (IT M 0);have c2:=(c0.below I (aA _)).base (B':=H.heap.size) (aA _)
 have c3:w.heap.size+1<=w5.heap.size:=by omega
 have c4:w.heap.size+1<=H.heap.size:=by omega
 have c5:Below (w.heap.size+1) (w.alloc (.cells #[.string {data:=#[]},.int .i64 0,.slice none 0 0] 50)) w5:=((b8.trans (Y.mono (by omega))).trans (Z.mono (by omega))).trans (I.mono (by omega));have d8:w.heap.size≠d.heap.size:=by omega
 have c7:d.heap.size≠w.heap.size:=by omega
 go_wp2_with (at_builtin;(refine eN rfl _ _ rfl H.heap.size _ _ rfl (c2.alloc _) w5.heap.size ((A.size:Int)+1) rfl ?_ ?_ ?_ ?_;(exact bS _ _ _);(have:=c1.out.1;omega);(simp;omega);intro v6 w6 a0 a1 _;obtain⟨a6,c6,e6,_,_,_⟩:=a0.rd.open;subst e6;have J:=((hq4.below I (by omega)).alloc _).below a1 (by omega);have g1:=J.cell (i:=0) rfl;have g2:=J.cell (i:=1) rfl;have g3:=J.cell (i:=2) rfl;have g4:=J.free;have c8:=a1.size;simp only[fV] at c8;have b2:=(c5.alloc c3 _).trans (a1.mono c4);have E:=b7.below b2 (by omega);have p1:=E.cell (i:=0) rfl;have p2:=E.cell (i:=1) rfl;have p3:=E.cell (i:=2) rfl;have p4:=E.free))
 rw[show(cZ 0 M++[(A.size:Int)+1]).length=(cZ 0 M).length+1 by simp] at a0;generalize hv:lK a6 ((cZ 0 M).length+1) c6=v6 at*
 have hF:Arr ((((w6.setCell ⟨d.heap.size,2,none⟩ v6).setCell ⟨w.heap.size,0,none⟩ (.string A)).setCell ⟨w.heap.size,1,none⟩ (.int .i64 (n:Int))).setCell ⟨w.heap.size,2,none⟩ v6) w.heap.size 50 [.string A,.int .i64 (n:Int),v6]:=(((E.other ⟨d.heap.size,2,none⟩ c7 v6).set 0 _).set 1 _).set 2 _;have c9:=a0.kept (nK (zH w6 (some d.heap.size)) 2 v6) (fun b e=>by simp at e;omega);have d0:=c9.kept (nK (nK (nK (zH _ (some w.heap.size)) 0 (.string A)) 1 (.int .i64 (n:Int))) 2 v6) (fun b e=>by simp at e;omega)
 have d1:=((((((aB w.heap.size w).alloc (aA _) _).trans (b2.mono (by omega))).setCell (p:=⟨d.heap.size,2,none⟩) (by show w.heap.size<=d.heap.size;omega) v6).setCell (p:=⟨w.heap.size,0,none⟩) (aA _) (.string A)).setCell (p:=⟨w.heap.size,1,none⟩) (aA _) (.int .i64 (n:Int))).setCell (p:=⟨w.heap.size,2,none⟩) (aA _) v6;refine gJ (zI rfl _ _ w.heap.size _ _ (0,0) _ rfl hF Tryz.underlying50 rfl EA) rfl ⟨o,v6,hO,?_,?_,d1⟩
 ·rw[<-HA.out,<-HN.out];rfl
 ·rw[a9.out];exact d0.base (by omega)
theorem aL3 (w:World):
  Calls Tryz.prog 38 #[.string cW] w fun e w'=>e=.returned (.tuple #[.agg #[.string cW,.int .i64 0,.slice none 0 0],.int .i64 1])/\Below w.heap.size w w':=by
 unfold cW;have d:=Arr.new w 50 [.string {data:=#[]},.int .i64 0,.slice none 0 0];have z:=d.cell (i:=0) rfl;have A:=d.cell (i:=1) rfl;have E:=d.cell (i:=2) rfl;have F:=d.free;go_enter Tryz.func38,Tryz.ntmps38;go_wp2_with fail;exact gJ (zI rfl _ _ w.heap.size _ _ (0,0) _ rfl d Tryz.underlying50 rfl EA) rfl ⟨rfl,(aB _ _).alloc (aA _) _⟩
theorem aL4 (s:ByteArray) (w:World) (h0:0<s.size) (hs:s.size<=65536):
  Calls Tryz.prog 38 #[.string s] w fun e w'=>∃o v,Ord (bX s) s.size s.size o/\e=.returned (.tuple #[.agg #[.string (mkS (bK s.data.toList)),.int .i64 ((fD o s.size:Nat):Int),v],.int .i64 0])/\OwI w' w.heap.size v (oA s o)/\Below w.heap.size w w':=by
 have t0:=rY h0;have t1:decide ((65536:Int)<(s.size:Int))=false:=decide_eq_false (by omega);have t2:decide (65536<s.size)=false:=decide_eq_false (by omega);go_enter Tryz.func38,Tryz.ntmps38;go_wp2_with fail;refine(KZ s _ (by omega)).mono ?_;rintro e w1 ⟨rfl,V⟩;have b1:=V.size;simp only[fV] at b1;obtain⟨A,d⟩:∃A,A=mkS (bK s.data.toList):=⟨_,rfl⟩;rw[<-d];have b2:=hid d;clear d;go_wp2_with fail;refine(aG7 s _ (by omega) (fun w=>aHh s w (by omega))).mono ?_;rintro e w2 ⟨o,Y,rfl,Z⟩;have c7:=Z.size;obtain⟨n,G⟩:∃n,n=fD o s.size:=⟨_,rfl⟩
 have b3:=RQ o s.size;rw[<-G] at b3 ⊢;have HN:=hid G;clear G;obtain⟨L,E⟩:∃L,L=mkS (dM s o s.size):=⟨_,rfl⟩;have d:=b2.out;have H:L.data.toList=dM s o s.size:=by rw[E];rfl
 have F:A.data.toList=bK s.data.toList:=by rw[d];rfl
 have a0:L.size=s.size:=by rw[E,cP,sY]
 have c8:A.size<=256:=by rw[d,cP];exact rX _
 have a1:A.data.toList.Nodup:=by rw[F];exact BS _
 have I:∀b∈L.data.toList,b∈A.data.toList:=fun b hb=>by
  rw[F,yC];rw[H] at hb;exact(LN s Y).mem_iff.1 hb
 have b4:(cM A.data.toList L.data.toList).length=s.size:=by rw[rH];simp[a0]
 have J:∀x∈cM A.data.toList L.data.toList,0<=x/\x<=1000000:=fun x hx=>by
  have:=vT L.data.toList A.data.toList I x hx;have hl:A.data.toList.length=A.size:=by simp
  omega
 have a2:oA s o=cZ 0 (cM A.data.toList L.data.toList)++[(A.size:Int)+1]:=by
  unfold oA;rw[<-F,<-H];simp
 have a3:=hid a2;have HA:=hid d;rw[<-E];have a4:∀W,Calls Tryz.prog 99 #[.string A,.string L] W fun e w'=>∃v,e=.returned (.tuple #[v,.int .i64 0])/\OwI w' W.heap.size v (cM A.data.toList L.data.toList)/\Below W.heap.size W w':=fun W=>TL A L W (by omega) (by omega) a1 I
 have a5:=hid a4;obtain⟨M,hM⟩:∃M,M=cM A.data.toList L.data.toList:=⟨_,rfl⟩;rw[<-hM] at b4 J a3 a5;have b5:=hid J;clear a4 a1 I E d H F a0 hM J a2;go_wp2_with fail;refine(a5.out w2).mono ?_;rintro e O ⟨v3,rfl,b6,a7⟩;have c9:=a7.size;go_wp2_with fail;refine(aL2 v3 M O b6.rd (by omega) (by omega) b5.out).mono ?_;rintro e T ⟨v4,rfl,b7,a8⟩;have d0:=a8.size;have b8:=Arr.new w 50 [.string {data:=#[]},.int .i64 0,.slice none 0 0];have b9:=hid (IT M 0);have e1:aI.wrap ((A.size:Int)+1)=(A.size:Int)+1:=by rw[aM];omega
 have c0:w.heap.size+1<=T.heap.size:=by omega
 have c1:w.heap.size+1<=O.heap.size:=by omega
 have c2:Below (w.heap.size+1) (w.alloc (.cells #[.string {data:=#[]},.int .i64 0,.slice none 0 0] 50)) T:=(((V.mono (by simp)).trans (Z.mono (by omega))).trans (a7.mono (by omega))).trans (a8.mono (by omega))
 go_wp2_with (at_builtin;(refine eN rfl _ _ rfl O.heap.size _ _ rfl (b7.alloc _) T.heap.size ((A.size:Int)+1) rfl ?_ ?_ ?_ ?_;(exact bS _ _ _);(have:=b9.out.1;omega);(simp;omega);intro v6 w6 U a9 _;obtain⟨a6,c6,e6,_,_,_⟩:=U.rd.open;subst e6;have c3:=a9.size;simp only[fV] at c3;have b0:=(c2.alloc c0 _).trans (a9.mono c1);have z:=b8.below b0 (by omega);have p1:=z.cell (i:=0) rfl;have p2:=z.cell (i:=1) rfl;have p3:=z.cell (i:=2) rfl;have p4:=z.free));rw[show(cZ 0 M++[(A.size:Int)+1]).length=(cZ 0 M).length+1 by simp] at U
 generalize hv:lK a6 ((cZ 0 M).length+1) c6=v6 at*
 have hF:Arr (((w6.setCell ⟨w.heap.size,0,none⟩ (.string A)).setCell ⟨w.heap.size,1,none⟩ (.int .i64 (n:Int))).setCell ⟨w.heap.size,2,none⟩ v6) w.heap.size 50 [.string A,.int .i64 (n:Int),v6]:=((z.set 0 _).set 1 _).set 2 _;have c4:=U.kept (nK (nK (nK (zH _ (some w.heap.size)) 0 (.string A)) 1 (.int .i64 (n:Int))) 2 v6) (fun b e=>by simp at e;omega)
 have c5:=(((((aB w.heap.size w).alloc (aA _) _).trans (b0.mono (by omega))).setCell (p:=⟨w.heap.size,0,none⟩) (aA _) (.string A)).setCell (p:=⟨w.heap.size,1,none⟩) (aA _) (.int .i64 (n:Int))).setCell (p:=⟨w.heap.size,2,none⟩) (aA _) v6;refine gJ (zI rfl _ _ w.heap.size _ _ (0,0) _ rfl hF Tryz.underlying50 rfl EA) rfl ⟨o,v6,Y,?_,?_,c5⟩
 ·rw[<-HA.out,<-HN.out];rfl
 ·rw[a3.out];exact c4.base (by omega)
theorem WV (a:ByteArray) (o:Int) (y:Value) (A:y.oneCell'=true) (w:World) (E:a.size<=140737488355328):
  Calls Tryz.prog 30 #[.agg #[.string a,.int .i64 o,y]] w fun e w'=>e=.returned (.int .i64 ((a.size:Int)+2))/\Below w.heap.size w w':=by
 have G:aI.wrap ((a.size:Int)+1+1)=(a.size:Int)+2:=by rw[aM];omega
 have d:=Arr.new w 50 [.string a,.int .i64 o,y];have H:=d.cell (i:=0) rfl;have I:=d.cell (i:=1) rfl;have J:=d.cell (i:=2) rfl;have z:=(aB w.heap.size w).alloc (aA _) (.cells #[.string a,.int .i64 o,y] 50);go_enter Tryz.func30,Tryz.ntmps30;go_wp2_with fail;refine(wP a o y A _ E).mono ?_;rintro e L ⟨rfl,F⟩;go_wp2_with fail;go_ret;exact⟨rfl,z.trans (F.mono z.size)⟩
theorem aL5 (a:ByteArray) (o:Int) (y:Value) (_hy:y.oneCell'=true) (w:World) (d:a.size<=140737488355328):
  Calls Tryz.prog 40 #[.agg #[.string a,.int .i64 o,y]] w fun e w'=>e=.returned (.int .i64 ((a.size:Int)+2))/\Below w.heap.size w w':=by
 have z:aI.wrap ((a.size:Int)+2)=(a.size:Int)+2:=by rw[aM];omega
 go_enter Tryz.func40,Tryz.ntmps40;go_wp2_with fail;go_ret;exact⟨rfl,(aB _ _).alloc (aA _) _⟩
theorem WW {a b:ByteArray} (h:a≠b):(a.toList==b.toList)=false:=by
 rw[AW,AW,<-Bool.not_eq_true,beq_iff_eq];exact fun e=>h (by rw[<-pL a,e,pL])
def gW (l:List Int) (e:Int):Prop:=0<l.length/\l[l.length-1]? =some e/\∀x∈l.take (l.length-1),0<=x/\x<e
instance (l:List Int) (e:Int):Decidable (gW l e):=inferInstanceAs (Decidable (0<l.length/\l[l.length-1]? =some e/\∀x∈l.take (l.length-1),0<=x/\x<e))
theorem aL6 (v:Value) (l:List Int) (e:Int) (w:World) (hr:RdI w v l):
  Calls Tryz.prog 122 #[v,.int .i64 e] w fun e' w'=>e'=.returned (.bool (decide (gW l e)))/\w'=w:=by
 obtain⟨ad,ca,rfl,M,a1,O⟩:=hr.open;unfold maxLen at a1;go_enter Tryz.func122,Tryz.ntmps122
 by_cases h0:l.length=0
 ·have d:decide (gW l e)=false:=decide_eq_false (fun h=>by have:=h.1;omega);have t1:decide (l.length=0)=true:=decide_eq_true h0;go_wp2_with fail;go_ret
  first|exact⟨sN d.symm,rfl⟩|exact⟨rfl,rfl⟩
 ·have T:0<l.length:=by omega
  obtain⟨b0,o0,rfl,a4,F⟩:=O T;obtain⟨m,G⟩:∃m,l.length=m+1:=⟨l.length-1,by omega⟩;obtain⟨y,H⟩:=dH (show m<l.length by omega);have c1:=F m y H;rw[G] at M ⊢;have e1:aI.wrap (((m+1:Nat):Int)-1)=(m:Int):=by rw[aM];omega
  have e2:(m:Int)<((m+1:Nat):Int):=by omega
  have e4:m+1<=ca:=M;have A:=hid G;have HC:=hid F;have U:=hid H;clear G F O H;have f1:((m:Int)+1==0)=false:=by rw[beq_eq_false_iff_ne];omega
  have f3:((m:Int)+1=0)=False:=eq_false (by omega)
  by_cases I:y=e
  ·subst I;have f2:(y != y)=false:=by simp
   go_wp2_with fail
   go_loopg [6] m (fun gh s6 wq=>∃k:Nat,k<=m/\gh=m-k/\s6=.int .i64 (k:Int)/\wq=w/\∀x∈l.take k,0<=x/\x<y)
   case atStart=>exact⟨0,aU _,rfl,rfl,rfl,by simp⟩
   case round=>
   obtain⟨k,hk,J,rfl,rfl,V⟩:=hrel;have HG:=hid J;have Y:=hid V;clear J V
   by_cases a2:k<m
   ·have q1:(k:Int)+1<(m:Int)+1:=by omega
    have q2:k<m+1:=by omega
    obtain⟨x,L⟩:=dH (show k<l.length by rw[A.out];exact q2);have c2:=HC.out k x L;have Z:=hid L;clear L
    by_cases hb:0<=x/\x<y
    ·have r1:decide (x<0)=false:=decide_eq_false (by omega);have r2:decide (y<=x)=false:=decide_eq_false (by omega);go_wp2_with fail;have J:=HG.out
     go_roundg (m-(k+1))
     case measure=>omega
     case rel=>
      refine⟨k+1,by omega,rfl,by go_num,rfl,fun z E=>?_⟩;rw[cQ,Z.out,mX,cU,List.mem_singleton] at E;rcases E with E|rfl
      ·exact Y.out z E
      ·exact hb
    ·have d:decide (gW l y)=false:=decide_eq_false (fun h=>by
      refine hb (h.2.2 x ?_);rw[A.out,jZ];refine cH (i:=k) ?_;rw[mB a2];exact Z.out)
     by_cases a0:x<0
     ·have r1:decide (x<0)=true:=decide_eq_true a0;go_wp2_with fail;go_ret
      first|exact⟨sN d.symm,rfl⟩|exact⟨rfl,rfl⟩
     ·have r1:decide (x<0)=false:=decide_eq_false a0;have r2:decide (y<=x)=true:=decide_eq_true (by omega);go_wp2_with fail;go_ret
      first|exact⟨sN d.symm,rfl⟩|exact⟨rfl,rfl⟩
   ·have a3:k=m:=by omega
    have d:decide (gW l y)=true:=decide_eq_true ⟨T,by rw[A.out,jZ];exact U.out,by rw[A.out,jZ,<-a3];exact Y.out⟩;have HN:=hid d;clear d;go_wp2_with fail;go_ret;exact⟨sN HN.out.symm,rfl⟩
  ·have d:decide (gW l e)=false:=decide_eq_false (fun h=>by
    have:=h.2.1;rw[A.out,jZ,U.out] at this;exact I (bW this))
   have f2:(y != e)=true:=by simp[I]
   go_wp2_with fail;go_ret
   first|exact⟨sN d.symm,rfl⟩|exact⟨rfl,rfl⟩
def cE (l:List Int):List Int:=dA (l.take (l.length-1))
def rest (a:ByteArray) (o:Int) (l:List Int) (most:Int):ByteArray×Int:=
 if ¬(a.data.toList≠[]/\bK a.data.toList=a.data.toList) then(cW,1)
 else if ¬gW l ((a.size:Int)+1) then(cW,3)
 else if ¬((cE l).length:Int)<=most then(cW,4)
 else if ¬(0<=o/\o<((cE l).length:Int)) then(cW,3)
 else(mkS (nF (unL a.data.toList (cE l)) o.toNat),0)
theorem wQ {a:ByteArray} {o:Int} {l:List Int} {most:Int} (h:¬(a.data.toList≠[]/\bK a.data.toList=a.data.toList)):rest a o l most=(cW,1):=if_pos h
theorem zK {a:ByteArray} {o:Int} {l:List Int} {most:Int} (h:a.data.toList≠[]/\bK a.data.toList=a.data.toList) (d:¬gW l ((a.size:Int)+1)):rest a o l most=(cW,3):=by
 unfold rest;rw[if_neg (fun k=>k h),if_pos d]
theorem zL {a:ByteArray} {o:Int} {l:List Int} {most:Int} (h:a.data.toList≠[]/\bK a.data.toList=a.data.toList) (d:gW l ((a.size:Int)+1)) (z:¬((cE l).length:Int)<=most):rest a o l most=(cW,4):=by
 unfold rest;rw[if_neg (fun k=>k h),if_neg (fun k=>k d),if_pos z]
theorem zM {a:ByteArray} {o:Int} {l:List Int} {most:Int} (h:a.data.toList≠[]/\bK a.data.toList=a.data.toList) (d:gW l ((a.size:Int)+1)) (z:((cE l).length:Int)<=most) (A:¬(0<=o/\o<((cE l).length:Int))):rest a o l most=(cW,3):=by
 unfold rest;rw[if_neg (fun k=>k h),if_neg (fun k=>k d),if_neg (fun k=>k z),if_pos A]
theorem wR {a:ByteArray} {o:Int} {l:List Int} {most:Int} (h:a.data.toList≠[]/\bK a.data.toList=a.data.toList) (d:gW l ((a.size:Int)+1)) (z:((cE l).length:Int)<=most) (A:0<=o/\o<((cE l).length:Int)):rest a o l most=(mkS (nF (unL a.data.toList (cE l)) o.toNat),0):=by
 unfold rest;rw[if_neg (fun k=>k h),if_neg (fun k=>k d),if_neg (fun k=>k z),if_neg (fun k=>k A)]
theorem aMd:∀(m:List Int) (n p:Nat),∀y∈zx n p m,y=0\/∃x∈m,2<=x/\y=x-1:=by
 intro m
 induction m with
 |nil=>intro n p y d;exact .inl (aCo d)
 |cons x m E=>
  intro n p y d;unfold zx at d
  by_cases h:x<2
  ·rw[if_pos h] at d;rcases E _ _ y d with q|⟨z,A,q⟩
   ·exact .inl q
   ·exact .inr ⟨z,jD _ A,q⟩
  ·rw[if_neg h,cU,List.mem_cons] at d;rcases d with d|rfl|d
   ·exact .inl (aCo d)
   ·exact .inr ⟨x,by simp,by omega,rfl⟩
   ·rcases E _ _ y d with q|⟨z,A,q⟩
    ·exact .inl q
    ·exact .inr ⟨z,jD _ A,q⟩
theorem LQ {l:List Int} {n:Nat} (h:gW l ((n:Int)+1)) (A:0<n):∀y∈cE l,0<=y/\y<(n:Int):=fun y d=>by
 rcases aMd _ _ _ y d with q|⟨x,z,E,q⟩
 ·omega
 ·have:=h.2.2 x z;omega
theorem WZ {w:World} {d:Option Addr} {n z:Nat} {l:List Int} (h:RdI w (.slice d n z) l) (A:0<l.length):∃b off,d=some ⟨b,off,none⟩/\b<w.heap.size/\∀j x,l[j]? =some x->w.cell? ⟨b,off+j,none⟩=some (.int .i64 x):=by
 obtain⟨a,c,e,_,_,E⟩:=h.open;obtain⟨b,off,rfl,q⟩:=E A;exact⟨b,off,by injection e,q⟩
theorem EB {w:World} {b off d:Nat} {l:List Int} (E:b<w.heap.size) (F:∀j x,l[j]? =some x->w.cell? ⟨b,off+j,none⟩=some (.int .i64 x)) (k:Nat) (I:k<=l.length) (J:l.length<=d) (G:d<=maxLen):RdI w (.slice (some ⟨b,off,none⟩) k d) (l.take k):=by
 have z:(l.take k).length=k:=by rw[aX];omega
 refine⟨_,_,by rw[z],by rw[z];omega,G,.inr ⟨b,off,rfl,E,fun j H=>?_⟩⟩;rw[bJ] at H;have A:j<l.length:=by omega
 rw[F j _ (aN A)];simp[fF,A,show j<k by omega]
theorem vA {s:ByteArray} (h:s.data.toList=[]):s.toList.isEmpty=true:=by
 rw[AW,h];rfl
theorem LR {s:ByteArray} (h:s.data.toList≠[]):s.toList.isEmpty=false:=by
 rw[AW]
 cases e:s.data.toList with
 |nil=>exact absurd e h
 |cons b l=>rfl
theorem aMe (a:ByteArray) (o:Int) (v:Value) (l:List Int) (most:Int) (w:World) (ha:a.size<=140737488355328) (hr:RdI w v l) (hl:l.length<=100000) (c9: -9223372036854775808<=o) (d2:o<=9223372036854775807) (d4: -9223372036854775808<=most) (d5:most<=1000000):
  Calls Tryz.prog 56 #[.agg #[.string a,.int .i64 o,v],.int .i64 most] w fun e w'=>e=.returned (.tuple #[.string (rest a o l most).1,.int .i64 (rest a o l most).2])/\Below w.heap.size w w':=by
 obtain⟨A,z,rfl,d6,a9,hA⟩:=hr.open;have d7:=a9;unfold maxLen at a9;have E:=Arr.new w 50 [.string a,.int .i64 o,.slice A l.length z];have c0:=E.cell (i:=0) rfl;have c1:=E.cell (i:=1) rfl;have c2:=E.cell (i:=2) rfl;have U:=(aB w.heap.size w).alloc (aA _) (.cells #[.string a,.int .i64 o,.slice A l.length z] 50);have d8:(w.alloc (.cells #[.string a,.int .i64 o,.slice A l.length z] 50)).heap.size=w.heap.size+1:=by simp
 have d9:=hr.below U
 by_cases V:a.data.toList=[]
 ·have d:rest a o l most=(cW,1):=wQ (fun h=>h.1 V);rw[d];have t1:=vA V;go_enter Tryz.func56,Tryz.ntmps56;go_wp2_with fail
  go_quiet (fail)
  go_wp2_with fail
  go_ret2
  exact⟨rfl,iI U _⟩
 have t1:=LR V
 by_cases H:bK a.data.toList=a.data.toList
 ·have a1:=hid (And.intro V H);have t2:((mkS (bK a.data.toList)).toList==a.toList)=true:=by rw[H,pL];simp
  have a3:a.data.toList.length=a.size:=by simp
  have e9:a.size<=256:=by rw[<-a3,<-H];exact rX _
  have e0:0<a.size:=by
   rw[<-a3];exact List.length_pos_iff.2 V
  have e1:a.data.toList.Nodup:=by rw[<-H];exact BS _
  have f0:=hid a3;have b1:=hid H;clear a3 H;have q1:aI.wrap ((a.size:Int)+1)=(a.size:Int)+1:=by rw[aM];omega
  go_enter Tryz.func56,Tryz.ntmps56;go_upto_region 1 with fail;change Arr (w.alloc (.cells #[.string a,.int .i64 o,.slice A l.length z] 50)) _ _ _ at E;generalize w.alloc (.cells #[.string a,.int .i64 o,.slice A l.length z] 50)=J at*
  go_cut [23] (fun a5 wx=>a5=.bool false/\Below w.heap.size w wx/\Arr wx w.heap.size 50 [.string a,.int .i64 o,.slice A l.length z])
  case first=>
   rw[b1.out] at t2
   go_region_with (go_at_call 97;refine(KZ a _ ha).mono ?_;rintro e Y ⟨rfl,F⟩;rw[b1.out];have k0:Arr Y w.heap.size 50 [.string a,.int .i64 o,.slice A l.length z]:=by{first|exact Arr.below E F (by omega)|exact Arr.below (w:=J.drew) E F (by show w.heap.size<J.heap.size;omega)};have k1:=k0.cell (i:=0) rfl)
   all_goals go_wp2_with fail
   all_goals go_meet
   all_goals exact⟨rfl,U.trans (by first|exact F.mono (by omega)|exact(aB _ _).drew.trans (F.mono (by show w.heap.size<=J.heap.size;omega))),k0⟩
  case rest=>
   obtain⟨rfl,Z,a0⟩:=hcut;clear c0 c1 c2 E d9 U d8;have c0:=a0.cell (i:=0) rfl;have c1:=a0.cell (i:=1) rfl;have c2:=a0.cell (i:=2) rfl;have b2:=a0.lt;have b3:=hr.below Z;go_wp2_with fail;refine(aL6 _ l ((a.size:Int)+1) _ b3).mono ?_;rintro e Y ⟨rfl,rfl⟩
   by_cases G:gW l ((a.size:Int)+1)
   ·rw[decide_eq_true G];obtain⟨m,hm⟩:∃m,l.length=m+1:=⟨l.length-1,by have:=G.1;omega⟩;obtain⟨b0,o0,rfl,e2,b4⟩:=WZ b3 (by omega);have b5:=LQ G e0;have b6:=EB e2 b4 m (by omega) d6 d7;have b7:∀x∈l.take m,0<=x/\x<=1000000:=fun x hx=>by
     have:=G.2.2 x (by rw[hm,jZ];exact hx);omega
    have b8:cE l=dA (l.take m):=by unfold cE;rw[hm,jZ]
    have e3:(l.take m).length=m:=by rw[aX];omega
    have hD:=aLm _ (l.take m) most Y b6 (by omega) b7 d4 d5;have HD:=hid hD;have b9:=hid b5;have a6:=hid b8;have HM:=hid hm;have r1:aI.wrap ((l.length:Int)-1)=(m:Int):=by rw[aM];omega
    have r2:m<=z:=by omega
    have r3:(m:Int)<=(z:Int):=by omega
    have r4:(0:Int)<=(m:Int):=by omega
    clear hD b5 b8 hm b6 b7 b4 hA e3;go_wp2_with fail;refine HD.out.mono ?_;rintro e w2 ⟨v2,rfl,O,a7⟩;have T:=Z.trans (a7.mono (by omega));have y1:=a0.below a7 b2;have d0:=y1.cell (i:=0) rfl;have d1:=y1.cell (i:=1) rfl
    by_cases I:((cE l).length:Int)<=most
    ·have a4:=wO (m:=l.take m) (by rw[<-a6.out];exact I);rw[a4.2];rw[a4.1,<-a6.out] at O;obtain⟨M,L⟩:∃M,M=cE l:=⟨_,rfl⟩;rw[<-L] at O b9
     by_cases hor:0<=o/\o<((cE l).length:Int)
     ·have d:=hid (wR a1.out G I hor);have e4:0<=o/\o<(M.length:Int):=by rw[L];exact hor
      have e5:M.length<=1000000:=by rw[L];omega
      have c3:=hid (TM a v2 M w2 (by omega) e5 e1 O.rd b9.out);have a8:(unL a.data.toList M).length=M.length:=oO _ _;have c4:lE (unL a.data.toList M) o=nF (unL a.data.toList M) o.toNat:=by
       unfold lE;rw[if_pos (by unfold mJ;rw[a8];simp;omega)]
      have e6:=hid c4;rw[<-L] at d;obtain⟨S,hS⟩:∃S,S=mkS (unL a.data.toList M):=⟨_,rfl⟩;have f1:S.size=M.length:=by rw[hS,cP,a8]
      rw[<-hS] at c3;have HS:=hid hS;clear hor I a4 L c4 a8 hS;obtain⟨a2,c5,rfl,_,_,_⟩:=O.rd.open;have s2:((M.length:Int)==0)=false:=by rw[beq_eq_false_iff_ne];omega
      have s3:decide (o<0)=false:=decide_eq_false (by omega);have s4:decide ((M.length:Int)<=o)=false:=decide_eq_false (by omega);go_wp2_with fail;refine c3.out.mono ?_;rintro e w3 ⟨rfl,c6⟩;have c7:=T.trans (c6.mono T.size);have y3:=y1.below c6 (dR b2 a7.size);have d3:=y3.cell (i:=1) rfl;go_wp2_with fail;refine(aMc S o w3 (by omega) c9 d2).mono ?_;rintro e w4 ⟨rfl,e7⟩;go_wp2_with fail
      go_ret2
      refine⟨?_,c7.trans (e7.mono c7.size)⟩;rw[d.out,<-e6.out,HS.out];rfl
     ·have d:=hid (zM a1.out G I hor);have e4:¬(0<=o/\o<(M.length:Int)):=by rw[L];exact hor
      clear hor I a4 L;obtain⟨a2,c5,rfl,_,_,_⟩:=O.rd.open
      by_cases e8:M.length=0
      ·have s1:decide (M.length=0)=true:=decide_eq_true e8;have s2:((M.length:Int)==0)=true:=by rw[beq_iff_eq];omega
       go_wp2_with fail
       go_ret2
       exact⟨by rw[d.out];rfl,T⟩
      ·have s2:((M.length:Int)==0)=false:=by rw[beq_eq_false_iff_ne];omega
       by_cases ho:o<0
       ·have s3:decide (o<0)=true:=decide_eq_true ho;go_wp2_with fail
        go_ret2
        exact⟨by rw[d.out];rfl,T⟩
       ·have s3:decide (o<0)=false:=decide_eq_false ho;have s4:decide ((M.length:Int)<=o)=true:=decide_eq_true (by omega);go_wp2_with fail
        go_ret2
        exact⟨by rw[d.out];rfl,T⟩
    ·have c8:=rW (m:=l.take m) (by rw[<-a6.out];exact I);have d:=hid (zL (o:=o) a1.out G I);rw[c8.2];clear c8 I;obtain⟨a2,c5,rfl,_,_,_⟩:=O.rd.open;go_wp2_with fail
     go_ret2
     exact⟨by rw[d.out];rfl,T⟩
   ·rw[decide_eq_false G];have d:=zK (o:=o) (most:=most) a1.out G;go_wp2_with fail
    go_ret2
    exact⟨by rw[d];rfl,Z⟩
 ·have d:rest a o l most=(cW,1):=wQ (fun h=>H h.2);rw[d];have t2:((mkS (bK a.data.toList)).toList==a.toList)=false:=WW (fun e=>H (by have:=congrArg (fun s=>s.data.toList) e;simpa using this));go_enter Tryz.func56,Tryz.ntmps56;go_upto_region 1 with fail;change Arr (w.alloc (.cells #[.string a,.int .i64 o,.slice A l.length z] 50)) _ _ _ at E;generalize w.alloc (.cells #[.string a,.int .i64 o,.slice A l.length z] 50)=J at*
  go_cut [23] (fun a5 wx=>a5=.bool true/\Below w.heap.size w wx)
  case first=>
   go_region_with (go_at_call 97;refine(KZ a _ ha).mono ?_;rintro e Y ⟨rfl,F⟩;have k0:Arr Y w.heap.size 50 [.string a,.int .i64 o,.slice A l.length z]:=by{first|exact Arr.below E F (by omega)|exact Arr.below (w:=J.drew) E F (by show w.heap.size<J.heap.size;omega)};have k1:=k0.cell (i:=0) rfl)
   all_goals go_wp2_with fail
   all_goals go_meet
   all_goals exact⟨rfl,U.trans (by first|exact F.mono (by omega)|exact(aB _ _).drew.trans (F.mono (by show w.heap.size<=J.heap.size;omega)))⟩
  case rest=>
   obtain⟨rfl,Z⟩:=hcut;go_wp2_with fail
   go_ret2
   exact⟨rfl,Z⟩
end
section
open Go.RowKit Go Go.Shelf
def MN {α:Type} (n:Nat) (P:gD) (g:Nat) (lb:Array Value) (encs:α->Array Value) (Bs:Nat) (Kp:World->World->Prop) (xs:List α) (w:World):Prop:=
 ∀(l:Nat) (J:List α->World->Prop) (W:World),Below w.heap.size w W->AbidesFrom W.heap.size J->(∀s A v,J s A->J s (A.setCell ⟨Bs,0,none⟩ v))->
  (∀z x E,J z E->(∃r,z++x::r=xs)->YieldAt eA (n-1) P l (encs x) E fun e d=>e=.returned (.bool true)/\J (z++[x]) d/\Kp E d)->
  J [] W->
  mD eA n P g (#[.func (.yield l) #[] #[]]++lb) W fun e d=>(∃v,e=.returned v)/\J xs d
theorem MO {α:Type} {n:Nat} {P:gD} {g:iM} {M:Array Tmp} {assign body:Code} {Q:Exit->Act->World->Prop} {a:Act} {w:World}
  (h1:1<=n) {gf:Nat} {lb:Array Value} (hg:a.eval g=.func (.func gf) #[] lb) (eg:∀args w,(callFunc gf args).run P w=.ok (.enter gf args) w)
  {encs:α->Array Value} {Kp:World->World->Prop} {xs:List α} {Bs:Nat} {w0:World} (a2:MN (n-1) P gf lb encs Bs Kp xs w0)
  (V:∀{A B C:World},Kp A B->Kp B C->Kp A C) (Y:∀(W:World) (l:Nat) (o o':Obj),w.heap.size<=l->W.heap[l]? =some o->o.isCells=false->o.isWalk=false->Kp W (W.putObj l o')) (Z:Below w0.heap.size w0 w) (a4:∀x,(encs x).size=M.size)
  (b8:Bs<w.heap.size)
  (I:List α->World->Prop) (G:OwnFrom w.heap.size I) (a5:∀s A v,I s A->I s (A.setCell ⟨Bs,0,none⟩ v)) (h0:I [] w) (a₁:α->Act)
  (a6:∀(l:Nat) (x:α) (W:World) (K:Act->World->Prop),K (a₁ x) W->
   assign.wpIn (eA.inRound l) (n-1-1) P (Exit.then K (fun _ _ _=>False)) {tmps:=(M.zip (encs x)).foldl (fun t (p,v)=>t.setIfInBounds p v) a.tmps,defers:=[]} W)
  (hbody:∀(l:Nat) (F:List α) (x:α) (W:World),I F W->(∃r,F++x::r=xs)->body.wpIn (eA.inRound l) (n-1-1) P (ownPostG w.heap.size Kp I (fun _ _ _=>False) (F++[x]) W) (a₁ x) W)
  (hdone:∀(D:Nat) (W:World),w.heap.size<=D->I xs W->W.heap[D]? =some (.deferred (some []))->Q .normal {a with defers:={target:=.collected D,args:=#[]}::a.defers} W):
  (Code.rangeFunc g M assign body).wpIn eA n P Q a w:=by
 refine wpIn_rangeFunc ?_;intro fn a7;rw[show eA.round=none from rfl]
 let mk:LoopState->Loop:=fun st=>{state:=st,pending:=none,fn,tmps:=a.tmps,params:=M,assign,body,defers:=w.heap.size}
 let d:=(w.alloc (.deferred (some []))).alloc (.loop (mk .ready))
 have a8:d.heap[w.heap.size+1]? =some (.loop (mk .ready)):=by
  have:=BC (w.alloc (.deferred (some []))) (.loop (mk .ready));rwa[fV] at this
 have a9:d.heap[w.heap.size]? =some (.deferred (some [])):=(oF _ _ _ (by simp)).trans (BC w _);have b0:I [] d:=G.alloc _ (G.alloc _ h0);have b9:d.heap.size=w.heap.size+2:=by simp[d]
 have b1:Below w0.heap.size w0 d:=Z.trans ((((aB _ w).alloc (aA _) _).alloc (by simp) _).mono Z.size);have a0:∀(A:World) (v:Value) (k:Nat),w.heap.size<=k->(A.setCell ⟨Bs,0,none⟩ v).heap[k]? =A.heap[k]? :=fun A v k O=>
  kT A ⟨Bs,0,none⟩ k v (fun e=>by have:k=Bs:=e;omega)
 refine⟨w.heap.size+1,[{target:=.collected w.heap.size,args:=#[]}],d,{target:=.fn (.func gf) lb,args:=#[.func (.yield (w.heap.size+1)) #[] #[]]},d,gf,
  #[.func (.yield (w.heap.size+1)) #[] #[]]++lb,d,aC2 _ _ _ _ _,?_,?_,?_,fun _=>h1,?_⟩
 ·simp only[resolve,hg];simp[go_sem]
 ·exact fun _ _=>trivial
 ·simp[invoke,go_sem,eg]
 ·let J:List α->World->Prop:=fun F W=>I F W/\W.heap[w.heap.size+1]? =some (.loop (mk .ready))/\W.heap[w.heap.size]? =some (.deferred (some []))
  have hJ:AbidesFrom d.heap.size J:=fun s A B row z U L=>
   ⟨G s A B row z.1 U (fun r e=>by obtain⟨hB,o,ho,hw⟩:=L r e;exact⟨by omega,o,ho,Obj.not_cells_of_walk hw⟩),
    (grownBy_keeps U (fun r e=>(L r e).2) z.2.1 rfl).trans z.2.1,(grownBy_keeps U (fun r e=>(L r e).2) z.2.2 rfl).trans z.2.2⟩
  have b2:∀s A v,J s A->J s (A.setCell ⟨Bs,0,none⟩ v):=fun s A v z=>
   ⟨a5 s A v z.1,by rw[a0 A v _ (by omega)];exact z.2.1,by rw[a0 A v _ (aA _)];exact z.2.2⟩
  refine(a2 (w.heap.size+1) J d b1 hJ b2 ?_ ⟨b0,a8,a9⟩).mono ?_
  ·rintro F x W ⟨hi,E,O⟩ hx;have b3:w.heap.size+1<W.heap.size:=(gQ.1 E).1;have hy:=run_yield (P:=P) (args:=encs x) E (a4 x);refine⟨fn,_,assign,body,hy,roundIn_of_wpIn a7 (a6 _ x W _ ⟨_,run_beginRound E rfl,?_⟩)⟩;have b4:(W.putObj (w.heap.size+1) (.loop {mk .ready with state:=.busy})).heap[w.heap.size+1]? =some (.loop {mk .ready with state:=.busy}):=BD b3;have b5:(W.putObj (w.heap.size+1) (.loop {mk .ready with state:=.busy})).heap[w.heap.size]? =some (.deferred (some [])):=(pK (by omega)).trans O
   have b6:Kp W (W.putObj (w.heap.size+1) (.loop {mk .ready with state:=.busy})):=Y _ _ _ _ (by omega) E rfl rfl;refine wpIn_mono (hbody _ F x _ (G.putObj _ hi (by omega) E rfl) hx) ?_;rintro e a3 W3 H
   cases e with
   |normal=>
    obtain⟨a1,b7,hi3⟩:=H;have T:=a1.same _ _ (by omega) b4 rfl;have L:=run_endRound (P:=P) none T;refine⟨_,_,L,⟨rfl,⟨G.putObj _ hi3 (by omega) T rfl,BD (gQ.1 T).1,(pK (by omega)).trans (a1.same _ _ (aA _) b5 rfl)⟩,?_⟩⟩;exact V (V b6 b7) (Y _ _ _ _ (by omega) T rfl rfl)
   |ret=>exact H.2.elim
   |exit id=>exact H.2.elim
   |goto t=>exact H.2.elim
   |panic ch=>exact H.elim
   |outgrown=>exact H.elim
  ·rintro e W2 ⟨⟨v,rfl⟩,hi,E,O⟩;exact⟨none,_,GX (P:=P) E (by simp[mk]),hdone _ _ (aA _) (G.putObj _ hi (by omega) E rfl) ((pK (by omega)).trans O)⟩
def dP (z:Option Nat) (W d:World):Prop:=W.heap.size<=d.heap.size/\∀k o,W.heap[k]? =some o->o.isCells=true->some k≠z->d.heap[k]? =some o
theorem dP.refl (d:Option Nat) (W:World):dP d W W:=⟨aA _,fun _ _ h _ _=>h⟩
theorem dP.trans {d:Option Nat} {A B C:World} (h:dP d A B) (k:dP d B C):dP d A C:=⟨Nat.le_trans h.1 k.1,fun i o hi z E=>k.2 i o (h.2 i o hi z E) z E⟩
theorem dP.of_below {z:Option Nat} {A B:World} (h:Below A.heap.size A B):dP z A B:=⟨h.size,fun k _ d _ _=>(h.block k (gQ.1 d).1).trans d⟩
theorem dP.some {A B:World} (h:dP none A B) (d:Option Nat):dP d A B:=⟨h.1,fun k o z E _=>h.2 k o z E (fun e=>by cases e)⟩
theorem dP.putObj {A:Option Nat} (W:World) {l:Nat} {o:Obj} (E:Obj) (h:W.heap[l]? =bA o) (z:o.isCells=false):dP A W (W.putObj l E):=
 ⟨by simp,fun k q d F _=>by
  have:k≠l:=fun e=>by subst e;rw[h] at d;injection d with d;rw[d,F] at z;exact tQ z
  rw[pK this];exact d⟩
theorem dP.grownBy {A B:World} {d:Option Nat} (h:A.grownBy B d):dP d A B:=⟨h.size,fun k _ z _ E=>(h.block k (gQ.1 z).1 E).trans z⟩
theorem dP.arr {d:Option Nat} {A B:World} (h:dP d A B) {b:Nat} {e:TypeId} {l:List Value} (z:Arr A b e l) (E:bA b≠d):Arr B b e l:=h.2 b _ z rfl E
theorem dP.cell {E:Option Nat} {A B:World} (h:dP E A B) {p:Addr} {v:Value} (d:A.cell? p=bA v) (F:bA p.block≠E):B.cell? p=bA v:=by
 unfold World.cell? at d ⊢
 cases z:A.heap[p.block]? with
 |none=>rw[z] at d;simp at d
 |some o=>
  have G:o.isCells=true:=by
   rw[z] at d
   cases o<;>simp_all [Obj.isCells]
  rw[h.2 _ _ z G F];rw[z] at d;exact d
theorem dP.ow {A B:World} {d:Option Nat} (h:dP d A B) {z e:Nat} {v:Value} {xs:List Value} (E:Ow A z e v xs) (G:∀k,v.ownBlock=bA k->bA k≠d):Ow B z e v xs:=by
 refine⟨E.1,?_⟩;rcases E.2 with H|⟨g,cap,I,F,J,L,rest⟩
 ·exact .inl H
 ·exact .inr ⟨g,cap,I,F,J,h.2 g _ L rfl (G g (by rw[F];rfl)),rest⟩
theorem MP (W:World) (g i:Nat) (v:Value):W.grownBy (W.setCell ⟨g,i,none⟩ v) (some g):=
 ⟨rfl,rfl,rfl,by simp,fun k _ d=>kT W ⟨g,i,none⟩ k v (fun e=>d (by rw[e]))⟩
def ZW {α:Type} (n:Nat) (P:gD) (g:Nat) (lb:Array Value) (encs:α->Array Value) (Kp:World->World->Prop) (Pre:Nat->List α->α->World->Prop) (G:List α->Prop) (w:World):Prop:=
 ∀(l:Nat) (J F:List α->World->Prop) (W:World),Below w.heap.size w W->(∀s A B,J s A->Below W.heap.size A B->J s B)->(∀s A B,F s A->Below W.heap.size A B->F s B)->
  (∀d x E,J d E->W.heap.size<=E.heap.size->Pre W.heap.size d x E->
   YieldAt eA (n-1) P l (encs x) E fun e z=>(e=.returned (.bool true)/\J (d++[x]) z/\Kp E z)\/(e=.returned (.bool false)/\F (d++[x]) z))->
  J [] W->
  mD eA n P g (#[.func (.yield l) #[] #[]]++lb) W fun e z=>(∃v,e=.returned v)/\((∃xs,G xs/\J xs z)\/∃d,F d z)
theorem ZX {α:Type} {n:Nat} {P:gD} {g:iM} {ps:Array Tmp} {assign body:Code} {Q:Exit->Act->World->Prop} {a:Act} {w:World}
  (h1:1<=n) {gf:Nat} {lb:Array Value} (hg:a.eval g=.func (.func gf) #[] lb) (eg:∀args w,(callFunc gf args).run P w=.ok (.enter gf args) w)
  {encs:α->Array Value} {Kp:World->World->Prop} {Pre:Nat->List α->α->World->Prop} {b1:List α->Prop} {w0:World} (b6:ZW (n-1) P gf lb encs Kp Pre b1 w0) (b2:Below w0.heap.size w0 w) (b7:∀x,(encs x).size=ps.size)
  (a8:∀{A B C:World},Kp A B->Kp B C->Kp A C) (a9:∀A B,dP none A B->Kp A B)
  (b3:∀B d x A A',Pre B d x A->dP none A A'->Pre B d x A')
  (I:List α->World->Prop) (Ix:Code->List α->World->Prop) (hI:∀s A B,I s A->Below w.heap.size A B->I s B) (a4:∀c s A B,Ix c s A->Below w.heap.size A B->Ix c s B) (h0:I [] w)
  (Ax:α->Act->World->Prop) (b8:∀x L A A',Ax x L A->dP none A A'->Ax x L A')
  (b9:∀(l B:Nat) (d:List α) (x:α) (W:World) (K:Act->World->Prop),I d W->w.heap.size<=B->B<=W.heap.size->Pre B d x W->(∀L W',Below W.heap.size W W'->Ax x L W'->K L W')->
   assign.wpIn (eA.inRound l) (n-1-1) P (Exit.then K (fun _ _ _=>False)) {tmps:=(ps.zip (encs x)).foldl (fun t (p,v)=>t.setIfInBounds p v) a.tmps,defers:=[]} W)
  (hbody:∀(l B:Nat) (d:List α) (x:α) (L:Act) (W:World),I d W->w.heap.size<=B->B<=W.heap.size->Pre B d x W->Ax x L W->body.wpIn (eA.inRound l) (n-1-1) P (ownPostG w.heap.size Kp I Ix (d++[x]) W) L W)
  (hdone:∀(D:Nat) (xs:List α) (W:World),w.heap.size<=D->b1 xs->I xs W->W.heap[D]? =some (.deferred (some []))->Q .normal {a with defers:={target:=.collected D,args:=#[]}::a.defers} W)
  (hstop:∀(D:Nat) (c:Code) (d:List α) (W:World),w.heap.size<=D->Ix c d W->W.heap[D]? =some (.deferred (some []))->c.wpIn eA n P Q {a with defers:={target:=.collected D,args:=#[]}::a.defers} W):
  (Code.rangeFunc g ps assign body).wpIn eA n P Q a w:=by
 refine wpIn_rangeFunc ?_;intro fn c0;rw[show eA.round=none from rfl];obtain⟨z,M⟩:∃z:LoopState->Option Code->Loop,z=fun st pe=>{state:=st,pending:=pe,fn,tmps:=a.tmps,params:=ps,assign,body,defers:=w.heap.size}:=⟨_,rfl⟩
 obtain⟨E,a5⟩:∃E,(w.alloc (.deferred (some []))).alloc (.loop (z .ready none))=E:=⟨_,rfl⟩;have c1:E.heap[w.heap.size+1]? =some (.loop (z .ready none)):=by
  rw[<-a5];have:=BC (w.alloc (.deferred (some []))) (.loop (z .ready none));rwa[fV] at this
 have c2:E.heap[w.heap.size]? =some (.deferred (some [])):=by
  rw[<-a5];exact(oF _ _ _ (by simp)).trans (BC w _)
 have b4:Below w.heap.size w E:=by rw[<-a5];exact((aB _ w).alloc (aA _) _).alloc (by simp) _
 have c3:I [] E:=hI _ _ _ h0 b4;have d5:E.heap.size=w.heap.size+2:=by rw[<-a5];simp
 have c4:Below w0.heap.size w0 E:=b2.trans (b4.mono b2.size);have V:∀(A:World) (l:Nat) (o o':Obj),w.heap.size<=l->A.heap[l]? =some o->o.isCells=false->o.isWalk=false->Below w.heap.size A (A.putObj l o'):=fun A l o o' F h k1 k2=>pJ (w:=w) (aA _) A l o o' F h k1 k2
 refine⟨w.heap.size+1,[{target:=.collected w.heap.size,args:=#[]}],E,{target:=.fn (.func gf) lb,args:=#[.func (.yield (w.heap.size+1)) #[] #[]]},E,gf,
  #[.func (.yield (w.heap.size+1)) #[] #[]]++lb,E,?_,?_,?_,?_,fun _=>h1,?_⟩
 ·rw[<-a5,M];exact aC2 _ _ _ _ _
 ·simp only[resolve,hg];simp[go_sem]
 ·exact fun _ _=>trivial
 ·simp[invoke,go_sem,eg]
 ·have a6:∀{A B:World} {k:Nat} {o:Obj},Below E.heap.size A B->k<E.heap.size->A.heap[k]? =some o->B.heap[k]? =some o:=fun h T ho=>(h.block _ T).trans ho
  refine(b6 (w.heap.size+1)
   (fun d W=>I d W/\W.heap[w.heap.size+1]? =some (.loop (z .ready none))/\W.heap[w.heap.size]? =some (.deferred (some [])))
   (fun d W=>∃c,Ix c d W/\W.heap[w.heap.size+1]? =some (.loop (z .done (some c)))/\W.heap[w.heap.size]? =some (.deferred (some [])))
   E c4
   (fun s A B hs Y=>⟨hI s A B hs.1 (Y.mono (by omega)),a6 Y (by omega) hs.2.1,a6 Y (by omega) hs.2.2⟩)
   (fun s A B hs Y=>by
    obtain⟨c,hc,F,T⟩:=hs;exact⟨c,a4 c s A B hc (Y.mono (by omega)),a6 Y (by omega) F,a6 Y (by omega) T⟩)
   ?_ ⟨c3,c1,c2⟩).mono ?_
  ·rintro d x W ⟨hi,F,T⟩ c5 b5;have c6:w.heap.size+1<W.heap.size:=(gQ.1 F).1;have hy:=run_yield (P:=P) (args:=encs x) F (by rw[M];exact b7 x);rw[M] at hy;refine⟨fn,_,assign,body,hy,roundIn_of_wpIn c0 (b9 _ _ d x W _ hi (by omega) c5 b5 ?_)⟩;clear hy;intro L U a2 c7;have a7:U.heap[w.heap.size+1]? =some (.loop (z .ready none)):=(a2.block _ c6).trans F;have c8:U.heap[w.heap.size]? =some (.deferred (some [])):=(a2.block _ (by omega)).trans T;have c9:w.heap.size+1<U.heap.size:=(gQ.1 a7).1;have d0:I d U:=hI _ _ _ hi (a2.mono (by omega))
   have d1:=b3 _ _ _ _ _ b5 (dP.of_below a2);refine⟨_,run_beginRound a7 (by rw[M]),?_⟩;have d2:(U.putObj (w.heap.size+1) (.loop {z .ready none with state:=.busy})).heap[w.heap.size+1]? =some (.loop {z .ready none with state:=.busy}):=BD c9;have d3:(U.putObj (w.heap.size+1) (.loop {z .ready none with state:=.busy})).heap[w.heap.size]? =some (.deferred (some [])):=(pK (by omega)).trans c8;have b0:∀bo,dP bo U (U.putObj (w.heap.size+1) (.loop {z .ready none with state:=.busy})):=fun bo=>dP.putObj _ _ a7 rfl
   refine wpIn_mono (hbody _ _ d x L _ (hI _ _ _ d0 (V _ _ _ _ (by omega) a7 rfl rfl)) (by omega) (by have:=a2.size;simp;omega) (b3 _ _ _ _ _ d1 (b0 none)) (b8 _ _ _ _ c7 (b0 none))) ?_;have fin:∀(H:Option Code) (J:World),KeepsFrom w.heap.size (U.putObj (w.heap.size+1) (.loop {z .ready none with state:=.busy})) J->
     (Instr.endRound (w.heap.size+1) H).run P J=.ok (.bool H.isNone) (J.putObj (w.heap.size+1) (.loop (z (if H.isNone then .ready else .done) H)))/\
     J.heap[w.heap.size+1]? =some (.loop {z .ready none with state:=.busy})/\
     (J.putObj (w.heap.size+1) (.loop (z (if H.isNone then .ready else .done) H))).heap[w.heap.size+1]? =some (.loop (z (if H.isNone then .ready else .done) H))/\
     (J.putObj (w.heap.size+1) (.loop (z (if H.isNone then .ready else .done) H))).heap[w.heap.size]? =some (.deferred (some [])):=fun H J O=>by
    have G:=O.same _ _ (by omega) d2 rfl;have:=run_endRound (P:=P) H G;rw[M] at this ⊢;exact⟨this,by rw[M] at G;exact G,BD (gQ.1 G).1,(pK (by omega)).trans (O.same _ _ (aA _) d3 rfl)⟩
   rintro e a3 J hp
   cases e with
   |normal=>
    obtain⟨O,d4,hi3⟩:=hp;obtain⟨Z,G,a0,a1⟩:=fin none J O;exact⟨_,_,Z,.inl ⟨rfl,⟨hI _ _ _ hi3 (V _ _ _ _ (by omega) G rfl rfl),a0,a1⟩,a8 (a9 _ _ (dP.of_below a2)) (a8 (a9 _ _ (b0 none)) (a8 d4 (a9 _ _ (dP.putObj _ _ G rfl))))⟩⟩
   |ret=>
    obtain⟨O,hi3⟩:=hp;obtain⟨Z,G,a0,a1⟩:=fin (some .ret) J O;exact⟨_,_,Z,.inr ⟨rfl,.ret,a4 _ _ _ _ hi3 (V _ _ _ _ (by omega) G rfl rfl),a0,a1⟩⟩
   |exit id=>
    obtain⟨O,hi3⟩:=hp;obtain⟨Z,G,a0,a1⟩:=fin (some (.exit id)) J O;exact⟨_,_,Z,.inr ⟨rfl,.exit id,a4 _ _ _ _ hi3 (V _ _ _ _ (by omega) G rfl rfl),a0,a1⟩⟩
   |goto t=>
    obtain⟨O,hi3⟩:=hp;obtain⟨Z,G,a0,a1⟩:=fin (some (.goto t)) J O;exact⟨_,_,Z,.inr ⟨rfl,.goto t,a4 _ _ _ _ hi3 (V _ _ _ _ (by omega) G rfl rfl),a0,a1⟩⟩
   |panic ch=>exact hp.elim
   |outgrown=>exact hp.elim
  ·rintro e W2 ⟨⟨v,rfl⟩,(⟨xs,hS,hi,F,T⟩|⟨d,c,hi,F,T⟩)⟩
   ·exact⟨none,_,by have:=GX (P:=P) F (by rw[M];simp);rw[M] at this;exact this,hdone _ xs _ (aA _) hS (hI _ _ _ hi (V _ _ _ _ (by omega) F rfl rfl)) ((pK (by omega)).trans T)⟩
   ·exact⟨some c,_,by have:=GX (P:=P) F (by rw[M];simp);rw[M] at this;exact this,hstop _ c d _ (aA _) (a4 _ _ _ _ hi (V _ _ _ _ (by omega) F rfl rfl)) ((pK (by omega)).trans T)⟩
theorem aP9 {l0 n:Nat} {P:gD} {row:String} {args:Array Value} {w:World} {R:Value->World->Prop} (h:Rows P row args w R):RowsIn (eA.inRound l0) n P row args w R:=fun c cs _=>
 let⟨v,w',r,s⟩:=h c cs;⟨v,w',r,stepsIn_wide.2 s⟩
theorem aQa {l0 n:Nat} (d:1<=n) {P:gD} {o:Oper} (z:∀c,o.op≠.defer c) {a:Act} {w:World} {K:Act->World->Prop} {Q:Exit->Act->World->Prop} (h:o.wp P a w K Q):o.wpIn (eA.inRound l0) n P a w K Q:=by
 refine⟨fun _ _=>trivial,?_⟩;rw[Oper.semAt_plain (eA.inRound l0) _ _ z];unfold Oper.wp at h
 revert h
 generalize (execOp a.eval o).run P w=r;intro h
 cases r with
 |ok x w'=>
  cases x<;>first|exact h|exact⟨fun _=>d,callsIn_wide.2 h⟩|exact⟨fun _=>d,aP9 h⟩|exact h.elim
 |halt A w'=>
  cases A<;>first|exact h|exact h.elim
theorem aAe {l0 n:Nat} (H:1<=n) {P:gD} {md:Region.Mode} {z:Array Oper} {Q:Exit->Act->World->Prop} (I:¬LetsOut Q) (J:∀(i:Nat) (o:Oper),z[i]? =some o->∀c,o.op≠.defer c):
  ∀(A:Nat) (E:Array Bool) (a:Act) (w:World),wpAny P md z Q A E a w->wpAnyIn (eA.inRound l0) n P md z Q A E a w
 |0,_,_,_,h=>h
 |A+1,E,a,w,h=>⟨h.1,fun i hi=>by
  have d:=h.2 i hi;have F:=aAe (l0:=l0) (P:=P) (md:=md) (Q:=Q) H I J A (E.setIfInBounds i true);unfold wpOp at d;unfold wpOpIn
  cases e:z[i]? with
  |none=>rw[e] at d;exact F _ _ d
  |some o=>
   rw[e] at d;dsimp only at d ⊢;split
   ·next G=>
    rw[if_pos G] at d;refine aQa H (J i o e) ?_;exact Oper.wp_mono (fun L w'=>F L w') (d.resolve_right (fun x=>I x.2))
   ·next G=>
    rw[if_neg G] at d;exact⟨fun _ _=>trivial,F _ _ d⟩⟩
def MQ (o:Oper):Bool:=match o.op with|.defer _=>false|_=>true
theorem aQb {d:Array Oper} (h:d.toList.all MQ=true):∀(i:Nat) (o:Oper),d[i]? =some o->∀c,o.op≠.defer c:=fun i o hi c z=>by
 rw[List.all_eq_true] at h;have:=h o (by rw[<-Array.getElem?_toList] at hi;exact cH hi);unfold MQ at this;rw[z] at this;exact tQ this
theorem aAf {l0 n:Nat} (z:1<=n) {P:gD} {A:Nat} {d:Array Oper} {Q:Exit->Act->World->Prop} {a:Act} {w:World} (S:World->Prop) (E:P.follows .mixedOrders=true) (F:¬LetsOut Q) (G:d.toList.all MQ=true)
  (h:wpAnyH P .any d Q S d.size (Array.replicate d.size false) a w.drew):(Code.region A d true).wpIn (eA.inRound l0) n P Q a w:=
 wpIn_region_any E (aAe z F (aQb G) _ _ _ _ (wpAny_of_held _ _ _ _ h))
theorem jW {b c o p:Nat} (h:b≠c):(⟨b,o,none⟩:Addr)≠⟨c,p,none⟩:=fun e=>h (congrArg Addr.block e)
theorem zU {w:World} {d z A E q:Addr} {v1 v2 v3 v4:Value} (h:w.cell? d=some v1/\w.cell? z=some v2/\w.cell? A=some v3/\w.cell? E=some v4) (F:q≠d) (G:q≠z) (H:q≠A) (I:q≠E) (v:Value):
  (w.setCell q v).cell? d=some v1/\(w.setCell q v).cell? z=some v2/\(w.setCell q v).cell? A=some v3/\(w.setCell q v).cell? E=some v4:=by
 rw[iQ _ _ _ _ F,iQ _ _ _ _ G,iQ _ _ _ _ H,iQ _ _ _ _ I];exact h
def aBk {α:Type} (n:Nat) (P:gD) (g:Nat) (lb:Array Value) (encs:α->Array Value) (E:Prop) (x:α) (w:World):Prop:=
 ∀(l:Nat) (J d:World->Prop) (W:World),Below w.heap.size w W->(∀A B,J A->Below W.heap.size A B->J B)->(∀A B,d A->Below W.heap.size A B->d B)->
  (E->∀F,J F->W.heap.size<=F.heap.size->YieldAt eA (n-1) P l (encs x) F fun e z=>e=.returned (.bool false)/\d z)->
  J W->
  mD eA n P g (#[.func (.yield l) #[] #[]]++lb) W fun e z=>(∃v,e=.returned v)/\((¬E/\J z)\/(E/\d z))
theorem aSp {α:Type} {n:Nat} {P:gD} {g:iM} {O:Array Tmp} {assign body:Code} {Q:Exit->Act->World->Prop} {a:Act} {w:World}
  (h1:1<=n) {gf:Nat} {lb:Array Value} (hg:a.eval g=.func (.func gf) #[] lb) (eg:∀args w,(callFunc gf args).run P w=.ok (.enter gf args) w)
  {encs:α->Array Value} {T:Prop} {x:α} {w0:World} (a6:aBk (n-1) P gf lb encs T x w0) (a2:Below w0.heap.size w0 w) (a7:∀x,(encs x).size=O.size)
  (I:World->Prop) (L:World->Prop) (U:∀A B,I A->Below w.heap.size A B->I B) (a0:∀A B,L A->Below w.heap.size A B->L B) (h0:I w)
  (a₁:Act)
  (a8:∀(l:Nat) (W:World) (K:Act->World->Prop),K a₁ W->
   assign.wpIn (eA.inRound l) (n-1-1) P (Exit.then K (fun _ _ _=>False)) {tmps:=(O.zip (encs x)).foldl (fun t (p,v)=>t.setIfInBounds p v) a.tmps,defers:=[]} W)
  (hbody:T->∀(l:Nat) (W:World),I W->w.heap.size<=W.heap.size->body.wpIn (eA.inRound l) (n-1-1) P (fun e _ W'=>e=.ret/\KeepsFrom w.heap.size W W'/\L W') a₁ W)
  (hdone:∀(D:Nat) (W:World),¬T->w.heap.size<=D->I W->W.heap[D]? =some (.deferred (some []))->Q .normal {a with defers:={target:=.collected D,args:=#[]}::a.defers} W)
  (hstop:∀(D:Nat) (W:World),T->w.heap.size<=D->L W->W.heap[D]? =some (.deferred (some []))->Code.ret.wpIn eA n P Q {a with defers:={target:=.collected D,args:=#[]}::a.defers} W):
  (Code.rangeFunc g O assign body).wpIn eA n P Q a w:=by
 refine wpIn_rangeFunc ?_;intro fn a9;rw[show eA.round=none from rfl];obtain⟨E,F⟩:∃E:LoopState->Option Code->Loop,E=fun st pe=>{state:=st,pending:=pe,fn,tmps:=a.tmps,params:=O,assign,body,defers:=w.heap.size}:=⟨_,rfl⟩
 obtain⟨d,M⟩:∃d,(w.alloc (.deferred (some []))).alloc (.loop (E .ready none))=d:=⟨_,rfl⟩;have b0:d.heap[w.heap.size+1]? =some (.loop (E .ready none)):=by
  rw[<-M];have:=BC (w.alloc (.deferred (some []))) (.loop (E .ready none));rwa[fV] at this
 have b1:d.heap[w.heap.size]? =some (.deferred (some [])):=by
  rw[<-M];exact(oF _ _ _ (by simp)).trans (BC w _)
 have a4:Below w.heap.size w d:=by rw[<-M];exact((aB _ w).alloc (aA _) _).alloc (by simp) _
 have b2:I d:=U _ _ h0 a4;have b8:d.heap.size=w.heap.size+2:=by rw[<-M];simp
 have b3:Below w0.heap.size w0 d:=a2.trans (a4.mono a2.size);have V:∀(A:World) (l:Nat) (o o':Obj),w.heap.size<=l->A.heap[l]? =some o->o.isCells=false->o.isWalk=false->Below w.heap.size A (A.putObj l o'):=fun A l o o' z h k1 k2=>pJ (w:=w) (aA _) A l o o' z h k1 k2
 refine⟨w.heap.size+1,[{target:=.collected w.heap.size,args:=#[]}],d,{target:=.fn (.func gf) lb,args:=#[.func (.yield (w.heap.size+1)) #[] #[]]},d,gf,
  #[.func (.yield (w.heap.size+1)) #[] #[]]++lb,d,?_,?_,?_,?_,fun _=>h1,?_⟩
 ·rw[<-M,F];exact aC2 _ _ _ _ _
 ·simp only[resolve,hg];simp[go_sem]
 ·exact fun _ _=>trivial
 ·simp[invoke,go_sem,eg]
 ·have Y:∀{A B:World} {k:Nat} {o:Obj},Below d.heap.size A B->k<d.heap.size->A.heap[k]? =some o->B.heap[k]? =some o:=fun h G ho=>(h.block _ G).trans ho
  refine(a6 (w.heap.size+1)
   (fun W=>I W/\W.heap[w.heap.size+1]? =some (.loop (E .ready none))/\W.heap[w.heap.size]? =some (.deferred (some [])))
   (fun W=>L W/\W.heap[w.heap.size+1]? =some (.loop (E .done (some .ret)))/\W.heap[w.heap.size]? =some (.deferred (some [])))
   d b3
   (fun A B H J=>⟨U A B H.1 (J.mono (by omega)),Y J (by omega) H.2.1,Y J (by omega) H.2.2⟩)
   (fun A B H J=>⟨a0 A B H.1 (J.mono (by omega)),Y J (by omega) H.2.1,Y J (by omega) H.2.2⟩)
   ?_ ⟨b2,b0,b1⟩).mono ?_
  ·rintro a1 W ⟨hi,z,G⟩ b9;have b4:w.heap.size+1<W.heap.size:=(gQ.1 z).1;have hy:=run_yield (P:=P) (args:=encs x) z (by rw[F];exact a7 x);rw[F] at hy;refine⟨fn,_,assign,body,hy,roundIn_of_wpIn a9 (a8 _ W _ ?_)⟩;clear hy;refine⟨_,run_beginRound z (by rw[F]),?_⟩;have b5:(W.putObj (w.heap.size+1) (.loop {E .ready none with state:=.busy})).heap[w.heap.size+1]? =some (.loop {E .ready none with state:=.busy}):=BD b4
   have b6:(W.putObj (w.heap.size+1) (.loop {E .ready none with state:=.busy})).heap[w.heap.size]? =some (.deferred (some [])):=(pK (by omega)).trans G;refine wpIn_mono (hbody a1 _ _ (U _ _ hi (V _ _ _ _ (by omega) z rfl rfl)) (by simp;omega)) ?_;rintro e a3 W3 ⟨rfl,a5,hi3⟩;have Z:=a5.same _ _ (by omega) b5 rfl;have hr:=run_endRound (P:=P) (some .ret) Z;rw[F] at hr Z;refine⟨_,_,hr,⟨rfl,a0 _ _ hi3 (V _ _ _ _ (by omega) Z rfl rfl),?_,(pK (by omega)).trans (a5.same _ _ (aA _) b6 rfl)⟩⟩;rw[F]
   exact BD (gQ.1 Z).1
  ·rintro e W2 ⟨⟨v,rfl⟩,(⟨b7,hi,z,G⟩|⟨a1,hi,z,G⟩)⟩
   ·exact⟨none,_,by have:=GX (P:=P) z (by rw[F];simp);rw[F] at this;exact this,hdone _ _ b7 (aA _) (U _ _ hi (V _ _ _ _ (by omega) z rfl rfl)) ((pK (by omega)).trans G)⟩
   ·exact⟨some .ret,_,by have:=GX (P:=P) z (by rw[F];simp);rw[F] at this;exact this,hstop _ _ a1 (aA _) (a0 _ _ hi (V _ _ _ _ (by omega) z rfl rfl)) ((pK (by omega)).trans G)⟩
end
end Go.Proofs.YtiifmcicleljjaaGreatDoor
