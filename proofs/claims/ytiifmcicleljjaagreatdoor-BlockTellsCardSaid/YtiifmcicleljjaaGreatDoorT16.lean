/- The walks and the plain laws, part 16. -/
import Derived.ProofKit
import Derived.OpenShut
import Derived.ShutString
import Derived.ChangeOld
import Derived.ChangeVars
import Derived.JoinedOf
import Derived.LaidLaws
import Derived.LaidHandle
import Derived.Stop.Joined
import Derived.Deep.Slices
import Derived.Lib.SmallJoins
import Derived.SizedLaws
import Derived.Test.YtiifmcicleljjaaGreatDoorT11
import Derived.Test.YtiifmcicleljjaaGreatDoorT15
set_option maxRecDepth 100000
set_option maxHeartbeats 12800000
set_option linter.unusedVariables false
open ByteArray renaming size_append->aTx
open Decidable renaming not_not->dK
open Go renaming bodyPost_ret->gJ,heap_setCell_other->kT
open Go.Addr renaming add->iN
open Go.IntKind renaming i64->aI,u32->rA,u64->fU,wrap_i64->aM,wrap_u32->vP,wrap_u64->gF
open Go.RowKit.Below renaming heap_alloc->oF,refl->aB
open Go.World renaming block_lt_of_cell?->iO
open List renaming append_assoc->cF,flatMap_cons->sH,getD_eq_getElem?_getD->aV,getElem?_eq_getElem->aN,getElem?_eq_some_iff->eU,getElem?_map->dY,getElem_mem->gT,length_append->aL,length_nil->cX,length_pos_iff->kV,length_singleton->fK,length_take->aX,mem_append->cU,mem_map->dU,mem_of_getElem?->cH,mem_singleton->dC,range->dG,take_add_one->cQ,take_left'->vN,take_of_length_le->cS
open Nat renaming add_sub_cancel->jZ,eq_zero_or_pos->fJ,le_refl->aA,le_trans->aW,lt_of_lt_of_le->dR,zero_le->aU
open Option.some renaming inj->bW,injEq->iP
open Prod renaming ext->gK
namespace Go.Proofs.YtiifmcicleljjaaGreatDoor
section
open Go.RowKit Go.Shelf
noncomputable def oOf (s:ByteArray):Nat->Int:=Classical.epsilon (fun o=>Ord (bX s) s.size s.size o)
def fS (s:ByteArray):Prop:=Ord (bX s) s.size s.size (oOf s)
theorem LV {s:ByteArray} {o:Nat->Int} (h:Ord (bX s) s.size s.size o):fS s:=Classical.epsilon_spec (p:=fun o=>Ord (bX s) s.size s.size o) ⟨o,h⟩
noncomputable def oY (s:ByteArray):List UInt8:=dM s (oOf s) s.size
noncomputable def sqA (s:ByteArray):ByteArray:=if s.size=0 then cW else mkS (bK s.data.toList)
noncomputable def sqO (s:ByteArray):Int:=if s.size=0 then 0 else((fD (oOf s) s.size:Nat):Int)
noncomputable def sqS (s:ByteArray):List Int:=if s.size=0 then[] else oA s (oOf s)
def sqE (s:ByteArray):Int:=if s.size=0 then 1 else 0
theorem XQ {s:ByteArray} {o:Nat->Int} (h:Ord (bX s) s.size s.size o):oA s o=oA s (oOf s)/\fD o s.size=fD (oOf s) s.size:=by
 have d:=h.uniq (LV h);unfold oA;exact⟨by rw[aG8 d],aG9 d⟩
theorem XR {s:ByteArray} (h:s.size=0):s=cW:=by
 rw[<-pL s,List.length_eq_zero_iff.1 (show s.data.toList.length=0 by simpa using h)];rfl
theorem aN0 (s:ByteArray) (w:World) (J:s.size<=65536):
  Calls Tryz.prog 21 #[.string s] w fun e w'=>∃v,e=.returned (.tuple #[.agg #[.string (sqA s),.int .i64 (sqO s),v],.int .i64 (sqE s)])/\RdI w' v (sqS s)/\Below w.heap.size w w'/\(0<s.size->fS s):=by
 rcases fJ s.size with d|d
 ·have A:sqA s=cW:=if_pos d;have E:sqO s=0:=if_pos d;have F:sqS s=[]:=if_pos d;have G:sqE s=1:=if_pos d;rw[A,E,F,G];have:=XR d;subst this;refine(aLz w).mono ?_;rintro e w' ⟨rfl,H⟩;exact⟨_,rfl,⟨none,0,rfl,aA _,by simp[maxLen],.inl rfl⟩,H,fun h=>absurd h (by omega)⟩
 ·have z:¬s.size=0:=by omega
  refine(aL0 s w d J).mono ?_;rintro e w' ⟨o,v,I,rfl,L,H⟩;obtain⟨M,O⟩:=XQ I;have A:sqA s=mkS (bK s.data.toList):=if_neg z;have E:sqO s=((fD (oOf s) s.size:Nat):Int):=if_neg z;have F:sqS s=oA s (oOf s):=if_neg z;have G:sqE s=0:=if_neg z;rw[A,E,F,G,<-M,<-O];exact⟨v,rfl,L.rd,H,fun _=>LV I⟩
theorem aN4 (s:ByteArray) (w:World) (J:s.size<=65536):
  Calls Tryz.prog 38 #[.string s] w fun e w'=>∃v,e=.returned (.tuple #[.agg #[.string (sqA s),.int .i64 (sqO s),v],.int .i64 (sqE s)])/\RdI w' v (sqS s)/\Below w.heap.size w w'/\(0<s.size->fS s):=by
 rcases fJ s.size with d|d
 ·have A:sqA s=cW:=if_pos d;have E:sqO s=0:=if_pos d;have F:sqS s=[]:=if_pos d;have G:sqE s=1:=if_pos d;rw[A,E,F,G];have:=XR d;subst this;refine(aL3 w).mono ?_;rintro e w' ⟨rfl,H⟩;exact⟨_,rfl,⟨none,0,rfl,aA _,by simp[maxLen],.inl rfl⟩,H,fun h=>absurd h (by omega)⟩
 ·have z:¬s.size=0:=by omega
  refine(aL4 s w d J).mono ?_;rintro e w' ⟨o,v,I,rfl,L,H⟩;obtain⟨M,O⟩:=XQ I;have A:sqA s=mkS (bK s.data.toList):=if_neg z;have E:sqO s=((fD (oOf s) s.size:Nat):Int):=if_neg z;have F:sqS s=oA s (oOf s):=if_neg z;have G:sqE s=0:=if_neg z;rw[A,E,F,G,<-M,<-O];exact⟨v,rfl,L.rd,H,fun _=>LV I⟩
theorem XT (s:ByteArray):(oY s).length=s.size:=by unfold oY dM;simp
theorem aN1 {s:ByteArray} (h:fS s):(oY s).Perm s.data.toList:=LN s h
theorem aN2 (s:ByteArray):oA s (oOf s)=cZ 0 (cM (bK s.data.toList) (oY s))++[((bK s.data.toList).length:Int)+1]:=rfl
theorem XU {s:ByteArray} (h:fS s):∀b∈oY s,b∈bK s.data.toList:=fun _b d=>(yC _ _).2 ((aN1 h).mem_iff.1 d)
theorem XV {s:ByteArray} (h:fS s):∀x∈cM (bK s.data.toList) (oY s),0<=x/\x<((bK s.data.toList).length:Int):=vT _ _ (XU h)
theorem LW (s:ByteArray):(sqS s).length<=s.size+1/\(0<s.size->2<=(sqS s).length):=by
 unfold sqS
 by_cases d:s.size=0
 ·rw[if_pos d];exact⟨by simp,fun h=>by omega⟩
 ·rw[if_neg d,aN2,aL];have:=IT (cM (bK s.data.toList) (oY s)) 0;rw[rH,XT] at this;simp;omega
theorem EE (c n:Int) (w:World) (A: -9223372036854775808<=c) (E:c<=9223372036854775807) (F:1<=n) (G:n<=1000000000):
  Calls Tryz.prog 27 #[.int .i64 c,.int .i64 n] w fun e w'=>e=.returned (.int .i64 (gA c n))/\w=w':=by
 by_cases z:c<0
 ·have d:=hid (show gA c n=(-(c+1))%n from by simp[gA,z]);go_enter Tryz.func27,Tryz.ntmps27;go_wp2;go_ret;exact⟨fX (by rw[d.out];rw[<-Int.neg_tmod,Int.tmod_eq_emod_of_nonneg (by omega)]),rfl⟩
 ·have d:=hid (show gA c n=c%n from by simp[gA,z]);have H:0<=c:=by omega
  go_enter Tryz.func27,Tryz.ntmps27;go_wp2;go_ret;exact⟨fX (by rw[d.out]),rfl⟩
def RdP (w:World) (v:Value) (l:List (Int×Int)):Prop:=
 ∃a cap,v=.slice a l.length cap/\l.length<=cap/\cap<=maxLen/\
  (0<l.length->∃b off,a=some ⟨b,off,none⟩/\b<w.heap.size/\∀j p,l[j]? =some p->w.cell? ⟨b,off+j*2,none⟩=some (.int .i64 p.1)/\w.cell? ⟨b,off+j*2+1,none⟩=some (.int .i64 p.2))
def WfP (l:List (Int×Int)):Prop:=∀p∈l,(-9223372036854775808<=p.1/\p.1<=9223372036854775807)/\(-9223372036854775808<=p.2/\p.2<=9223372036854775807)
theorem RdP.below {w w':World} {v:Value} {l:List (Int×Int)} (h:RdP w v l) (d:Below w.heap.size w w'):RdP w' v l:=by
 obtain⟨a,cap,rfl,A,E,F⟩:=h;refine⟨a,cap,rfl,A,E,fun h=>?_⟩;obtain⟨b,off,rfl,z,G⟩:=F h;exact⟨b,off,rfl,dR z d.size,fun j p H=>by rw[(lP d).1 _ _ z,(lP d).1 _ _ z];exact G j p H⟩
theorem aN3 (b:UInt8) (W:World):(convert 45 9 (.slice (some ⟨W.heap.size,0,none⟩) 1 1)).run Tryz.prog (W.alloc (.cells #[.int .u8 (b.toNat:Int)] 5))=.ok (.string (mkS [b])) (W.alloc (.cells #[.int .u8 (b.toNat:Int)] 5)):=
 lQ (l:=[b]) ((Arr.new W 5 [.int .u8 (b.toNat:Int)]).rdB (l:=[b]) rfl (by decide))
theorem LX (v:Value) (z:List (Int×Int)) (most:Int) (w:World) (hr:RdP w v z) (a4:WfP z) (a5:0<=most) (b5:most<=1000):
  Calls Tryz.prog 10 #[v,.int .i64 most] w fun e w'=>∃s:ByteArray,e=.returned (.string s)/\(s.size:Int)<=most/\Below w.heap.size w w':=by
 obtain⟨a,ca,rfl,b6,a6,T⟩:=hr;unfold maxLen at a6;go_enter Tryz.func10,Tryz.ntmps10;go_wp2
 go_loopg [5,6,7,8] z.length (fun g out i _c _k wr=>∃(k:Nat) (s:ByteArray),k<=z.length/\g=z.length-k/\i=.int .i64 k/\out=.string s/\(s.size:Int)<=most/\Below w.heap.size w wr)
 case atStart=>exact⟨0,_,aU _,rfl,rfl,rfl,a5,aB _ _⟩
 case round=>
  obtain⟨k,s,hk,E,rfl,rfl,H,d⟩:=hrel;have U:=hid E;clear E;have a7:s.size<=1000:=by omega
  by_cases I:k<z.length
  ·by_cases J:(s.size:Int)<most
   ·obtain⟨F,L,rfl,V,Y⟩:=T (by omega);obtain⟨p,G⟩:∃p,z[k]? =some p:=⟨_,aN I⟩;obtain⟨⟨b7,b8⟩,hy1,hy2⟩:=a4 p (cH G);obtain⟨Z,a0⟩:=Y k p G;obtain⟨x,y⟩:=p;have hn:=d.size;have c1:∀o,(wr.alloc o).cell? ⟨F,L+k*2,none⟩=some (.int .i64 x):=fun o=>by
     rw[World.cell?_alloc_past _ _ _ (by show F<wr.heap.size;omega),d.cell (p:=⟨F,L+k*2,none⟩) V];exact Z
    have hd:decide ((s.size:Int)<most)=true:=by simpa using J
    obtain⟨M,a1⟩:=vU x 6 (by decide);obtain⟨q,hq⟩:=Int.eq_ofNat_of_zero_le M;have hq6:q<6:=by omega
    have HQ:=hid hq;have HP:=hid G;have a8:=hid a0;clear T Y G Z a0 hq M a1;have hq7:q=0\/q=1\/q=2\/q=3\/q=4\/q=5:=by omega
    go_upto_region 5 with fail
    go_cut [7] (fun c7 wx=>(∃b:UInt8,c7=.int .u8 (b.toNat:Int))/\Below w.heap.size w wx)
    case first=>
     rcases hq7 with rfl|rfl|rfl|rfl|rfl|rfl
     all_goals
      go_wp2_with (go_at_call 27;refine(EE _ _ _ ?_ ?_ ?_ ?_).mono ?_;omega;omega;decide;decide;rintro e w' ⟨rfl,rfl⟩;rw[HQ.out]);go_meet
     ·exact⟨⟨0,rfl⟩,d.alloc (by omega) _⟩
     ·exact⟨⟨1,rfl⟩,d.alloc (by omega) _⟩
     ·exact⟨⟨4,rfl⟩,d.alloc (by omega) _⟩
     ·exact⟨⟨97,rfl⟩,d.alloc (by omega) _⟩
     ·exact⟨⟨98,rfl⟩,d.alloc (by omega) _⟩
     ·exact⟨⟨255,rfl⟩,d.alloc (by omega) _⟩
    case rest=>
     obtain⟨⟨b,rfl⟩,a9⟩:=hcut;clear c1 hq7 hq6 HQ hd J a7 d hn;have b0:=hid I;go_wp2;obtain⟨M,a1⟩:=vU y 300 (by decide)
     go_loopg [8,5] 300 (fun g s8 s5 wr=>∃(j:Nat) (t:ByteArray),j<=300/\g=300-j/\s8=.int .i64 j/\s5=.string t/\(t.size:Int)<=most/\Below w.heap.size w wr)
     case atStart=>exact⟨0,s,by omega,rfl,rfl,rfl,H,a9⟩
     case round=>
      obtain⟨j,t,hj,O,rfl,rfl,ht,A⟩:=hrel;have b2:=hid O;clear O;have I:=b0.out;have b9:t.size<=1000:=by omega
      have cy:=(A.cell (p:=⟨F,L+k*2+1,none⟩) V).trans a8.out
      by_cases a2:(j:Int)<1+gA y 300
      ·have b3:decide ((j:Int)<1+gA y 300)=true:=by simpa using a2
       by_cases a3:(t.size:Int)<most
       ·have b4:decide ((t.size:Int)<most)=true:=by simpa using a3
        have c0:=aN3 b;go_wp2_with (go_at_call 27;refine(EE _ _ _ ?_ ?_ ?_ ?_).mono ?_;omega;omega;decide;decide;rintro e w' ⟨rfl,rfl⟩);have O:=b2.out
        go_roundg (300-(j+1))
        case measure=>omega
        case rel=>exact⟨j+1,_,by omega,rfl,by go_num,rfl,by rw[aTx,cP];simp;omega,A.alloc (by have:=A.size;omega) _⟩
       ·have b4:decide ((t.size:Int)<most)=false:=by simpa using a3
        go_wp2_with (go_at_call 27;refine(EE _ _ _ ?_ ?_ ?_ ?_).mono ?_;omega;omega;decide;decide;rintro e w' ⟨rfl,rfl⟩);have E:=U.out
        go_roundg (z.length-(k+1))
        case measure=>omega
        case rel=>exact⟨k+1,_,by omega,rfl,by go_num,rfl,ht,A⟩
      ·have b3:decide ((j:Int)<1+gA y 300)=false:=by simpa using a2
       go_wp2_with (go_at_call 27;refine(EE _ _ _ ?_ ?_ ?_ ?_).mono ?_;omega;omega;decide;decide;rintro e w' ⟨rfl,rfl⟩);have E:=U.out
       go_roundg (z.length-(k+1))
       case measure=>omega
       case rel=>exact⟨k+1,_,by omega,rfl,by go_num,rfl,ht,A⟩
   ·have hd:decide ((s.size:Int)<most)=false:=by simpa using J
    go_wp2;go_ret;exact⟨s,rfl,H,d⟩
  ·go_wp2;go_ret;exact⟨s,rfl,H,d⟩
end
section
open Go.RowKit
theorem XY {s:ByteArray} (d:0<s.size):s.data.toList≠[]:=fun e=>by
 have:s.data.toList.length=s.size:=by simp
 rw[e] at this;simp at this;omega
theorem aOa {s:ByteArray} (d:0<s.size):1<=(bK s.data.toList).length:=kV.2 (BT (XY d))
theorem zO {s:ByteArray} (d:0<s.size):sqA s=mkS (bK s.data.toList):=if_neg (by omega)
theorem EF {s:ByteArray} (d:0<s.size):sqO s=((fD (oOf s) s.size:Nat):Int):=if_neg (by omega)
theorem MA {s:ByteArray} (d:0<s.size):sqS s=cZ 0 (cM (bK s.data.toList) (oY s))++[((bK s.data.toList).length:Int)+1]:=if_neg (by omega)
theorem XZ {s:ByteArray} (d:0<s.size):sqE s=0:=if_neg (by omega)
theorem aOb {s:ByteArray} (d:0<s.size):(sqA s).size=(bK s.data.toList).length:=by rw[zO d,cP]
theorem YA {s:ByteArray} (d:0<s.size):(sqA s).data.toList≠[]/\bK (sqA s).data.toList=(sqA s).data.toList:=by
 rw[zO d,fW];exact⟨BT (XY d),PK _⟩
theorem YB {s:ByteArray} (A:0<s.size) (E:fS s):∀y∈cZ 0 (cM (bK s.data.toList) (oY s)),0<=y/\y<((bK s.data.toList).length:Int)+1:=fun y F=>by
 have z:=XV E;have G:=aOa A;rcases aDx _ _ (fun x d=>(z x d).1) y F with q|q|⟨x,d,q,_⟩
 ·omega
 ·omega
 ·have:=z x d;omega
theorem YC {s:ByteArray} (d:0<s.size) (A:fS s):gW (sqS s) (((sqA s).size:Int)+1):=by
 rw[MA d,aOb d];refine⟨by simp,by simp,fun x z=>?_⟩;rw[aL,fK,jZ,vN] at z
 ·exact YB d A x z
 ·rfl
theorem YD {s:ByteArray} (d:0<s.size) (z:fS s):cE (sqS s)=cM (bK s.data.toList) (oY s):=by
 unfold cE;rw[MA d,aL,fK,jZ,vN rfl,aDw _ _ (fun x A=>(XV z x A).1)];simp
theorem MB {s:ByteArray} (d:0<s.size) (z:fS s):(cE (sqS s)).length=s.size:=by
 rw[YD d z,rH,XT]
theorem aOc {s:ByteArray} (d:0<s.size) (z:fS s):unL (sqA s).data.toList (cE (sqS s))=oY s:=by
 rw[YD d z,zO d,fW];exact PN _ _ (XU z)
theorem MC {s:ByteArray} (d:0<s.size) (z:fS s):fD (oOf s) s.size<s.size/\oOf s (fD (oOf s) s.size)=0:=aLw z d
theorem aOd {s:ByteArray} (d:0<s.size) (z:fS s) {k:Nat} (A:k<s.size) {most:Int} (E:(s.size:Int)<=most):rest (sqA s) (k:Int) (sqS s) most=(mkS (rot s (oOf s k).toNat),0):=by
 rw[wR (YA d) (YC d z) (by rw[MB d z];exact E) (by rw[MB d z];omega),aOc d z,Int.toNat_natCast];have:nF (oY s) k=rot s (oOf s k).toNat:=aN9 z A;rw[this]
theorem aOe (s:ByteArray):rot s 0=s.data.toList:=by
 unfold rot;simp
theorem YE {s:ByteArray} (d:0<s.size) (z:fS s) {most:Int} (A:(s.size:Int)<=most):rest (sqA s) (sqO s) (sqS s) most=(s,0):=by
 obtain⟨E,F⟩:=MC d z;rw[EF d,aOd d z E A,F];simp only[Int.toNat_zero,aOe,pL]
theorem aOf {s:ByteArray} (d:0<s.size) (z:fS s) (o:Int) {most:Int} (A:most<(s.size:Int)):rest (sqA s) o (sqS s) most=(cW,4):=
 zL (YA d) (YC d z) (by rw[MB d z];omega)
def cL (s:List UInt8) (at' room:Int):ByteArray×Int×Int×Int:=
 if at'<0\/room<1\/360<room then(cW,0,0,1)
 else if aO s.length at' 48≠0 then(cW,0,0,aO s.length at' 48)
 else if aE s at' 48≠0x314159265359 then(cW,0,0,3)
 else if aO s.length (at'+48) 32≠0 then(cW,0,0,aO s.length (at'+48) 32)
 else if aO s.length (at'+80) 16≠0 then(cW,0,0,aO s.length (at'+80) 16)
 else
  let u:=cG s (at'+96)
  if u.2.2≠0 then(cW,0,0,u.2.2)
  else
   let c:=cV s u.2.1 ((u.1.length:Int)+2)
   if c.2.2≠0 then(cW,0,0,c.2.2)
   else
    let r:=rest (mkS u.1) (aE s (at'+80) 16) c.1 room
    if r.2≠0 then(cW,0,0,r.2)
    else
     let o:=fR r.1.data.toList (52*room)
     if o.2≠0 then(cW,0,0,o.2)
     else if(fG o.1).toNat≠aE s (at'+48) 32 then(cW,0,0,7)
     else(mkS o.1,(aE s (at'+48) 32:Int),c.2.1,0)
noncomputable def oB (t:ByteArray) (v:Nat):List Bool:=
 yV v (sqO (mkS (bC t.data.toList))).toNat (bK (bC t.data.toList)) (sqS (mkS (bC t.data.toList)))
noncomputable def cB (t:ByteArray):List Bool:=oB t (fG t.data.toList).toNat
theorem aOl (t:ByteArray) (v:Nat):(oB t v).length=48+32+16+(fZ (bK (bC t.data.toList))).length+(rV (sqS (mkS (bC t.data.toList))) ((bK (bC t.data.toList)).length+2)).length:=by
 unfold oB yV;simp only[aL,cY]
theorem YJ {p:ByteArray} (z:0<p.size) (E:fS p):let n:=(bK p.data.toList).length+2
  (∀x∈sqS p,0<=x/\x<(n:Int))/\0<(sqS p).length/\(sqS p)[(sqS p).length-1]? =some ((n:Int)-1)/\(∀x∈(sqS p).take ((sqS p).length-1),x<(n:Int)-1):=by
 intro n;have A:=YB z E;rw[MA z];refine⟨fun x d=>?_,by simp,?_,fun x d=>?_⟩
 ·rcases cU.1 d with d|d
  ·have:=A x d;omega
  ·obtain rfl:=dC.1 d;omega
 ·rw[aL,fK,jZ,List.getElem?_append_right (aA _),Nat.sub_self,List.getElem?_cons_zero]
  congr 1;omega
 ·rw[aL,fK,jZ,vN rfl] at d;have:=A x d;omega
theorem ME {s:List UInt8} {a:Nat} {t:ByteArray} {v:Nat} {room:Int} (hv:v<2^32) (h0:0<t.size) (z:fS (mkS (bC t.data.toList))) (a7:1<=room) (hr:room<=360) (a8:(bC t.data.toList).length<=8000) (h:fH s a (oB t v)):
  cL s (a:Int) room=if room<((bC t.data.toList).length:Int) then(cW,0,0,4) else if(fG t.data.toList).toNat=v then(t,(v:Int),((a+(oB t v).length:Nat):Int),0) else(cW,0,0,7):=by
 have G:t.data.toList.length=t.size:=by simp
 have a0:t.data.toList≠[]:=fun e=>by rw[e] at G;simp at G;omega
 have a1:=oS t.data.toList.length t.data.toList (aA _);have H:=a1.2.1 a0;have d:0<(mkS (bC t.data.toList)).size:=by rw[cP];exact kV.2 H
 have I:(mkS (bC t.data.toList)).size=(bC t.data.toList).length:=cP _;obtain⟨J,f2,L,M⟩:=YJ d z;have a9:=(LW (mkS (bC t.data.toList))).1;have hor:=MC d z;have b0:=rX (bC t.data.toList);have a2:=BT H;have a3:=UA t.data.toList.length t.data.toList (aA _);rw[fW] at J L M;have a4:(sqO (mkS (bC t.data.toList))).toNat<2^16:=by rw[EF d];omega
 have a5:(((sqO (mkS (bC t.data.toList))).toNat:Nat):Int)=sqO (mkS (bC t.data.toList)):=by rw[EF d];omega
 rw[aOl];unfold oB yV at h;obtain⟨h,O⟩:=jN h;obtain⟨h,T⟩:=jN h;obtain⟨h,U⟩:=jN h;obtain⟨s1,V⟩:=jN h;simp only[aL,cY] at V U T O;obtain⟨e1,v1⟩:=uX s1 (by decide);obtain⟨Y,v2⟩:=uX V hv;obtain⟨Z,v3⟩:=uX U a4;have E:=aJn a2 T;rw[PK] at E;have e5:=aMh (by omega) (by omega) J (by omega) f2 L M O;rw[show((a+48:Nat):Int)=(a:Int)+48 by omega] at Y v2;rw[show((a+(48+32):Nat):Int)=(a:Int)+80 by omega] at Z v3;rw[show((a+(48+32+16):Nat):Int)=(a:Int)+96 by omega] at E
 have a6:mkS (bK (bC t.data.toList))=sqA (mkS (bC t.data.toList)):=by rw[zO d,fW]
 unfold cL;rw[if_neg (by omega),if_neg (by rw[e1];simp),if_neg (by rw[v1];simp),if_neg (by rw[Y];simp),if_neg (by rw[Z];simp),E];simp only
 rw[if_neg (by simp)];have ea:a+(48+32+16)+(fZ (bK (bC t.data.toList))).length=a+(48+32+16+(fZ (bK (bC t.data.toList))).length):=by omega
 rw[ea,show((bK (bC t.data.toList)).length:Int)+2=(((bK (bC t.data.toList)).length+2:Nat):Int) by omega,e5];simp only
 rw[if_neg (by simp),v3,a5,a6]
 by_cases F:room<((bC t.data.toList).length:Int)
 ·rw[aOf d z _ (by rw[I];exact F),if_pos F];simp only
  rw[if_pos (by decide)]
 ·rw[YE d z (most:=room) (by rw[I];omega),if_neg F];simp only
  rw[if_neg (by simp),fW];have hu:fR (bC t.data.toList) (52*room)=(t.data.toList,0):=by
   rw[LI a3,if_neg (by omega)]
  rw[hu];simp only
  rw[if_neg (by simp),v2]
  by_cases A:(fG t.data.toList).toNat=v
  ·rw[if_neg (fun k=>k A),if_pos A,pL];refine gK rfl (gK rfl (gK ?_ rfl));refine congrArg (fun k:Nat=>(k:Int)) ?_;omega
  ·rw[if_pos A,if_neg A]
theorem EI {s:List UInt8} {a:Nat} {t:ByteArray} {room:Int} (z:0<t.size) (A:fS (mkS (bC t.data.toList))) (G:((bC t.data.toList).length:Int)<=room) (E:room<=360) (h:fH s a (cB t)):
  cL s (a:Int) room=(t,((fG t.data.toList).toNat:Int),((a+(cB t).length:Nat):Int),0):=by
 have d:t.data.toList.length=t.size:=by simp
 have F:=(oS t.data.toList.length t.data.toList (aA _)).2.1 (fun e=>by rw[e] at d;simp at d;omega);have:=kV.2 F;rw[ME (fG t.data.toList).isLt z A (by omega) E (by omega) h,if_neg (by omega),if_pos rfl];rfl
structure MF (a:ByteArray) (l:List Int) (most:Int) (t:ByteArray):Prop where
 pos:0<t.size
 tm:(t.size:Int)<=most
 len:t.size=(cE l).length
 two:2<=l.length
 last:l[l.length-1]? =some ((a.size:Int)+1)
 sym:∀x∈l.take (l.length-1),0<=x/\x<(a.size:Int)+1
 asz:a.size<=256
 bK:mkS (bK (a++t).data.toList)=a
theorem aOm (a t:ByteArray):(a++t).data.toList=a.data.toList++t.data.toList:=by simp
theorem aOn {s:List UInt8} {o:Nat} (h:o<s.length):∀b∈nF s o,b∈s:=fun b z=>by
 obtain⟨i,_,rfl⟩:=dU.1 z;have d:=sU s o h (i+1);rw[aV,aN d];exact gT d
theorem aOo (a:ByteArray) (o:Int) (l:List Int) (most:Int):
  (∃e,rest a o l most=(cW,e)/\e≠0)\/∃t,rest a o l most=(t,0)/\MF a l most t:=by
 by_cases d:a.data.toList≠[]/\Go.Proofs.YtiifmcicleljjaaGreatDoor.bK a.data.toList=a.data.toList
 rotate_left
 ·exact .inl ⟨1,wQ d,by decide⟩
 by_cases z:gW l ((a.size:Int)+1)
 rotate_left
 ·exact .inl ⟨3,zK d z,by decide⟩
 by_cases A:((cE l).length:Int)<=most
 rotate_left
 ·exact .inl ⟨4,zL d z A,by decide⟩
 by_cases E:0<=o/\o<((cE l).length:Int)
 rotate_left
 ·exact .inl ⟨3,zM d z A E,by decide⟩
 refine .inr ⟨_,wR d z A E,?_⟩;have F:a.data.toList.length=a.size:=by rw[Array.length_toList];rfl
 have I:0<a.size:=by rw[<-F];exact kV.2 d.1
 have H:(unL a.data.toList (cE l)).length=(cE l).length:=oO _ _;have G:(nF (unL a.data.toList (cE l)) o.toNat).length=(cE l).length:=by rw[CN,H]
 have J:∀b∈nF (unL a.data.toList (cE l)) o.toNat,b∈a.data.toList:=fun b L=>
  IQ _ _ (by rw[F];exact LQ z I) b (aOn (by rw[H];omega) b L)
 refine⟨by rw[cP,G];omega,by rw[cP,G];exact A,by rw[cP,G],?_,z.2.1,z.2.2,?_,?_⟩
 ·rcases Nat.lt_or_ge l.length 2 with q|q
  ·have e:cE l=[]:=by
    unfold cE;rw[show l.length-1=0 by omega];rfl
   rw[e] at E;simp at E;omega
  ·exact q
 ·rw[<-F,<-d.2];exact rX _
 ·rw[aOm,fW,PJ (t:=a.data.toList),d.2,pL];intro b;rw[cU];exact⟨fun h=>h.elim id (J b),.inl⟩
theorem MF.own {a t:ByteArray} {l:List Int} {most:Int} (h:MF a l most t) (d:fS t):sqE t=0/\rest (sqA t) (sqO t) (sqS t) (t.size:Int)=(t,0):=
 ⟨XZ h.pos,YE h.pos d (Int.le_refl _)⟩
theorem aOp (s t:List UInt8) (at' room:Int):(cL s at' room).2.2.2=2\/cL (s++t) at' room=cL s at' room:=by
 by_cases d:at'<0\/room<1\/360<room
 ·right
  unfold cL;rw[if_pos d,if_pos d]
 ·rcases oV s t at' 48 with h|⟨G,H⟩
  ·left
   unfold cL;rw[if_neg d,if_pos (by omega)];exact h
  ·by_cases z:aO s.length at' 48≠0
   ·right
    unfold cL;rw[G,if_neg d,if_neg d,if_pos z,if_pos z]
   ·by_cases A:aE s at' 48≠0x314159265359
    ·right
     unfold cL;rw[G,H,if_neg d,if_neg d,if_neg z,if_neg z,if_pos A,if_pos A]
    ·rcases oV s t (at'+48) 32 with r|⟨J,M⟩
     ·left
      unfold cL;rw[if_neg d,if_neg z,if_neg A,if_pos (by omega)];exact r
     ·by_cases E:aO s.length (at'+48) 32≠0
      ·right
       unfold cL;rw[G,H,J,if_neg d,if_neg d,if_neg z,if_neg z,if_neg A,if_neg A,if_pos E,if_pos E]
      ·rcases oV s t (at'+80) 16 with o|⟨L,O⟩
       ·left
        unfold cL;rw[if_neg d,if_neg z,if_neg A,if_neg E,if_pos (by omega)];exact o
       ·by_cases F:aO s.length (at'+80) 16≠0
        ·right
         unfold cL;rw[G,H,J,L,if_neg d,if_neg d,if_neg z,if_neg z,if_neg A,if_neg A,if_neg E,if_neg E,if_pos F,if_pos F]
        ·rcases aJu s t (at'+96) with u|u
         ·left
          unfold cL;rw[if_neg d,if_neg z,if_neg A,if_neg E,if_neg F];simp only
          rw[if_pos (by omega)];exact u
         ·by_cases I:(cG s (at'+96)).2.2≠0
          ·right
           unfold cL;rw[G,H,J,L,if_neg d,if_neg d,if_neg z,if_neg z,if_neg A,if_neg A,if_neg E,if_neg E,if_neg F,if_neg F];simp only
           rw[u,if_pos I,if_pos I]
          ·rcases aJ4 s t (cG s (at'+96)).2.1 (((cG s (at'+96)).1.length:Int)+2) with c|c
           ·left
            unfold cL;rw[if_neg d,if_neg z,if_neg A,if_neg E,if_neg F];simp only
            rw[if_neg I,if_pos (by omega)];exact c
           ·right
            unfold cL;rw[G,H,J,M,L,O,if_neg d,if_neg d,if_neg z,if_neg z,if_neg A,if_neg A,if_neg E,if_neg E,if_neg F,if_neg F];simp only
            rw[u,if_neg I,if_neg I,c]
theorem YK {s:List UInt8} {at' room:Int} (h:(cL s at' room).2.2.2=0):0<=at'/\1<=room/\room<=360/\1<=(cL s at' room).1.size/\((cL s at' room).1.size:Int)<=52*room/\(cL s at' room).2.1=((fG (cL s at' room).1.data.toList).toNat:Int)/\at'+96<(cL s at' room).2.2.1/\(cL s at' room).2.2.1<=8*(s.length:Int)/\
  aE s at' 48=0x314159265359:=by
 unfold cL at h ⊢
 by_cases O:at'<0\/room<1\/360<room
 ·rw[if_pos O] at h;simp at h
 rw[if_neg O] at h ⊢
 by_cases I:aO s.length at' 48≠0
 ·rw[if_pos I] at h;exact absurd h I
 rw[if_neg I] at h ⊢
 by_cases J:aE s at' 48≠0x314159265359
 ·rw[if_pos J] at h;simp at h
 rw[if_neg J] at h ⊢
 by_cases L:aO s.length (at'+48) 32≠0
 ·rw[if_pos L] at h;exact absurd h L
 rw[if_neg L] at h ⊢
 by_cases M:aO s.length (at'+80) 16≠0
 ·rw[if_pos M] at h;exact absurd h M
 rw[if_neg M] at h ⊢;simp only at h ⊢;have T:(cG s (at'+96)).2.2=0->at'+96<(cG s (at'+96)).2.1:=by
  intro e;have Z:=yE s (at'+96) 16;unfold cG at e ⊢;simp only at e ⊢
  by_cases E:(cJ s (at'+96) 16).2.2.2≠0
  ·rw[if_pos E] at e;exact absurd e E
  ·rw[if_neg E] at e ⊢
   by_cases U:(cJ s (at'+96) 16).2.2.1=true
   ·rw[if_pos U] at e;simp at e
   ·rw[if_neg U];have:=(Z.2 (dK.1 E)).1;show at'+96<(cJ s (at'+96) 16).2.1;omega
 by_cases F:(cG s (at'+96)).2.2≠0
 ·rw[if_pos F] at h;exact absurd h F
 rw[if_neg F] at h ⊢;have T:=T (dK.1 F);generalize cG s (at'+96)=u at*
 by_cases G:(cV s u.2.1 ((u.1.length:Int)+2)).2.2≠0
 ·rw[if_pos G] at h;exact absurd h G
 rw[if_neg G] at h ⊢;have hc:=LG (dK.1 G);generalize cV s u.2.1 ((u.1.length:Int)+2)=c at*
 have d:=aOo (mkS u.1) (aE s (at'+80) 16) c.1 room
 by_cases z:(rest (mkS u.1) (aE s (at'+80) 16) c.1 room).2≠0
 ·rw[if_pos z] at h;exact absurd h z
 rw[if_neg z] at h ⊢;rcases d with⟨e,d,he⟩|⟨p,d,a0⟩
 ·rw[d] at z;exact absurd he z
 rw[d] at h ⊢;simp only at h ⊢;have a1:p.data.toList≠[]:=fun e=>by
  have V:p.data.toList.length=p.size:=by simp
  have h2:=a0.pos;rw[e] at V;simp at V;omega
 by_cases H:(fR p.data.toList (52*room)).2≠0
 ·rw[if_pos H] at h;exact absurd h H
 rw[if_neg H] at h ⊢;have Y:=aKb a1 (dK.1 H);generalize fR p.data.toList (52*room)=o at*
 by_cases A:(fG o.1).toNat≠aE s (at'+48) 32
 ·rw[if_pos A] at h;simp at h
 rw[if_neg A];have A:=dK.1 A;have a2:=kV.2 Y.1;refine⟨by omega,by omega,by omega,by rw[cP];omega,by rw[cP];exact Y.2,by rw[fW,A],by show at'+96<c.2.1;omega,hc.2.2.2.2.2.2,dK.1 J⟩
theorem YL {t:ByteArray} {room:Int} (E:0<t.size) (F:fS (mkS (bC t.data.toList))) (G:((bC t.data.toList).length:Int)<=room) (H:room<=360) {k:Nat} (I:8*k<(cB t).length):
  (cL ((aD (cB t)).take k) 0 room).2.2.2=2:=by
 rcases aOp ((aD (cB t)).take k) ((aD (cB t)).drop k) 0 room with h|h
 ·exact h
 ·rw[List.take_append_drop] at h;have d:=EI (s:=aD (cB t)) (a:=0) E F G H (zP _);rw[show((0:Nat):Int)=0 from rfl] at d;rw[d] at h;have z:=YK (s:=(aD (cB t)).take k) (at':=0) (room:=room) (by rw[<-h]);rw[<-h] at z;have A:=z.2.2.2.2.2.2.2.1;rw[aX] at A;have J:((0+(cB t).length:Nat):Int)<=8*(min k (aD (cB t)).length:Nat):=A;omega
end
section
open Go.RowKit Go Go.Shelf
def wT (a:Int) (D:ByteArray×Int×Int×Int):Value:=.agg #[.string D.1,.int .u32 D.2.1,.int .i64 (if D.2.2.2=0 then a else 0),.int .i64 D.2.2.1]
theorem YM (a:Int) (x:ByteArray) (y z E:Int) (h:E≠0):wT a (x,y,z,E)=.agg #[.string x,.int .u32 y,.int .i64 0,.int .i64 z]:=by unfold wT;rw[if_neg h]
theorem MG (a:Int) (x:ByteArray) (y z:Int):wT a (x,y,z,0)=.agg #[.string x,.int .u32 y,.int .i64 a,.int .i64 z]:=by unfold wT;rw[if_pos rfl]
theorem YN:(Tryz.prog.info? 36).map (·.size)=some 4:=by kernel_rfl
theorem oZ {w W:World} {z:Nat} {G H I J:Value} (L:Arr W z 36 [G,H,I,J]) (M:Below z w W) (d A E F:Value):
  Arr ((((W.setCell ⟨z,0,none⟩ d).setCell ⟨z,1,none⟩ A).setCell ⟨z,2,none⟩ E).setCell ⟨z,3,none⟩ F) z 36 [d,A,E,F]/\
  Below z w ((((W.setCell ⟨z,0,none⟩ d).setCell ⟨z,1,none⟩ A).setCell ⟨z,2,none⟩ E).setCell ⟨z,3,none⟩ F):=
 ⟨(((L.set 0 _).set 1 _).set 2 _).set 3 _,(((M.setCell (p:=⟨z,0,none⟩) (aA _) _).setCell (p:=⟨z,1,none⟩) (aA _) _).setCell (p:=⟨z,2,none⟩) (aA _) _).setCell (p:=⟨z,3,none⟩) (aA _) _⟩
theorem wU (s:List UInt8) (a room:Int):cL s a room=
  if a<0\/room<1\/360<room then(cW,0,0,1)
  else if aO s.length a 48≠0 then(cW,0,0,aO s.length a 48)
  else if aE s a 48≠0x314159265359 then(cW,0,0,3)
  else if aO s.length (a+48) 32≠0 then(cW,0,0,aO s.length (a+48) 32)
  else if aO s.length (a+80) 16≠0 then(cW,0,0,aO s.length (a+80) 16)
  else if(cG s (a+96)).2.2≠0 then(cW,0,0,(cG s (a+96)).2.2)
  else if(cV s (cG s (a+96)).2.1 (((cG s (a+96)).1.length:Int)+2)).2.2≠0 then(cW,0,0,(cV s (cG s (a+96)).2.1 (((cG s (a+96)).1.length:Int)+2)).2.2)
  else if(rest (mkS (cG s (a+96)).1) (aE s (a+80) 16) (cV s (cG s (a+96)).2.1 (((cG s (a+96)).1.length:Int)+2)).1 room).2≠0 then(cW,0,0,(rest (mkS (cG s (a+96)).1) (aE s (a+80) 16) (cV s (cG s (a+96)).2.1 (((cG s (a+96)).1.length:Int)+2)).1 room).2)
  else if(fR (rest (mkS (cG s (a+96)).1) (aE s (a+80) 16) (cV s (cG s (a+96)).2.1 (((cG s (a+96)).1.length:Int)+2)).1 room).1.data.toList (52*room)).2≠0 then(cW,0,0,(fR (rest (mkS (cG s (a+96)).1) (aE s (a+80) 16) (cV s (cG s (a+96)).2.1 (((cG s (a+96)).1.length:Int)+2)).1 room).1.data.toList (52*room)).2)
  else if(fG (fR (rest (mkS (cG s (a+96)).1) (aE s (a+80) 16) (cV s (cG s (a+96)).2.1 (((cG s (a+96)).1.length:Int)+2)).1 room).1.data.toList (52*room)).1).toNat≠aE s (a+48) 32 then(cW,0,0,7)
  else(mkS (fR (rest (mkS (cG s (a+96)).1) (aE s (a+80) 16) (cV s (cG s (a+96)).2.1 (((cG s (a+96)).1.length:Int)+2)).1 room).1.data.toList (52*room)).1,(aE s (a+48) 32:Int),(cV s (cG s (a+96)).2.1 (((cG s (a+96)).1.length:Int)+2)).2.1,0):=rfl
theorem YO (a:ByteArray) (o:Int) (l:List Int) (most:Int) (h:(rest a o l most).2=0):((rest a o l most).1.size:Int)<=most:=by
 unfold rest at h ⊢;split at h
 ·simp at h
 ·next d=>
  rw[if_neg d];split at h
  ·simp at h
  ·next z=>
   rw[if_neg z];split at h
   ·simp at h
   ·next A=>
    rw[if_neg A];split at h
    ·simp at h
    ·next E=>
     rw[if_neg E];simp only
     rw[cP,CN,oO];omega
theorem YP {s:List UInt8} {a:Int} (h:(cG s a).2.2=0):(cG s a).1.length<=256/\a+16<=(cG s a).2.1/\(cG s a).2.1<=a+272:=by
 have z:=yE s a 16;unfold cG at h ⊢;simp only at h ⊢
 by_cases d:(cJ s a 16).2.2.2≠0
 ·rw[if_pos d] at h;exact absurd h d
 ·rw[if_neg d] at h ⊢
  by_cases A:(cJ s a 16).2.2.1=true
  ·rw[if_pos A] at h;simp at h
  ·rw[if_neg A];have:=z.2 (dK.1 d);exact⟨by have:=z.1;omega,this.1,by have:=this.2;show(cJ s a 16).2.1<=_;omega⟩
structure BIn (t:ByteArray) (P a:List UInt8) (m:List Int) (o n:Nat):Prop where
 hP:P=bC t.data.toList
 ha:a=bK P
 hm:m=sqS (mkS P)
 ho:(o:Int)=sqO (mkS P)
 hn:n=a.length+2
 hA:sqA (mkS P)=mkS a
 hE:sqE (mkS P)=0
 o16:o<65536
 an:a≠[]
 a256:a.length<=256
 n2:3<=n
 n258:n<=258
 m0:0<m.length
 m361:m.length<=9000
 rng:∀x∈m,0<=x/\x<(n:Int)
 c0:bL (dN m n 0)=0
 c1:bL (dN m n 1)=0
 l0:(dN m n 0).length=n
 l1:(dN m n 1).length=n
theorem BIn.of {t:ByteArray} (T:0<t.size) (U:(bC t.data.toList).length<=8000) (A:fS (mkS (bC t.data.toList))):∃P a m o n,BIn t P a m o n:=by
 have E:t.data.toList.length=t.size:=by simp
 have I:t.data.toList≠[]:=fun e=>by rw[e] at E;simp at E;omega
 have J:=oS t.data.toList.length t.data.toList (aA _);have F:=J.2.1 I;have z:0<(mkS (bC t.data.toList)).size:=by rw[cP];exact kV.2 F
 have V:(mkS (bC t.data.toList)).size=(bC t.data.toList).length:=cP _;obtain⟨d,L,Y,Z⟩:=YJ z A;have a0:=(LW (mkS (bC t.data.toList))).1;have hor:=MC z A;have M:=rX (bC t.data.toList);have G:=BT F;have O:=EF z;have H:=zO z;rw[fW] at d H;have a1:=kV.2 G;refine⟨_,_,_,fD (oOf (mkS (bC t.data.toList))) (mkS (bC t.data.toList)).size,_,rfl,rfl,rfl,O.symm,rfl,H,XZ z,by omega,G,M,by omega,by omega,L,by omega,d,?_,?_,?_,?_⟩
 ·exact tB (by omega) (by omega) d (by omega)
 ·exact tB (by omega) (by omega) d (by omega)
 ·exact(rQ (by omega) (by omega) d (by omega)).2
 ·exact(rQ (by omega) (by omega) d (by omega)).2
theorem BIn.blk {t:ByteArray} {P a:List UInt8} {m:List Int} {o n:Nat} (h:BIn t P a m o n):cB t=aY 0x314159265359 48++aY (fG t.data.toList).toNat 32++aY o 16++fZ a++(aY 2 3++aY (cT m n).length 15++dE (dO (cT m n))++dW (dN m n 0)++dW (dN m n 1)++gP (dN m n 0) (dN m n 1) (cT m n) (cK m)):=by
 have e:(sqO (mkS (bC t.data.toList))).toNat=o:=by have:=h.ho;rw[h.hP] at this;omega
 unfold cB oB yV rV;rw[e,<-h.hP,<-h.ha,<-h.hm,<-h.hn]
theorem YS {l g:List Int} (h:fY l) (d:∀x∈g,0<=x/\x<(l.length:Int)) (z:0<g.length):0<(eR l g).length:=by
 cases g with
 |nil=>simp at z
 |cons x g=>
  have A:=d x (List.mem_cons_self ..);have:=(jG h (s:=x.toNat) (by omega)).1;unfold eR;rw[sH,aL,cY];omega
theorem aOr (s:List UInt8):0<(fZ s).length:=by
 unfold fZ nB;simp;omega
theorem YT (l:List Int):0<(dW l).length:=by unfold dW;rw[aL,cY];omega
theorem wW {l:List Int} (h:fY l):(dW l).length<=5+39*258:=by
 have A:=h.1;have z:=h.2.1;have d:=h.2.2 (l.getD 0 0) (by rw[aV,aN (show 0<l.length by omega)];exact gT _);have:=CZ l (l.getD 0 0) d.1 d.2 h.2.2;unfold dW;rw[aL,cY];have:39*l.length<=39*258:=Nat.mul_le_mul_left _ z;omega
theorem YQ {l:List Int} (h:0<l.length):0<(dE l).length:=by
 cases l with
 |nil=>simp at h
 |cons x l=>
  unfold dE lF;rw[sH,aL,aL];simp;omega
def eZ (t:ByteArray) (room:Int):Int:=if t.size=0\/room<1\/360<room then 1 else if room<((bC t.data.toList).length:Int) then 4 else 0
noncomputable def mP (t:ByteArray) (room:Int):List Bool:=if eZ t room=0 then cB t else[]
def zQ (w w':World) (t:ByteArray) (room:Int) (e:Ending):Prop:=e=.returned (.tuple #[eL (mP t room),.int .i64 (eZ t room)])/\Below w.heap.size w w'/\(eZ t room=0->fS (mkS (bC t.data.toList)))
theorem YR:eL []=.agg #[.string ⟨#[]⟩,.int .i64 0]:=rfl
theorem vB {w w':World} {t:ByteArray} {room E:Int} (h:eZ t room=E) (d:E≠0) (z:Below w.heap.size w w'):zQ w w' t room (.returned (.tuple #[.agg #[.string ⟨#[]⟩,.int .i64 0],.int .i64 E])):=by
 refine⟨?_,z,fun k=>absurd (h.symm.trans k) d⟩;unfold mP;rw[if_neg (by rw[h];exact d),YR,h]
theorem rdQ {d z A:Prop} {B:Nat} {w0 w':World} {v:Value} {m:List Int} (e:RdI w0 v m) (E:w0.heap.size=B) (h:d/\z/\A/\Below B w0 w'/\B<=w'.heap.size):RdI w' v m:=e.below (E▸h.2.2.2.1)
theorem aOs {m:List Int} {n j:Nat} {g:List Int} (h:(cK m)[j]? =some g):(cT m n)[j]? =some (nX (dN m n 0) (dN m n 1) g):=by
 unfold cT;rw[dY,h];rfl
theorem MH {t0 t1 cs:List Int} {gs:List (List Int)} {k:Nat} {c:Int} {g:List Int} (d:cs[k]? =some c) (z:gs[k]? =some g):gP t0 t1 (cs.take (k+1)) (gs.take (k+1))=gP t0 t1 (cs.take k) (gs.take k)++eR (if c=0 then t0 else t1) g:=by
 have A:=(eU.1 d).1;have E:=(eU.1 z).1;rw[cQ,cQ,d,z];exact KL _ _ _ _ _ _ (by rw[aX,aX];omega)
theorem bpE {d:Func} {Q:Ending->World->Prop} {W:World} {a:Act} {z:Nat} {A E u:Value} (F:d.results=#[.cell 4 29,.tmp 5]) (G:Arr W z 29 [A,E]) (H:a.tmps.getD 4 undef=.pointer (some ⟨z,0,none⟩)) (I:a.tmps.getD 5 undef=u) (J:a.defers=[])
  (h:Q (.returned (.tuple #[.agg #[A,E],u])) W):bodyPost Tryz.prog d Q .ret a W:=by
 refine gJ (qH F _ _ z _ _ (0,0) _ H G Tryz.underlying29 rfl mF) J ?_;rw[I];exact h
theorem s3B {d z A:Prop} {B:Nat} {w0 w':World} (h:d/\z/\A/\Below B w0 w'/\B<=w'.heap.size):Below B w0 w':=h.2.2.2.1
theorem EJ {B:Nat} {w:World} {o d:Obj} (h:B<=w.heap.size):Below B (w.alloc o) (w.alloc d):=
 ⟨rfl,rfl,rfl,by simp,fun k z=>by rw[oF w d k (by omega),oF w o k (by omega)]⟩
theorem wX {d:World} {z F A G E H:Nat} {v1 v2 v3:Value} {B:Nat} {w0:World} (h:d.cell? ⟨z,F,none⟩=some v1/\d.cell? ⟨A,G,none⟩=some v2/\d.cell? ⟨E,H,none⟩=some v3/\Below B w0 d/\B<=d.heap.size) (I:z<B) (J:A<B) (L:E<B) (i:Nat) (v:Value):
  (d.setCell ⟨B,i,none⟩ v).cell? ⟨z,F,none⟩=some v1/\(d.setCell ⟨B,i,none⟩ v).cell? ⟨A,G,none⟩=some v2/\(d.setCell ⟨B,i,none⟩ v).cell? ⟨E,H,none⟩=some v3/\Below B w0 (d.setCell ⟨B,i,none⟩ v)/\B<=(d.setCell ⟨B,i,none⟩ v).heap.size:=
 CX h ((aB B d).setCell (p:=⟨B,i,none⟩) (aA _) v) I J L
theorem EL {w W:World} {z:Nat} {E F:Value} (G:Arr W z 29 [E,F]) (H:Below z w W) (d A:Value):
  Arr ((W.setCell ⟨z,0,none⟩ d).setCell ⟨z,1,none⟩ A) z 29 [d,A]/\Below z w ((W.setCell ⟨z,0,none⟩ d).setCell ⟨z,1,none⟩ A):=
 ⟨(G.set 0 _).set 1 _,(H.setCell (p:=⟨z,0,none⟩) (aA _) _).setCell (p:=⟨z,1,none⟩) (aA _) _⟩
theorem aTs (s:ByteArray) (room:Int) (w:World) (hs:s.size<=100000) (o7: -9223372036854775808<=room) (o8:room<=9223372036854775807):
  Calls Tryz.prog 13 #[.string s,.int .i64 room] w fun e w'=>zQ w w' s room e:=by
 have HL:=hid (show s.data.toList.length=s.size by simp);have a3:=Arr.new w 29 [.string ⟨#[]⟩,.int .i64 0];have p0:(w.alloc (.cells #[.string ⟨#[]⟩,.int .i64 0] 29)).heap.size=w.heap.size+1:=by simp
 have c8:Below w.heap.size w (w.alloc (.cells #[.string ⟨#[]⟩,.int .i64 0] 29)):=bD (aB _ _) _;change Arr (w.alloc (.cells #[.string ⟨#[]⟩,.int .i64 0] 29)) _ _ _ at a3;have hd:eZ s room=if s.size=0\/room<1\/360<room then 1 else if room<((bC s.data.toList).length:Int) then 4 else 0:=rfl
 by_cases g6:s.size=0\/room<1\/360<room
 ·rw[if_pos g6] at hd;have HF:=hid hd;clear hd;have d0:=a3.cell (i:=0) rfl;have d1:=a3.cell (i:=1) rfl;have f0:=a3.free 0;have f1:=a3.free 1
  by_cases h1:s.size=0
  ·have u1:s.toList.isEmpty=true:=vA (List.eq_nil_of_length_eq_zero (by rw[HL.out];exact h1));go_enter Tryz.func13,Tryz.ntmps13;go_wp2_with fail;exact bpE rfl a3 rfl rfl rfl (vB HF.out (by decide) c8)
  have u1:s.toList.isEmpty=false:=rY (by omega)
  by_cases h2:room<1
  ·have u2:decide (room<1)=true:=decide_eq_true h2;go_enter Tryz.func13,Tryz.ntmps13;go_wp2_with fail;exact bpE rfl a3 rfl rfl rfl (vB HF.out (by decide) c8)
  have u2:decide (room<1)=false:=decide_eq_false h2;have u3:decide (room>360)=true:=decide_eq_true (by omega);have u4:decide (360<room)=true:=decide_eq_true (by omega);go_enter Tryz.func13,Tryz.ntmps13;go_wp2_with fail;exact bpE rfl a3 rfl rfl rfl (vB HF.out (by decide) c8)
 rw[if_neg g6] at hd;have u1:s.toList.isEmpty=false:=rY (by omega);have u2:decide (room<1)=false:=decide_eq_false (by omega);have u3:decide (room>360)=false:=decide_eq_false (by omega);have u4:decide (360<room)=false:=decide_eq_false (by omega);have p1:0<s.size:=by omega
 have g7:=fun W=>aKk s W (by omega)
 have k1:=(oS s.data.toList.length s.data.toList (aA _)).1;rw[HL.out] at k1;obtain⟨P,hP⟩:∃P,P=bC s.data.toList:=⟨_,rfl⟩;rw[<-hP] at hd g7 k1;have HP:=hid hP;clear hP;go_enter Tryz.func13,Tryz.ntmps13;go_wp2_with fail;generalize w.alloc (.cells #[.string ⟨#[]⟩,.int .i64 0] 29)=w0 at*
 have a1:w.heap.size<w0.heap.size:=by omega
 refine(g7 _).mono ?_;rintro e w1 ⟨rfl,f2⟩;have hA:=a3.below f2 a1;have hb:=c8.trans (f2.mono (by omega));have p1:=f2.size;clear g7 f2 a3 c8
 by_cases c6:room<(P.length:Int)
 ·rw[if_pos c6] at hd;have HF:=hid hd;clear hd;have v1:decide ((P.length:Int)>room)=true:=decide_eq_true c6;have v2:decide (room<(P.length:Int))=true:=decide_eq_true c6;have d0:=hA.cell (i:=0) rfl;have d1:=hA.cell (i:=1) rfl;have f0:=hA.free 0;have f1:=hA.free 1;go_wp2_with fail;obtain⟨z0,z1⟩:=EL hA hb (.string ⟨#[]⟩) (.int .i64 0);exact bpE rfl z0 rfl rfl rfl (vB HF.out (by decide) z1)
 rw[if_neg c6] at hd;have HF:=hid hd;clear hd;have v1:decide ((P.length:Int)>room)=false:=decide_eq_false c6;have v2:decide (room<(P.length:Int))=false:=decide_eq_false c6;have x6:P.length<=360:=by omega
 go_wp2_with fail;refine(aN4 (mkS P) _ (by rw[cP];omega)).mono ?_;rintro e w2 ⟨v5,rfl,a9,f3,hO⟩;have k2:=(oS s.data.toList.length s.data.toList (aA _)).2.1 (fun e=>by have:=HL.out;rw[e] at this;simp at this;omega);rw[<-HP.out] at k2;have hO:=hO (by rw[cP];exact kV.2 k2);have HO:=hid (show fS (mkS (bC s.data.toList)) by rw[<-HP.out];exact hO);obtain⟨P',a,m,o,n,hI⟩:=BIn.of (t:=s) (by omega) (by rw[<-HP.out];omega) HO.out;obtain rfl:P'=P:=by rw[hI.hP,HP.out]
 rw[hI.hA,<-hI.ho,hI.hE,<-hI.hm] at*
 have HI:=hid hI;have p2:=hI.m0;have p3:=hI.m361;have x7:=hI.n2;have p4:=hI.n258;have x8:=hI.a256;have p5:=hI.o16;have g8:(a.length:Int)+2=(n:Int):=by rw[hI.hn];omega
 have k3:((mkS a).size:Int)+2=(n:Int):=by rw[cP];exact g8
 have p6:(a.length:Int)+2=(n:Int):=g8;obtain⟨a5,c5,rfl,_,_,_⟩:=a9.open;have hA:=hA.below f3 (by omega);have hb:=hb.trans (f3.mono (by omega));have p7:=f3.size;clear hI f3 hO;go_wp2_with fail;have U:=Arr.new w2 50 [.string (mkS a),.int .i64 (o:Int),.slice a5 m.length c5];have hA:=hA.alloc (.cells #[.string (mkS a),.int .i64 (o:Int),.slice a5 m.length c5] 50);have hb:=hb.alloc (o:=.cells #[.string (mkS a),.int .i64 (o:Int),.slice a5 m.length c5] 50) (by omega);have a9:=a9.below (bD (aB w2.heap.size w2) (.cells #[.string (mkS a),.int .i64 (o:Int),.slice a5 m.length c5] 50))
 have k4:(w2.alloc (.cells #[.string (mkS a),.int .i64 (o:Int),.slice a5 m.length c5] 50)).heap.size=w2.heap.size+1:=by simp
 change Arr (w2.alloc (.cells #[.string (mkS a),.int .i64 (o:Int),.slice a5 m.length c5] 50)) _ _ _ at U;generalize w2.alloc (.cells #[.string (mkS a),.int .i64 (o:Int),.slice a5 m.length c5] 50)=w3 at*
 obtain⟨z7,k5⟩:∃z7,z7=w2.heap.size:=⟨_,rfl⟩;rw[<-k5] at U k4 p7 ⊢;clear k5;obtain⟨B3,g9⟩:∃B3,w3.heap.size=B3:=⟨_,rfl⟩;have x0:=U.cell (i:=0) rfl;have x1:=U.cell (i:=1) rfl;have x2:=U.cell (i:=2) rfl;have p8:z7<B3:=by omega
 have i0:=kZ (B:=B3) (w0:=w3) ⟨x0,x1,x2,aB _ _,by omega⟩ (aB w3.heap.size w3).drew
 go_region_held3 (fun w'=>w'.cell? ⟨z7,0,none⟩=some (.string (mkS a))/\w'.cell? ⟨z7,1,none⟩=some (.int .i64 (o:Int))/\w'.cell? ⟨z7,2,none⟩=some (.slice a5 m.length c5)/\Below B3 w3 w'/\B3<=w'.heap.size)
  (first
   |with_reducible assumption
   |with_reducible exact kZ (by assumption) (by assumption))
  (first
   |(go_at_call 40;refine(aL5 (mkS a) (o:Int) (.slice a5 m.length c5) rfl _ (by rw[cP];omega)).mono ?_;rintro e w4 ⟨rfl,p9⟩;rw[k3])
   |(go_at_call 39;refine(aIh (.slice a5 m.length c5) m n _ (rdQ a9 g9 (by assumption)) p2 (by omega) (by omega) p4 HI.out.rng).mono ?_;rintro e O ⟨v9,v10,rfl,i1,k6,q3⟩))
 have q4:=(show O.cell? ⟨z7,0,none⟩=some (.string (mkS a))/\O.cell? ⟨z7,1,none⟩=some (.int .i64 (o:Int))/\O.cell? ⟨z7,2,none⟩=some (.slice a5 m.length c5)/\Below B3 w3 O/\B3<=O.heap.size by assumption);obtain⟨x0,x1,x2,f4,q5⟩:=q4;obtain⟨B,hB⟩:∃B,B=O.heap.size:=⟨_,rfl⟩;have i2:z7<B:=by omega
 have k7:w.heap.size<B:=by omega
 have HC:=hid (fun W (h:Below B O W)=>show W.cell? ⟨z7,0,none⟩=some (.string (mkS a))/\W.cell? ⟨z7,1,none⟩=some (.int .i64 (o:Int))/\W.cell? ⟨z7,2,none⟩=some (.slice a5 m.length c5) from⟨(h.cell (p:=⟨z7,0,none⟩) i2).trans x0,(h.cell (p:=⟨z7,1,none⟩) i2).trans x1,(h.cell (p:=⟨z7,2,none⟩) i2).trans x2⟩);have hA:=hA.below f4 (by omega);have hb:=hb.trans (f4.mono (by omega));have a9:=a9.below (g9▸f4);have i3:=OwI.rd k6;have HA:=hid (fun W (h:Below B O W)=>hA.below h k7);have HB:=hid (fun W (h:Below B O W)=>hb.trans (h.mono (Nat.le_of_lt k7)));have k8:=hid (fun W (h:Below B O W)=>a9.below (hB▸h))
 have k9:=hid (fun W (h:Below B O W)=>i3.below (hB▸h));have x9:=hid (fun W (h:Below B O W)=>i1.below (hB▸h));have i4:=wJ m n;obtain⟨ac,cc,rfl,_,_,l2⟩:=i3.open;obtain⟨b5,c9,rfl,q6,l3⟩:=l2 (by omega);obtain⟨y2,y3,rfl,y4,y5,l4⟩:=i1.open;obtain⟨b9,o9,rfl,l5,i5⟩:=l4 (by simp);obtain⟨y0,hy0,f5⟩:=i5 0 _ rfl;obtain⟨y1,hy1,f6⟩:=i5 1 _ rfl;obtain⟨V,f7⟩:∃V,V=dN m n 0:=⟨_,rfl⟩;obtain⟨Y,f8⟩:∃Y,Y=dN m n 1:=⟨_,rfl⟩;rw[<-f7] at f5;rw[<-f8] at f6;have l6:=hid f7;have l7:=hid f8;have b0:=hid (show bL V=0/\V.length=n by rw[f7];exact⟨HI.out.c0,HI.out.l0⟩)
 have b1:=hid (show bL Y=0/\Y.length=n by rw[f8];exact⟨HI.out.c1,HI.out.l1⟩);obtain⟨d2,d3,rfl,_,_,_⟩:=f5.open;obtain⟨d4,d5,rfl,_,_,_⟩:=f6.open;have c7:=hid (fun W (h:Below B O W)=>show W.cell? ⟨b9,o9,none⟩=some (.slice d2 V.length d3)/\W.cell? ⟨b9,o9+1,none⟩=some (.slice d4 Y.length d5)/\RdI W (.slice d2 V.length d3) V/\RdI W (.slice d4 Y.length d5) Y from
  ⟨(h.cell (p:=⟨b9,o9,none⟩) (by rw[hB];exact l5)).trans hy0,(h.cell (p:=⟨b9,o9+1,none⟩) (by rw[hB];exact l5)).trans hy1,f5.below (hB▸h),f6.below (hB▸h)⟩)
 have q7:=hid (fun W (h:Below B O W) i c (hi:(cT m n)[i]? =some c)=>show W.cell? ⟨b5,c9+i,none⟩=some (.int .i64 c) from(h.cell (p:=⟨b5,c9+i,none⟩) (by rw[hB];exact q6)).trans (l3 i c hi));clear l2 l3 l4 i5 hy0 hy1 f5 f6 f7 f8;have F:OwI O B (.slice none 0 0) (bI []):=OwI.nil _ _;have A:Below B O O:=aB _ _;have d:B<=O.heap.size:=by omega
 have q8:(cT m n).length<=901:=by omega
 have q9:0<(cT m n).length:=by omega
 have i6:=hid (DE m n);have hZ:=(fG s.data.toList).isLt;obtain⟨Z,f9⟩:∃Z,Z=(fG s.data.toList).toNat:=⟨_,rfl⟩;rw[<-f9] at hZ;have i7:=fun W=>WH s W (by omega)
 rw[<-f9] at i7;have HZ:=hid f9;have l8:∀W,Calls Tryz.prog 41 #[.int .u64 54156738319193,.int .i64 48] W fun e w'=>∃u,e=.returned u/\OwI w' W.heap.size u (bI (aY 54156738319193 48))/\Below W.heap.size W w':=fun W=>uF 54156738319193 48 W (by decide) (by decide)
 have l9:=fun W=>uF Z 32 W (by omega) (by decide)
 have m1:=fun W=>uF o 16 W (by omega) (by decide)
 have m2:∀W,Calls Tryz.prog 41 #[.int .u64 2,.int .i64 3] W fun e w'=>∃u,e=.returned u/\OwI w' W.heap.size u (bI (aY 2 3))/\Below W.heap.size W w':=fun W=>uF 2 3 W (by decide) (by decide)
 obtain⟨G,hG⟩:∃G,G=(cT m n).length:=⟨_,rfl⟩;have m3:=fun W=>uF G 15 W (by omega) (by decide)
 have i8:=fun W=>aJr (mkS a) W (by rw[cP];omega) (by rw[fW];exact HI.out.an)
 rw[fW] at i8;have r0:=CD a;have m4:=fun W=>wV (fZ a) W (by omega)
 have e1:fU.wrap (Z:Int)=(Z:Int):=by rw[gF];omega
 have e2:(Z:Int)%18446744073709551616=(Z:Int):=by omega
 have e3:fU.wrap (o:Int)=(o:Int):=by rw[gF];omega
 have e4:(o:Int)%18446744073709551616=(o:Int):=by omega
 have e5:fU.wrap (G:Int)=(G:Int):=by rw[gF];omega
 have e6:(G:Int)%18446744073709551616=(G:Int):=by omega
 clear i0 p9 q3 k6 i1 i3 a9 hA hb f4 U x0 x1 x2 f9;rw[<-hG] at i4 q8 q9 k9 ⊢;have g2:=fun W h=>aI3 (.slice (some ⟨b5,c9,none⟩) G cc) (cT m n) W h (by omega) i6.out
 unfold eL at g2;obtain⟨SL,d6⟩:∃SL,SL=dE (dO (cT m n)):=⟨_,rfl⟩;have r5:SL.length<=2*901:=by
  rw[d6];have:=wL (dO (cT m n)) 2 (yW i6.out);rw[uU] at this;omega
 have m5:0<SL.length:=by rw[d6];exact YQ (by rw[uU];omega)
 rw[<-d6] at g2;have r6:=hid d6;have m6:=fun W=>wV SL W (by omega)
 clear d6;have HG:=hid hG;have d7:=hid i4;clear hG i4;go_wp2_with fail;have a4:([]:List Bool).length<=0:=aA _;refine(l8 _).mono ?_;rintro e w6 ⟨u6,rfl,a2,H⟩;have F:=OwI.below F H (aA _);have A:=A.trans (H.mono d);have d:=aW d H.size;have L:=OwI.rd a2;clear a2 H;go_wp2_with (at_builtin;refine kG rfl _ _ rfl B _ _ (bI (aY 54156738319193 48)) rfl F _ rfl L (by rw[cN];rw[cY];decide) ?_ ?_ ?_;(rw[cN,cN];rw[cY];omega);(exact d);intro v12 w7 M I r3 r4;obtain⟨q0,q1,q2⟩:=HC.out _ (A.trans I))
 have F:OwI w7 B v12 (bI ([]++aY 54156738319193 48)):=by rw[gB];exact M
 have A:=A.trans I;have d:=aW d I.size;obtain⟨D1,J⟩:∃D,D=[]++aY 54156738319193 48:=⟨_,rfl⟩;have a4:D1.length<=48:=by rw[J,aL];rw[cY];(try simp only[cX]);omega
 rw[<-J] at F;have r7:=hid J;clear J M I r3 r4 L;refine(i7 _).mono ?_;rintro e w6 ⟨rfl,rfl⟩;go_wp2_with fail;refine(l9 _).mono ?_;rintro e w6 ⟨u6,rfl,a2,H⟩;have F:=OwI.below F H (aA _);have A:=A.trans (H.mono d);have d:=aW d H.size;have L:=OwI.rd a2;clear a2 H;go_wp2_with (at_builtin;refine kG rfl _ _ rfl B _ _ (bI (aY Z 32)) rfl F _ rfl L (by rw[cN];rw[cY];decide) ?_ ?_ ?_;(rw[cN,cN];rw[cY];omega);(exact d);intro v12 w7 M I r3 r4;obtain⟨q0,q1,q2⟩:=HC.out _ (A.trans I))
 have F:OwI w7 B v12 (bI (D1++aY Z 32)):=by rw[gB];exact M
 have A:=A.trans I;have d:=aW d I.size;obtain⟨D2,J⟩:∃D,D=D1++aY Z 32:=⟨_,rfl⟩;have a4:D2.length<=80:=by rw[J,aL];rw[cY];(try simp only[cX]);omega
 rw[<-J] at F;have r8:=hid J;clear J M I r3 r4 L;refine(m1 _).mono ?_;rintro e w6 ⟨u6,rfl,a2,H⟩;have F:=OwI.below F H (aA _);have A:=A.trans (H.mono d);have d:=aW d H.size;have L:=OwI.rd a2;clear a2 H;go_wp2_with (at_builtin;refine kG rfl _ _ rfl B _ _ (bI (aY o 16)) rfl F _ rfl L (by rw[cN];rw[cY];decide) ?_ ?_ ?_;(rw[cN,cN];rw[cY];omega);(exact d);intro v12 w7 M I r3 r4;obtain⟨q0,q1,q2⟩:=HC.out _ (A.trans I));have F:OwI w7 B v12 (bI (D2++aY o 16)):=by rw[gB];exact M
 have A:=A.trans I;have d:=aW d I.size;obtain⟨D3,J⟩:∃D,D=D2++aY o 16:=⟨_,rfl⟩;have a4:D3.length<=96:=by rw[J,aL];rw[cY];(try simp only[cX]);omega
 rw[<-J] at F;have r9:=hid J;clear J M I r3 r4 L;refine(i8 _).mono ?_;rintro e w6 ⟨rfl,H⟩;have F:=OwI.below F H (aA _);have A:=A.trans (H.mono d);have d:=aW d H.size;clear H;go_wp2_with fail;refine(m4 _).mono ?_;rintro e w6 ⟨u6,rfl,L,H⟩;have F:=OwI.below F H (aA _);have A:=A.trans (H.mono d);have d:=aW d H.size;clear H;go_wp2_with (at_builtin;refine kG rfl _ _ rfl B _ _ (bI (fZ a)) rfl F _ rfl L (by rw[cN];exact aOr a) ?_ ?_ ?_;(rw[cN,cN];skip;omega);(exact d);intro v12 w7 M I r3 r4;obtain⟨q0,q1,q2⟩:=HC.out _ (A.trans I))
 have F:OwI w7 B v12 (bI (D3++fZ a)):=by rw[gB];exact M
 have A:=A.trans I;have d:=aW d I.size;obtain⟨D4,J⟩:∃D,D=D3++fZ a:=⟨_,rfl⟩;have a4:D4.length<=400:=by rw[J,aL];skip;(try simp only[cX]);omega
 rw[<-J] at F;have s0:=hid J;clear J M I r3 r4 L;refine(m2 _).mono ?_;rintro e w6 ⟨u6,rfl,a2,H⟩;have F:=OwI.below F H (aA _);have A:=A.trans (H.mono d);have d:=aW d H.size;have L:=OwI.rd a2;clear a2 H;go_wp2_with (at_builtin;refine kG rfl _ _ rfl B _ _ (bI (aY 2 3)) rfl F _ rfl L (by rw[cN];rw[cY];decide) ?_ ?_ ?_;(rw[cN,cN];rw[cY];omega);(exact d);intro v12 w7 M I r3 r4;obtain⟨q0,q1,q2⟩:=HC.out _ (A.trans I));have F:OwI w7 B v12 (bI (D4++aY 2 3)):=by rw[gB];exact M
 have A:=A.trans I;have d:=aW d I.size;obtain⟨D5,J⟩:∃D,D=D4++aY 2 3:=⟨_,rfl⟩;have a4:D5.length<=403:=by rw[J,aL];rw[cY];(try simp only[cX]);omega
 rw[<-J] at F;have s1:=hid J;clear J M I r3 r4 L;refine(m3 _).mono ?_;rintro e w6 ⟨u6,rfl,a2,H⟩;have F:=OwI.below F H (aA _);have A:=A.trans (H.mono d);have d:=aW d H.size;have L:=OwI.rd a2;clear a2 H;go_wp2_with (at_builtin;refine kG rfl _ _ rfl B _ _ (bI (aY G 15)) rfl F _ rfl L (by rw[cN];rw[cY];decide) ?_ ?_ ?_;(rw[cN,cN];rw[cY];omega);(exact d);intro v12 w7 M I r3 r4;obtain⟨q0,q1,q2⟩:=HC.out _ (A.trans I));have F:OwI w7 B v12 (bI (D5++aY G 15)):=by rw[gB];exact M
 have A:=A.trans I;have d:=aW d I.size;obtain⟨D6,J⟩:∃D,D=D5++aY G 15:=⟨_,rfl⟩;have a4:D6.length<=418:=by rw[J,aL];rw[cY];(try simp only[cX]);omega
 rw[<-J] at F;have s2:=hid J;clear J M I r3 r4 L;refine(g2 _ (k9.out _ A)).mono ?_;rintro e w6 ⟨rfl,H⟩;have F:=OwI.below F H (aA _);have A:=A.trans (H.mono d);have d:=aW d H.size;clear H;have F:=OwI.alloc F (.cells #[.string (mkS (aD (SL))),.int .i64 ((SL).length:Int)] 29);have A:=A.alloc (o:=.cells #[.string (mkS (aD (SL))),.int .i64 ((SL).length:Int)] 29) d;have d:B<=(World.alloc w6 (.cells #[.string (mkS (aD (SL))),.int .i64 ((SL).length:Int)] 29)).heap.size:=aW d (by simp);go_wp2_with fail;refine(m6 _).mono ?_;rintro e w8 ⟨u6,rfl,L,H⟩
 have F:=OwI.below F H (aA _);have A:=A.trans (H.mono d);have d:=aW d H.size;clear H;go_wp2_with (at_builtin;refine kG rfl _ _ rfl B _ _ (bI (SL)) rfl F _ rfl L (by rw[cN];exact m5) ?_ ?_ ?_;(rw[cN,cN];skip;omega);(exact d);intro v12 w7 M I r3 r4;obtain⟨q0,q1,q2⟩:=HC.out _ (A.trans I));have F:OwI w7 B v12 (bI (D6++SL)):=by rw[gB];exact M
 have A:=A.trans I;have d:=aW d I.size;obtain⟨D7,J⟩:∃D,D=D6++SL:=⟨_,rfl⟩;have a4:D7.length<=2300:=by rw[J,aL];skip;(try simp only[cX]);omega
 rw[<-J] at F;have s3:=hid J;clear J M I r3 r4 L
 go_loopg [12,15,16,17] 2 (fun g i9 s4 _s16 _s17 wr=>∃(k:Nat) (v:Value) (D:List Bool),k<=2/\g=2-k/\v=i9/\s4=.int .i64 (k:Int)/\Hid (D=D7++(([V,Y].take k).map dW).flatten)/\D.length<=2300+k*10067/\OwI wr B v (bI D)/\Below B O wr/\B<=wr.heap.size)
 case atStart=>exact⟨0,_,D7,aU _,rfl,rfl,rfl,hid (by simp),by omega,F,A,d⟩
 case round=>
  clear F A d q0 q1 q2 a4;obtain⟨k,v12,D,hk,hg,rfl,rfl,HD,a4,F,A,d⟩:=hrel;have m7:=hid hg;clear hg
  by_cases s5:k=0
  ·subst s5;obtain⟨t0,t1,t2,t3⟩:=c7.out _ A;have T:=TR (.slice d2 V.length d3) V wr t2 (eH b0.out.1).1;unfold eL at T;have j0:=wW (eH b0.out.1).1;have d8:=YT V;obtain⟨X,U⟩:∃X,X=dW V:=⟨_,rfl⟩;rw[<-U] at T j0 d8;have HX:=hid U;have b6:=fun W=>wV X W (by omega)
   clear U t2 t3;go_wp2_with fail;refine T.mono ?_;rintro e w6 ⟨rfl,H⟩;have F:=OwI.below F H (aA _);have A:=A.trans (H.mono d);have d:=aW d H.size;clear T H t0 t1;have F:=OwI.alloc F (.cells #[.string (mkS (aD (X))),.int .i64 ((X).length:Int)] 29);have A:=A.alloc (o:=.cells #[.string (mkS (aD (X))),.int .i64 ((X).length:Int)] 29) d;have d:B<=(World.alloc w6 (.cells #[.string (mkS (aD (X))),.int .i64 ((X).length:Int)] 29)).heap.size:=aW d (by simp);go_wp2_with fail;refine(b6 _).mono ?_;rintro e w8 ⟨u6,rfl,L,H⟩;have F:=OwI.below F H (aA _)
   have A:=A.trans (H.mono d);have d:=aW d H.size;clear H;go_wp2_with (at_builtin;refine kG rfl _ _ rfl B _ _ (bI X) rfl F _ rfl L (by rw[cN];exact d8) ?_ ?_ ?_;(rw[cN,cN];omega);(exact d);intro v13 w9 M I r3 r4);have hg:=m7.out
   go_roundg (2-(0+1))
   case measure=>omega
   case rel=>exact⟨0+1,_,D++X,by omega,rfl,rfl,by first|rfl|go_num,hid (by rw[HD.out,HX.out];simp),by rw[aL];omega,by rw[gB];exact M,A.trans I,aW d I.size⟩
  by_cases s6:k=1
  ·subst s6;obtain⟨t0,t1,t2,t3⟩:=c7.out _ A;have T:=TR (.slice d4 Y.length d5) Y wr t3 (eH b1.out.1).1;unfold eL at T;have j0:=wW (eH b1.out.1).1;have d8:=YT Y;obtain⟨X,U⟩:∃X,X=dW Y:=⟨_,rfl⟩;rw[<-U] at T j0 d8;have HX:=hid U;have b6:=fun W=>wV X W (by omega)
   clear U t2 t3;go_wp2_with fail;refine T.mono ?_;rintro e w6 ⟨rfl,H⟩;have F:=OwI.below F H (aA _);have A:=A.trans (H.mono d);have d:=aW d H.size;clear T H t0 t1;have F:=OwI.alloc F (.cells #[.string (mkS (aD (X))),.int .i64 ((X).length:Int)] 29);have A:=A.alloc (o:=.cells #[.string (mkS (aD (X))),.int .i64 ((X).length:Int)] 29) d;have d:B<=(World.alloc w6 (.cells #[.string (mkS (aD (X))),.int .i64 ((X).length:Int)] 29)).heap.size:=aW d (by simp);go_wp2_with fail;refine(b6 _).mono ?_;rintro e w8 ⟨u6,rfl,L,H⟩;have F:=OwI.below F H (aA _)
   have A:=A.trans (H.mono d);have d:=aW d H.size;clear H;go_wp2_with (at_builtin;refine kG rfl _ _ rfl B _ _ (bI X) rfl F _ rfl L (by rw[cN];exact d8) ?_ ?_ ?_;(rw[cN,cN];omega);(exact d);intro v13 w9 M I r3 r4);have hg:=m7.out
   go_roundg (2-(1+1))
   case measure=>omega
   case rel=>exact⟨1+1,_,D++X,by omega,rfl,rfl,by first|rfl|go_num,hid (by rw[HD.out,HX.out];simp),by rw[aL];omega,by rw[gB];exact M,A.trans I,aW d I.size⟩
  obtain rfl:k=2:=by omega
  have m8:=TB (.slice a5 m.length c5) m wr O (k8.out _ A) (k8.out _ (aB _ _)) (by omega);obtain⟨q0,q1,q2⟩:=HC.out _ A;go_wp2_with fail;refine m8.mono ?_;rintro e y6 ⟨v18,xs,rfl,a0,j1,g3⟩;have a0:=Ow.base a0 d;have F:=OwI.below F g3 (aA _);have A:=A.trans (g3.mono d);have d:=aW d g3.size;clear m8 q0 q1 q2 g3 i7 l8 l9 m1 m2 m3 i8 r0 m4 e1 e2 e3 e4 e5 e6 g2 m6 hZ r5 m5 v1 v2 u1 u2 u3 u4 p3 p5 g8 k3 p6 k4 g9 q5 p8 p0 a1 o7 o8 g6 hs;have g4:xs.length=G:=by rw[j1.1,iD];exact d7.out.symm
  have s7:=hid j1;clear j1;obtain⟨d9,j2,s8,rfl⟩:=Ow.openN a0 (by omega);rw[g4] at a0;rw[g4];have s9:=hid g4;have m9:D=D7++(dW V++dW Y):=by rw[HD.out];simp
  have t4:=hid m9;clear m9 g4;go_wp2_with fail
  go_loopg [12,19,20,21] G (fun g i9 t5 _s20 _s21 wr=>∃(i:Nat) (v:Value) (E:List Bool),i<=G/\g=G-i/\v=i9/\t5=.int .i64 (i:Int)/\Hid (E=D++gP V Y ((cT m n).take i) ((cK m).take i))/\E.length<=22500+i*200/\OwI wr B v (bI E)/\Ow wr B 27 (.slice (some ⟨d9,j2,none⟩) G s8) xs/\Below B O wr/\B<=wr.heap.size)
  case atStart=>exact⟨0,_,D,aU _,rfl,rfl,rfl,hid (by simp[gP]),by omega,F,a0,A,d⟩
  case round=>
   clear F a0 A d a4;obtain⟨i,v12,E,hi,hg,rfl,rfl,HE,y7,F,a0,A,d⟩:=hrel;have o0:=hid hg;clear hg
   by_cases j3:i<G
   ·have t6:decide ((i:Int)<(G:Int))=true:=decide_eq_true (by omega);obtain⟨g,hg⟩:∃g,(cK m)[i]? =some g:=⟨_,aN (by rw[iD,<-d7.out];exact j3)⟩;obtain⟨x,hx⟩:∃x,xs[i]? =some x:=⟨_,aN (by rw[s9.out];exact j3)⟩;have b7:=s7.out.2 i x g hx hg;have b2:=a0.cellAt hx;obtain⟨b3,o1⟩:=DK hg;have g5:0<g.length:=by
     rw[wH m i (by rw[<-d7.out];exact j3)] at hg;rw[<-bW hg,aX,List.length_drop];have:=d7.out;omega
    obtain⟨ax,cx,rfl,_,_,_⟩:=b7.open;have b8:=aOs (n:=n) hg;rw[<-l6.out,<-l7.out] at b8;have b4:=q7.out _ A i _ b8;have t7:=i6.out _ (cH b8);clear hx;rcases t7 with c2|c2
    ·skip
     rw[c2] at b4;have T:=TO (.slice d2 V.length d3) (.slice ax g.length cx) V g;have T:=fun W a b=>T W a b b0.out.1 (by rw[b0.out.2];exact fun x hx=>HI.out.rng x (b3 x hx)) (by omega)
     unfold eL at T;have e0:=rR (eH b0.out.1).1 g (by rw[b0.out.2];exact fun x hx=>HI.out.rng x (b3 x hx));have c3:=YS (eH b0.out.1).1 (by rw[b0.out.2];exact fun x hx=>HI.out.rng x (b3 x hx)) g5;obtain⟨X,U⟩:∃X,X=eR V g:=⟨_,rfl⟩;have e7:gP V Y ((cT m n).take (i+1)) ((cK m).take (i+1))=gP V Y ((cT m n).take i) ((cK m).take i)++X:=by
      rw[MH b8 hg,c2,U];rfl
     rw[<-U] at T e0 c3;have HX:=hid e7;have b6:=fun W=>wV X W (by omega)
     have j4:=hid T;have t8:=hid (fun W (h:Below B O W)=>(c7.out W h));clear U e7 T c2 b8 hg b3;go_upto_region 26 with fail
     go_cut [20] (fun j5 wx=>∃z,j5=.pointer (some ⟨z,0,none⟩)/\Arr wx z 29 [.string (mkS (aD X)),.int .i64 (X.length:Int)]/\Below wr.heap.size wr wx)
     case first=>
      obtain⟨t0,t1,t2,t3⟩:=c7.out _ A;have i0:=kZ (B:=wr.heap.size) (w0:=wr) ⟨b4,t0,b2,aB _ _,aA _⟩ (aB wr.heap.size wr).drew;have a6:d9<wr.heap.size:=iO wr _ b2;have a7:b5<wr.heap.size:=by omega
      have a8:b9<wr.heap.size:=by omega
      have j6:=fun W (h:Below wr.heap.size wr W)=>j4.out W (t2.below h) ((b7.below (hB▸A)).below h)
      clear t2 t3 t1;clear b7 A g5 o1 e0 c3 b4 t0 b2
      set_option maxHeartbeats 800000 in
      go_region_held3 (fun w'=>w'.cell? ⟨b5,c9+i,none⟩=some (.int .i64 0)/\w'.cell? ⟨b9,o9,none⟩=some (.slice d2 V.length d3)/\w'.cell? ⟨d9,j2+i,none⟩=some (.slice ax g.length cx)/\Below wr.heap.size wr w'/\wr.heap.size<=w'.heap.size)
       (first
        |with_reducible assumption
        |with_reducible exact kZ (by assumption) (by assumption)
        |with_reducible exact kZ (by assumption) (bD (aB _ _) _)
        |with_reducible exact CX (by assumption) (EJ (by assumption)) a7 a8 a6
        |with_reducible exact wX (by assumption) a7 a8 a6 _ _
        |with_reducible exact wX (wX (by assumption) a7 a8 a6 _ _) a7 a8 a6 _ _)
       (first
        |(go_at_call 48;(refine(j6 _ (s3B (by assumption))).mono ?_;rintro e c4 ⟨rfl,e8⟩;first|(have t9:wr.heap.size<=c4.heap.size:=e8.size)|(have hN:Arr c4 wr.heap.size 29 [.string ⟨#[]⟩,.int .i64 0]:=Arr.below (w:=(wr.alloc (.cells #[.string ⟨#[]⟩,.int .i64 0] 29)).drew) (Arr.new wr 29 [.string ⟨#[]⟩,.int .i64 0]) e8 (by show wr.heap.size<(wr.alloc _).heap.size;simp);have n0:=hN.cell (i:=0) rfl;have n1:=hN.cell (i:=1) rfl;have g0:=hN.free 0;have g1:=hN.free 1))))
      all_goals
       go_wp2_with fail;go_meet
       first
        |exact⟨_,rfl,(hN.set 0 _).set 1 _,s3B (by assumption)⟩
        |exact⟨_,rfl,Arr.new c4 29 [.string (mkS (aD X)),.int .i64 (X.length:Int)],s3B (by assumption)⟩
     case rest=>
      obtain⟨z,rfl,hZ,a1⟩:=hcut;have F:=OwI.below F a1 (aA _);have a0:=a0.below a1 (aA _);have A:=A.trans (a1.mono d);have d:=aW d a1.size;have z0:=hZ.cell (i:=0) rfl;have z1:=hZ.cell (i:=1) rfl;clear a1 b4 b2 b7;go_wp2_with fail;refine(b6 _).mono ?_;rintro e j7 ⟨u6,rfl,L,H⟩;have F:=OwI.below F H (aA _);have a0:=a0.below H (aA _);have A:=A.trans (H.mono d);have d:=aW d H.size;clear H z0 z1 hZ
      go_wp2_with (at_builtin;refine kG rfl _ _ rfl B _ _ (bI X) rfl F _ rfl L (by rw[cN];exact c3) ?_ ?_ ?_;(rw[cN,cN];omega);(exact d);intro v13 j8 M I r3 r4);have j9:j7.grownBy j8 v12.ownBlock:=r3;have hg:=o0.out
      go_roundg (G-(i+1))
      case measure=>omega
      case rel=>exact⟨i+1,_,E++X,by omega,rfl,rfl,by go_num,hid (by rw[HX.out,HE.out,cF]),by rw[aL];omega,by rw[gB];exact M,a0.kept j9 (qO a0 F (by decide)),A.trans I,aW d I.size⟩
    ·skip
     rw[c2] at b4;have T:=TO (.slice d4 Y.length d5) (.slice ax g.length cx) Y g;have T:=fun W a b=>T W a b b1.out.1 (by rw[b1.out.2];exact fun x hx=>HI.out.rng x (b3 x hx)) (by omega)
     unfold eL at T;have e0:=rR (eH b1.out.1).1 g (by rw[b1.out.2];exact fun x hx=>HI.out.rng x (b3 x hx));have c3:=YS (eH b1.out.1).1 (by rw[b1.out.2];exact fun x hx=>HI.out.rng x (b3 x hx)) g5;obtain⟨X,U⟩:∃X,X=eR Y g:=⟨_,rfl⟩;have e7:gP V Y ((cT m n).take (i+1)) ((cK m).take (i+1))=gP V Y ((cT m n).take i) ((cK m).take i)++X:=by
      rw[MH b8 hg,c2,U];rfl
     rw[<-U] at T e0 c3;have HX:=hid e7;have b6:=fun W=>wV X W (by omega)
     have j4:=hid T;have t8:=hid (fun W (h:Below B O W)=>(c7.out W h));clear U e7 T c2 b8 hg b3;go_upto_region 26 with fail
     go_cut [20] (fun j5 wx=>∃z,j5=.pointer (some ⟨z,0,none⟩)/\Arr wx z 29 [.string (mkS (aD X)),.int .i64 (X.length:Int)]/\Below wr.heap.size wr wx)
     case first=>
      obtain⟨t0,t1,t2,t3⟩:=c7.out _ A;have i0:=kZ (B:=wr.heap.size) (w0:=wr) ⟨b4,t1,b2,aB _ _,aA _⟩ (aB wr.heap.size wr).drew;have a6:d9<wr.heap.size:=iO wr _ b2;have a7:b5<wr.heap.size:=by omega
      have a8:b9<wr.heap.size:=by omega
      have j6:=fun W (h:Below wr.heap.size wr W)=>j4.out W (t3.below h) ((b7.below (hB▸A)).below h)
      clear t2 t3 t0;clear b7 A g5 o1 e0 c3 b4 t1 b2
      set_option maxHeartbeats 800000 in
      go_region_held3 (fun w'=>w'.cell? ⟨b5,c9+i,none⟩=some (.int .i64 1)/\w'.cell? ⟨b9,o9+1,none⟩=some (.slice d4 Y.length d5)/\w'.cell? ⟨d9,j2+i,none⟩=some (.slice ax g.length cx)/\Below wr.heap.size wr w'/\wr.heap.size<=w'.heap.size)
       (first
        |with_reducible assumption
        |with_reducible exact kZ (by assumption) (by assumption)
        |with_reducible exact kZ (by assumption) (bD (aB _ _) _)
        |with_reducible exact CX (by assumption) (EJ (by assumption)) a7 a8 a6
        |with_reducible exact wX (by assumption) a7 a8 a6 _ _
        |with_reducible exact wX (wX (by assumption) a7 a8 a6 _ _) a7 a8 a6 _ _)
       (first
        |(go_at_call 48;(refine(j6 _ (s3B (by assumption))).mono ?_;rintro e c4 ⟨rfl,e8⟩;first|(have t9:wr.heap.size<=c4.heap.size:=e8.size)|(have hN:Arr c4 wr.heap.size 29 [.string ⟨#[]⟩,.int .i64 0]:=Arr.below (w:=(wr.alloc (.cells #[.string ⟨#[]⟩,.int .i64 0] 29)).drew) (Arr.new wr 29 [.string ⟨#[]⟩,.int .i64 0]) e8 (by show wr.heap.size<(wr.alloc _).heap.size;simp);have n0:=hN.cell (i:=0) rfl;have n1:=hN.cell (i:=1) rfl;have g0:=hN.free 0;have g1:=hN.free 1))))
      all_goals
       go_wp2_with fail;go_meet
       first
        |exact⟨_,rfl,(hN.set 0 _).set 1 _,s3B (by assumption)⟩
        |exact⟨_,rfl,Arr.new c4 29 [.string (mkS (aD X)),.int .i64 (X.length:Int)],s3B (by assumption)⟩
     case rest=>
      obtain⟨z,rfl,hZ,a1⟩:=hcut;have F:=OwI.below F a1 (aA _);have a0:=a0.below a1 (aA _);have A:=A.trans (a1.mono d);have d:=aW d a1.size;have z0:=hZ.cell (i:=0) rfl;have z1:=hZ.cell (i:=1) rfl;clear a1 b4 b2 b7;go_wp2_with fail;refine(b6 _).mono ?_;rintro e j7 ⟨u6,rfl,L,H⟩;have F:=OwI.below F H (aA _);have a0:=a0.below H (aA _);have A:=A.trans (H.mono d);have d:=aW d H.size;clear H z0 z1 hZ
      go_wp2_with (at_builtin;refine kG rfl _ _ rfl B _ _ (bI X) rfl F _ rfl L (by rw[cN];exact c3) ?_ ?_ ?_;(rw[cN,cN];omega);(exact d);intro v13 j8 M I r3 r4);have j9:j7.grownBy j8 v12.ownBlock:=r3;have hg:=o0.out
      go_roundg (G-(i+1))
      case measure=>omega
      case rel=>exact⟨i+1,_,E++X,by omega,rfl,rfl,by go_num,hid (by rw[HX.out,HE.out,cF]),by rw[aL];omega,by rw[gB];exact M,a0.kept j9 (qO a0 F (by decide)),A.trans I,aW d I.size⟩
   ·have t6:decide ((i:Int)<(G:Int))=false:=decide_eq_false (by omega);have o2:i=G:=by omega
    have o3:=HA.out _ A;have o4:=HB.out _ A;have o5:=HI.out.blk;have o6:E=cB s:=by
     rw[o5,HE.out,o2,cS (by rw[<-HG.out];exact aA _),cS (by rw[iD,<-d7.out];exact aA _),t4.out,s3.out,s2.out,s1.out,s0.out,r9.out,r8.out,r7.out,r6.out,HZ.out,<-HG.out,<-l6.out,<-l7.out];simp only[List.nil_append,cF]
    have x3:=hid o6;clear o6 o5 o2;go_wp2_with fail;refine(uG _ E _ (OwI.rd F) (by omega)).mono ?_;rintro e y8 ⟨rfl,k0⟩;have e9:=o3.below k0 (by omega);have x4:=o4.trans (k0.mono (by omega));have d0:=e9.cell (i:=0) rfl;have d1:=e9.cell (i:=1) rfl;have f0:=e9.free 0;have f1:=e9.free 1;clear k0 F a0 o3 o4;go_wp2_with fail;obtain⟨z0,z1⟩:=EL e9 x4 (.string (mkS (aD E))) (.int .i64 (E.length:Int));refine bpE rfl z0 rfl rfl rfl ⟨?_,z1,fun _=>HO.out⟩;have x5:mP s room=E:=by unfold mP;rw[if_pos HF.out,x3.out]
    rw[x5,HF.out];rfl
def EV (w w':World) (s:List UInt8) (a room:Int) (e:Ending):Prop:=
 e=.returned (.tuple #[wT a (cL s a room),.int .i64 (cL s a room).2.2.2])/\Below w.heap.size w w'
theorem mQ {w w':World} {s:List UInt8} {a room E:Int} (h:cL s a room=(cW,0,0,E)) (d:E≠0) (z:Below w.heap.size w w'):EV w w' s a room (.returned (.tuple #[.agg #[.string cW,.int .u32 0,.int .i64 0,.int .i64 0],.int .i64 E])):=
 ⟨by rw[h,YM a _ _ _ _ d],z⟩
theorem aAl {p:List UInt8} {most:Int} (h:(fR p most).2=0):((fR p most).1.length:Int)<=most:=by
 unfold fR at h ⊢
 cases d:dT p with
 |none=>rw[d] at h;simp at h
 |some o=>
  rw[d] at h;simp only at h ⊢;split at h
  ·simp at h
  ·next q=>rw[if_neg q];show(o.length:Int)<=most;omega
theorem bpD {d:Func} {Q:Ending->World->Prop} {W:World} {a:Act} {z:Nat} {A E F G u:Value} (H:d.results=#[.cell 6 36,.tmp 7]) (I:Arr W z 36 [A,E,F,G]) (J:a.tmps.getD 6 undef=.pointer (some ⟨z,0,none⟩)) (L:a.tmps.getD 7 undef=u) (M:a.defers=[])
  (h:Q (.returned (.tuple #[.agg #[A,E,F,G],u])) W):bodyPost Tryz.prog d Q .ret a W:=by
 refine gJ (qH H _ _ z _ _ (0,0) _ J I Tryz.underlying36 rfl YN) M ?_;rw[L];exact h
theorem aTt (s:ByteArray) (a room:Int) (w:World) (hs:s.size<=12000) (e0: -9223372036854775808<=a) (e1:a<=9223372036854775807) (e2: -9223372036854775808<=room) (e3:room<=9223372036854775807):
  Calls Tryz.prog 16 #[.string s,.int .i64 a,.int .i64 room] w fun e w'=>EV w w' s.data.toList a room e:=by
 have HL:=hid (show s.data.toList.length=s.size by simp);have z:=wU s.data.toList a room;rw[HL.out] at z;have E:=Arr.new w 36 [.string ⟨#[]⟩,.int .u32 0,.int .i64 0,.int .i64 0];have e4:(w.alloc (.cells #[.string ⟨#[]⟩,.int .u32 0,.int .i64 0,.int .i64 0] 36)).heap.size=w.heap.size+1:=by simp
 have a2:Below w.heap.size w (w.alloc (.cells #[.string ⟨#[]⟩,.int .u32 0,.int .i64 0,.int .i64 0] 36)):=bD (aB _ _) _;change Arr (w.alloc (.cells #[.string ⟨#[]⟩,.int .u32 0,.int .i64 0,.int .i64 0] 36)) _ _ _ at E
 by_cases c6:a<0\/room<1\/360<room
 ·rw[if_pos c6] at z;have F:=hid z;clear z
  by_cases h1:a<0
  ·have u1:decide (a<0)=true:=decide_eq_true h1;have J:=E.cell (i:=0) rfl;have M:=E.cell (i:=1) rfl;have T:=E.cell (i:=2) rfl;have U:=E.cell (i:=3) rfl;have V:=E.free 0;have Y:=E.free 1;have f2:=E.free 2;have f3:=E.free 3;go_enter Tryz.func16,Tryz.ntmps16;go_wp2_with fail;exact bpD rfl E rfl rfl rfl (mQ F.out (by decide) a2)
  have u1:decide (a<0)=false:=decide_eq_false h1
  by_cases h2:room<1
  ·have u2:decide (room<1)=true:=decide_eq_true h2;have J:=E.cell (i:=0) rfl;have M:=E.cell (i:=1) rfl;have T:=E.cell (i:=2) rfl;have U:=E.cell (i:=3) rfl;have V:=E.free 0;have Y:=E.free 1;have f2:=E.free 2;have f3:=E.free 3;go_enter Tryz.func16,Tryz.ntmps16;go_wp2_with fail;exact bpD rfl E rfl rfl rfl (mQ F.out (by decide) a2)
  have u2:decide (room<1)=false:=decide_eq_false h2;have u3:decide (room>360)=true:=decide_eq_true (by omega);have u4:decide (360<room)=true:=decide_eq_true (by omega);have J:=E.cell (i:=0) rfl;have M:=E.cell (i:=1) rfl;have T:=E.cell (i:=2) rfl;have U:=E.cell (i:=3) rfl;have V:=E.free 0;have Y:=E.free 1;have f2:=E.free 2;have f3:=E.free 3;go_enter Tryz.func16,Tryz.ntmps16;go_wp2_with fail;exact bpD rfl E rfl rfl rfl (mQ F.out (by decide) a2)
 rw[if_neg c6] at z;have b7:=fun W=>oP s a 48 W (by omega) (by decide) (by omega) (by omega)
 have b8:=iA s.data.toList a 48;have b9:=fQ (n:=s.size) (at':=a) (k:=48);have u1:decide (a<0)=false:=decide_eq_false (by omega);have u2:decide (room<1)=false:=decide_eq_false (by omega);have u3:decide (room>360)=false:=decide_eq_false (by omega);have u4:decide (360<room)=false:=decide_eq_false (by omega);obtain⟨E1,c0⟩:∃E1,E1=aO s.size a 48:=⟨_,rfl⟩;obtain⟨V1,c1⟩:∃V1,V1=aE s.data.toList a 48:=⟨_,rfl⟩;rw[<-c0,<-c1] at b7 z;rw[<-c0] at b9;rw[<-c1] at b8;have b8:V1<281474976710656:=b8;clear c0 c1;go_enter Tryz.func16,Tryz.ntmps16;go_wp2_with fail
 generalize w.alloc (.cells #[.string ⟨#[]⟩,.int .u32 0,.int .i64 0,.int .i64 0] 36)=w0 at*
 have d:=E;have I:=a2;have d5:w.heap.size<w0.heap.size:=by omega
 refine(b7 _).mono ?_;rintro e w1 ⟨rfl,rfl⟩
 by_cases h1:E1=0
 rotate_left
 ·have v1:(E1 != 0)=true:=by simpa using h1
  rw[if_pos h1] at z;have F:=hid z;clear z;have J:=d.cell (i:=0) rfl;have M:=d.cell (i:=1) rfl;have T:=d.cell (i:=2) rfl;have U:=d.cell (i:=3) rfl;have V:=d.free 0;have Y:=d.free 1;have f2:=d.free 2;have f3:=d.free 3;go_wp2_with fail;obtain⟨G,H⟩:=oZ d I (.string ⟨#[]⟩) (.int .u32 0) (.int .i64 0) (.int .i64 0);exact bpD rfl G rfl rfl rfl (mQ F.out h1 H)
 subst h1;rw[if_neg (fun k=>k rfl)] at z;have b9:=b9 rfl;obtain⟨A,rfl⟩:∃A:Nat,a=(A:Int):=⟨a.toNat,by omega⟩;have e5:A<=96000:=by omega
 by_cases h2:V1=54156738319193
 rotate_left
 ·have v1:((V1:Int) != 54156738319193)=true:=by rw[bne_iff_ne];omega
  rw[if_pos h2] at z;have F:=hid z;clear z;have J:=d.cell (i:=0) rfl;have M:=d.cell (i:=1) rfl;have T:=d.cell (i:=2) rfl;have U:=d.cell (i:=3) rfl;have V:=d.free 0;have Y:=d.free 1;have f2:=d.free 2;have f3:=d.free 3;go_wp2_with fail;obtain⟨G,H⟩:=oZ d I (.string ⟨#[]⟩) (.int .u32 0) (.int .i64 0) (.int .i64 0);exact bpD rfl G rfl rfl rfl (mQ F.out (by decide) H)
 rw[if_neg (fun k=>k h2)] at z;have v1:((V1:Int) != 54156738319193)=false:=by rw[bne_eq_false_iff_eq];omega
 have a3:=fun W=>oP s ((A:Int)+48) 32 W (by omega) (by decide) (by omega) (by omega)
 have c2:=iA s.data.toList ((A:Int)+48) 32;obtain⟨E2,c7⟩:∃E2,E2=aO s.size ((A:Int)+48) 32:=⟨_,rfl⟩;obtain⟨V2,c8⟩:∃V2,V2=aE s.data.toList ((A:Int)+48) 32:=⟨_,rfl⟩;rw[<-c7] at a3 z;rw[<-c8] at a3 z c2;have c2:V2<4294967296:=c2;have m1:aI.wrap ((A:Int)+48)=(A:Int)+48:=by rw[aM];omega
 clear c7 c8 b7;go_wp2_with fail;refine(a3 _).mono ?_;rintro e w2 ⟨rfl,rfl⟩
 by_cases h3:E2=0
 rotate_left
 ·have v2:(E2 != 0)=true:=by simpa using h3
  rw[if_pos h3] at z;have F:=hid z;clear z;have J:=d.cell (i:=0) rfl;have M:=d.cell (i:=1) rfl;have T:=d.cell (i:=2) rfl;have U:=d.cell (i:=3) rfl;have V:=d.free 0;have Y:=d.free 1;have f2:=d.free 2;have f3:=d.free 3;go_wp2_with fail;obtain⟨G,H⟩:=oZ d I (.string ⟨#[]⟩) (.int .u32 0) (.int .i64 0) (.int .i64 0);exact bpD rfl G rfl rfl rfl (mQ F.out h3 H)
 subst h3;rw[if_neg (fun k=>k rfl)] at z;have a4:=fun W=>oP s ((A:Int)+80) 16 W (by omega) (by decide) (by omega) (by omega)
 have c3:=iA s.data.toList ((A:Int)+80) 16;obtain⟨E3,c9⟩:∃E3,E3=aO s.size ((A:Int)+80) 16:=⟨_,rfl⟩;obtain⟨V3,d4⟩:∃V3,V3=aE s.data.toList ((A:Int)+80) 16:=⟨_,rfl⟩;rw[<-c9] at a4 z;rw[<-d4] at a4 z c3;have c3:V3<65536:=c3;have m2:aI.wrap ((A:Int)+80)=(A:Int)+80:=by rw[aM];omega
 clear c9 d4 a3;go_wp2_with fail;refine(a4 _).mono ?_;rintro e w3 ⟨rfl,rfl⟩
 by_cases h4:E3=0
 rotate_left
 ·have v2:(E3 != 0)=true:=by simpa using h4
  rw[if_pos h4] at z;have F:=hid z;clear z;have J:=d.cell (i:=0) rfl;have M:=d.cell (i:=1) rfl;have T:=d.cell (i:=2) rfl;have U:=d.cell (i:=3) rfl;have V:=d.free 0;have Y:=d.free 1;have f2:=d.free 2;have f3:=d.free 3;go_wp2_with fail;obtain⟨G,H⟩:=oZ d I (.string ⟨#[]⟩) (.int .u32 0) (.int .i64 0) (.int .i64 0);exact bpD rfl G rfl rfl rfl (mQ F.out h4 H)
 subst h4;rw[if_neg (fun k=>k rfl)] at z;have a6:=aJ5 s ((A:Int)+96) w3 (by omega) (by omega) (by omega);have a7:=YP (s:=s.data.toList) (a:=(A:Int)+96);obtain⟨U1,U2,U3,hU⟩:∃U1 U2 U3,cG s.data.toList ((A:Int)+96)=(U1,U2,U3):=⟨_,_,_,rfl⟩;rw[hU] at a6 a7 z;simp only at a6 a7 z;have m3:aI.wrap ((A:Int)+96)=(A:Int)+96:=by rw[aM];omega
 clear hU a4;go_wp2_with fail;refine a6.mono ?_;rintro e w4 ⟨rfl,a8⟩;have d:=d.below a8 d5;have I:=I.trans (a8.mono (by omega));have e6:=a8.size
 by_cases h5:U3=0
 rotate_left
 ·have v2:(U3 != 0)=true:=by simpa using h5
  rw[if_pos h5] at z;have F:=hid z;clear z;have J:=d.cell (i:=0) rfl;have M:=d.cell (i:=1) rfl;have T:=d.cell (i:=2) rfl;have U:=d.cell (i:=3) rfl;have V:=d.free 0;have Y:=d.free 1;have f2:=d.free 2;have f3:=d.free 3;go_wp2_with fail;obtain⟨G,H⟩:=oZ d I (.string ⟨#[]⟩) (.int .u32 0) (.int .i64 0) (.int .i64 0);exact bpD rfl G rfl rfl rfl (mQ F.out h5 H)
 subst h5;rw[if_neg (fun k=>k rfl)] at z;obtain⟨k1,k2,k3⟩:=a7 rfl;obtain⟨p,rfl⟩:∃p:Nat,U2=(p:Int):=⟨U2.toNat,by omega⟩;obtain⟨C,hC⟩:∃C,C=U1.length+2:=⟨_,rfl⟩;have m4:aI.wrap ((U1.length:Int)+2)=(C:Int):=by rw[aM];omega
 have m5:(U1.length:Int)+2=(C:Int):=by omega
 have m6:aI.wrap (C:Int)=(C:Int):=by rw[aM];omega
 rw[m5] at z;have a0:=aJd s p C w4 (by omega) (by omega) (by omega) (by omega);have a1:=LG (s:=s.data.toList) (at':=(p:Int)) (codes:=(C:Int));unfold KW at a0;obtain⟨L,P,K,hL⟩:∃L P K,cV s.data.toList (p:Int) (C:Int)=(L,P,K):=⟨_,_,_,rfl⟩;rw[hL] at a0 a1 z;simp only at a0 a1 z;rw[HL.out] at a1;have d6:w.heap.size<w4.heap.size:=by omega
 have e7:(mkS U1).size<=256:=by rw[cP];exact k1
 clear hL a7 a6 hC a8;go_wp2_with fail;refine a0.mono ?_;rintro e w5 ⟨v5,rfl,c4,a9⟩;have d:=d.below a9 d6;have I:=I.trans (a9.mono (by omega));have e8:=a9.size
 by_cases h6:K=0
 rotate_left
 ·have v2:(K != 0)=true:=by simpa using h6
  rw[if_pos h6] at z;have F:=hid z;clear z;have J:=d.cell (i:=0) rfl;have M:=d.cell (i:=1) rfl;have T:=d.cell (i:=2) rfl;have U:=d.cell (i:=3) rfl;have V:=d.free 0;have Y:=d.free 1;have f2:=d.free 2;have f3:=d.free 3;go_wp2_with fail;obtain⟨G,H⟩:=oZ d I (.string ⟨#[]⟩) (.int .u32 0) (.int .i64 0) (.int .i64 0);exact bpD rfl G rfl rfl rfl (mQ F.out h6 H)
 subst h6;rw[if_neg (fun k=>k rfl)] at z;obtain⟨_,_,_,_,k4,_,_⟩:=a1 rfl;have b0:=aMe (mkS U1) (V3:Int) v5 L room w5 (by omega) (OwI.rd c4) (by omega) (by omega) (by omega) (by omega) (by omega);have b1:=YO (mkS U1) (V3:Int) L room;obtain⟨R,RE,hR⟩:∃R RE,rest (mkS U1) (V3:Int) L room=(R,RE):=⟨_,_,rfl⟩;rw[hR] at b0 b1 z;simp only at b0 b1 z;have m7:aI.wrap (V3:Int)=(V3:Int):=by rw[aM];omega
 have d7:w.heap.size<w5.heap.size:=by omega
 obtain⟨a5,c5,rfl,_,_,_⟩:=(OwI.rd c4).open;clear hR a1 a0 a9 c4;go_wp2_with fail;refine b0.mono ?_;rintro e w6 ⟨rfl,b2⟩;have d:=d.below b2 d7;have I:=I.trans (b2.mono (by omega));have e9:=b2.size
 by_cases h7:RE=0
 rotate_left
 ·have v2:(RE != 0)=true:=by simpa using h7
  rw[if_pos h7] at z;have F:=hid z;clear z;have J:=d.cell (i:=0) rfl;have M:=d.cell (i:=1) rfl;have T:=d.cell (i:=2) rfl;have U:=d.cell (i:=3) rfl;have V:=d.free 0;have Y:=d.free 1;have f2:=d.free 2;have f3:=d.free 3;go_wp2_with fail;obtain⟨G,H⟩:=oZ d I (.string ⟨#[]⟩) (.int .u32 0) (.int .i64 0) (.int .i64 0);exact bpD rfl G rfl rfl rfl (mQ F.out h7 H)
 subst h7;rw[if_neg (fun k=>k rfl)] at z;have b1:=b1 rfl;have b3:=aKm R (52*room) w6 (by omega) (by omega) (by omega);have b4:=aAl (p:=R.data.toList) (most:=52*room);obtain⟨O,OE,hO⟩:∃O OE,fR R.data.toList (52*room)=(O,OE):=⟨_,_,rfl⟩;rw[hO] at b3 b4 z;simp only at b3 b4 z;have m8:aI.wrap (52*room)=52*room:=by rw[aM];omega
 have d8:w.heap.size<w6.heap.size:=by omega
 clear hO b0 b2;go_wp2_with fail;refine b3.mono ?_;rintro e w7 ⟨rfl,b5⟩;have d:=d.below b5 d8;have I:=I.trans (b5.mono (by omega));have f4:=b5.size
 by_cases h8:OE=0
 rotate_left
 ·have v2:(OE != 0)=true:=by simpa using h8
  rw[if_pos h8] at z;have F:=hid z;clear z;have J:=d.cell (i:=0) rfl;have M:=d.cell (i:=1) rfl;have T:=d.cell (i:=2) rfl;have U:=d.cell (i:=3) rfl;have V:=d.free 0;have Y:=d.free 1;have f2:=d.free 2;have f3:=d.free 3;go_wp2_with fail;obtain⟨G,H⟩:=oZ d I (.string ⟨#[]⟩) (.int .u32 0) (.int .i64 0) (.int .i64 0);exact bpD rfl G rfl rfl rfl (mQ F.out h8 H)
 subst h8;rw[if_neg (fun k=>k rfl)] at z;have b4:=b4 rfl;have b6:=WH (mkS O) w7 (by rw[cP];omega);rw[fW] at b6;have d9:=(fG O).isLt;obtain⟨Z,hZ⟩:∃Z,Z=(fG O).toNat:=⟨_,rfl⟩;rw[<-hZ] at b6 z d9;have m9:rA.wrap (V2:Int)=(V2:Int):=by rw[vP];omega
 have f5:(V2:Int)%4294967296=(V2:Int):=by omega
 clear hZ b3 b5;go_wp2_with fail;refine b6.mono ?_;rintro e w8 ⟨rfl,rfl⟩;clear b6
 by_cases h9:Z=V2
 rotate_left
 ·have v2:((Z:Int) != (V2:Int))=true:=by rw[bne_iff_ne];omega
  rw[if_pos h9] at z;have F:=hid z;clear z;have J:=d.cell (i:=0) rfl;have M:=d.cell (i:=1) rfl;have T:=d.cell (i:=2) rfl;have U:=d.cell (i:=3) rfl;have V:=d.free 0;have Y:=d.free 1;have f2:=d.free 2;have f3:=d.free 3;go_wp2_with fail;obtain⟨G,H⟩:=oZ d I (.string ⟨#[]⟩) (.int .u32 0) (.int .i64 0) (.int .i64 0);exact bpD rfl G rfl rfl rfl (mQ F.out (by decide) H)
 rw[if_neg (fun k=>k h9)] at z;have v2:((Z:Int) != (V2:Int))=false:=by rw[bne_eq_false_iff_eq];omega
 have F:=hid z;have J:=d.cell (i:=0) rfl;have M:=d.cell (i:=1) rfl;have T:=d.cell (i:=2) rfl;have U:=d.cell (i:=3) rfl;have V:=d.free 0;have Y:=d.free 1;have f2:=d.free 2;have f3:=d.free 3;clear z h9;go_wp2_with fail;obtain⟨G,H⟩:=oZ d I (.string (mkS O)) (.int .u32 (V2:Int)) (.int .i64 (A:Int)) (.int .i64 P);exact bpD rfl G rfl rfl rfl ⟨by rw[F.out,MG];rfl,H⟩
theorem aQw (b:Nat) (s:ByteArray) (a k:Nat) (I ch J:Value) (W:World) (z:BRd W b s a I ch J) (L:s.size<=1000000) (O:k<=48) (T:a<=9223372036854775807) (A:aO s.size (a:Int) k≠0):
  Calls Tryz.prog 110 #[.pointer (some ⟨b,0,none⟩),.int .i64 (k:Int)] W fun e w'=>e=.panicked (oC (aO s.size (a:Int) k))/\W.grownBy w' (some b):=by
 have F:=fun W=>sT s (a:Int) k W L (by omega) (by omega) (by omega)
 obtain⟨E,d⟩:∃E,E=aO s.size (a:Int) k:=⟨_,rfl⟩;obtain⟨V,G⟩:∃V,V=aE s.data.toList (a:Int) k:=⟨_,rfl⟩;rw[<-d] at A ⊢;rw[<-d,<-G] at F;clear d G;have U:=Arr.cell z (i:=0) rfl;have Y:=Arr.cell z (i:=1) rfl;have hor:=fun W=>vC E W
 go_enter Tryz.func110,Tryz.ntmps110;go_wp2_with fail
 go_quiet (first|(go_at_call 23;exact Calls.quiet_of_same (F _)))
 have M:W.grownBy (W.drewN nq) (some b):=⟨rfl,rfl,rfl,aA _,fun _ _ _=>rfl⟩;generalize W.drewN nq=Z at*
 go_wp2_with fail;refine(hor _).mono ?_;rintro e w2 (⟨H,rfl,rfl⟩|⟨H,rfl,rfl⟩)
 ·exact absurd H A
 ·go_wp2_with fail;exact⟨rfl,rfl,M⟩
def aAq (w w':World) (b:Nat) (s:ByteArray) (a:Nat) (room:Int) (e:Ending):Prop:=
 (∃E,E≠0/\cL s.data.toList (a:Int) room=(cW,0,0,E)/\e=.panicked (oC E)/\w.grownBy w' (some b))\/
 (∃(O:List UInt8) (V p:Nat) (d z A:Value),e=.returned (.tuple #[.string (mkS O),.int .u32 (V:Int)])/\BRd w' b s p d z A/\w.grownBy w' (some b)/\
  cL s.data.toList (a:Int) room=(if(fG O).toNat≠V then(cW,0,0,7) else(mkS O,(V:Int),(p:Int),0))/\O.length<=100000/\V<4294967296)
theorem sB {w w':World} {b:Nat} {s:ByteArray} {a:Nat} {room E:Int} (h:cL s.data.toList (a:Int) room=(cW,0,0,E)) (d:E≠0) (z:w.grownBy w' (some b)):aAq w w' b s a room (.panicked (oC E)):=.inl ⟨E,d,h,rfl,z⟩
theorem aQx (b:Nat) (s:ByteArray) (a R:Nat) (w:World) (hA:BRd w b s a (.slice none 0 0) (.slice none 0 0) (.int .i64 0)) (hs:s.size<=12000) (ha:a<=9223372036854775807) (l7:1<=R) (l8:R<=360) (g0:∀W,w.grownBy W (some b)->iF W):
  Calls Tryz.prog 51 #[.pointer (some ⟨b,0,none⟩),.int .i64 (R:Int)] w fun e w'=>aAq w w' b s a (R:Int) e:=by
 have HL:=hid (show s.data.toList.length=s.size by simp);have l9:b<w.heap.size:=Arr.lt hA;have d:=wU s.data.toList (a:Int) (R:Int);rw[HL.out,if_neg (by omega)] at d
 by_cases h1:aO s.size (a:Int) 48=0
 rotate_left
 ·rw[if_pos h1] at d;have G:=hid d;clear d;go_enter Tryz.func51,Tryz.ntmps51;go_wp2_with fail;refine(aQw b s a 48 _ _ _ w hA (by omega) (by decide) ha h1).mono ?_;rintro e w1 ⟨rfl,a2⟩;go_wp2_with fail;exact⟨rfl,sB G.out h1 a2⟩
 rw[if_neg (fun k=>k h1)] at d;have k0:=fQ h1;have m0:a<=96000:=by omega
 have b1:=zT b s a 48 (.slice none 0 0) (.slice none 0 0) (.int .i64 0) w hA (by omega) (by decide) (by omega);have b2:=fun W h=>zT b s (a+48) 32 (.slice none 0 0) (.slice none 0 0) (.int .i64 0) W h (by omega) (by decide) (by omega)
 have b3:=fun W h=>zT b s (a+48+32) 16 (.slice none 0 0) (.slice none 0 0) (.int .i64 0) W h (by omega) (by decide) (by omega)
 rw[show(((a+48:Nat):Int))=(a:Int)+48 by push_cast;rfl] at b2;rw[show(((a+48+32:Nat):Int))=(a:Int)+80 by push_cast;omega] at b3;have d3:=iA s.data.toList (a:Int) 48;have b4:=iA s.data.toList ((a:Int)+48) 32;have d5:=iA s.data.toList ((a:Int)+80) 16;rw[h1] at b1;obtain⟨Y,g1⟩:∃Y,Y=aE s.data.toList (a:Int) 48:=⟨_,rfl⟩;obtain⟨E2,d6⟩:∃E2,E2=aO s.size ((a:Int)+48) 32:=⟨_,rfl⟩;obtain⟨Z,d7⟩:∃Z,Z=aE s.data.toList ((a:Int)+48) 32:=⟨_,rfl⟩;obtain⟨E3,d8⟩:∃E3,E3=aO s.size ((a:Int)+80) 16:=⟨_,rfl⟩;obtain⟨J,d9⟩:∃J,J=aE s.data.toList ((a:Int)+80) 16:=⟨_,rfl⟩;rw[<-g1] at b1 d3 d
 rw[<-d6,<-d7] at b2;rw[<-d6] at d;rw[<-d7] at b4 d;rw[<-d8,<-d9] at b3;rw[<-d8] at d;rw[<-d9] at d5 d;have d3:Y<281474976710656:=d3;have b4:Z<4294967296:=b4;have d5:J<65536:=d5;clear d6 d8 g1 d7 d9;go_enter Tryz.func51,Tryz.ntmps51;go_wp2_with fail;refine b1.mono ?_;rintro e w1 (⟨e3,rfl,g2,a2⟩|⟨e3,rfl,a2⟩)
 rotate_left
 ·exact absurd rfl e3
 clear e3 h1 b1 k0 hA
 by_cases h2:Y=54156738319193
 rotate_left
 ·have v1:((Y:Int)==54156738319193)=false:=by rw[beq_eq_false_iff_ne];omega
  have v2:(Y==54156738319193)=false:=by rw[beq_eq_false_iff_ne];exact h2
  rw[if_pos h2] at d;have G:=hid d;clear d;go_wp2_with fail;refine(pU false 3 _ (by decide)).mono ?_;rintro e w2 (⟨F,rfl,rfl⟩|⟨F,rfl,rfl⟩)
  ·exact absurd F (by decide)
  go_wp2_with fail;exact⟨rfl,sB G.out (by decide) a2⟩
 rw[if_neg (fun k=>k h2)] at d;have v1:((Y:Int)==54156738319193)=true:=by rw[beq_iff_eq];omega
 have v2:(Y==54156738319193)=true:=by rw[beq_iff_eq];exact h2
 clear h2;go_wp2_with fail;refine(pU true 3 _ (by decide)).mono ?_;rintro e w2 (⟨F,rfl,rfl⟩|⟨F,rfl,rfl⟩)
 rotate_left
 ·exact absurd F (by decide)
 clear v1 v2;go_wp2_with fail;refine(b2 _ g2).mono ?_;rintro e w2 (⟨h3,rfl,g3,a3⟩|⟨h3,rfl,a3⟩)
 rotate_left
 ·rw[if_pos h3] at d;have G:=hid d;clear d;go_wp2_with fail;exact⟨rfl,sB G.out h3 (gbT a2 a3)⟩
 rw[if_neg (fun k=>k h3)] at d;have a3:=gbT a2 a3;clear b2 g2 a2 h3;have m9:rA.wrap (Z:Int)=(Z:Int):=by rw[vP];omega
 have k5:(Z:Int)%4294967296=(Z:Int):=by omega
 go_wp2_with fail;refine(b3 _ g3).mono ?_;rintro e w3 (⟨h4,rfl,e4,a0⟩|⟨h4,rfl,a0⟩)
 rotate_left
 ·rw[if_pos h4] at d;have G:=hid d;clear d;go_wp2_with fail;exact⟨rfl,sB G.out h4 (gbT a3 a0)⟩
 rw[if_neg (fun k=>k h4)] at d;have a0:=gbT a3 a0;obtain⟨A,g4⟩:∃A,A=a+48+32+16:=⟨_,rfl⟩;rw[<-g4] at e4;rw[show(a:Int)+96=(A:Int) by omega] at d;have m1:A<=96096:=by omega
 have b5:=YP (s:=s.data.toList) (a:=(A:Int));have b6:=fun W=>aQp s (A:Int) W (by omega) (by omega) (by omega)
 obtain⟨H,U2,U3,hU⟩:∃H U2 U3,cG s.data.toList (A:Int)=(H,U2,U3):=⟨_,_,_,rfl⟩;rw[hU] at b6 b5 d;simp only at b6 b5 d;have I:=hid d;have g5:=hid b5;have a8:=Arr.new w3 50 [.string ⟨#[]⟩,.int .i64 (J:Int),.slice none 0 0];change Arr (w3.alloc (.cells #[.string ⟨#[]⟩,.int .i64 (J:Int),.slice none 0 0] 50)) _ _ _ at a8;have a4:=Arr.alloc e4 (.cells #[.string ⟨#[]⟩,.int .i64 (J:Int),.slice none 0 0] 50);have g6:=gbT a0 (gbB (g:=some b) (bD (aB _ w3) (.cells #[.string ⟨#[]⟩,.int .i64 (J:Int),.slice none 0 0] 50)));have d0:=Arr.cell a4 (i:=0) rfl;have d1:=Arr.cell a4 (i:=1) rfl
 have d4:=Arr.cell a4 (i:=4) rfl;clear b3 g3 a3 h4 g4 hU d b5 e4 m9 k5;go_upto_region 4 with fail;obtain⟨z,hz⟩:∃z,z=w3.heap.size:=⟨_,rfl⟩;have m2:b<z:=by have:=a0.size;omega
 have m3:w.heap.size<=z:=by have:=a0.size;omega
 rw[<-hz] at a8 ⊢;generalize w3.alloc (.cells #[.string ⟨#[]⟩,.int .i64 (J:Int),.slice none 0 0] 50)=w4 at*
 clear hz a0
 go_cut [8,9,10] (fun c8 c9 k6 wx=>c8=.string (mkS H)/\c9=.int .i64 U2/\k6=.int .i64 U3/\Below w4.heap.size w4 wx)
 case first=>
  obtain⟨B3,g7⟩:∃B3,B3=w4.heap.size:=⟨_,rfl⟩;have k7:=hid g7;have m4:=kZ (B:=B3) (w0:=w4) ⟨d0,d1,d4,aB _ _,by omega⟩ (aB w4.heap.size w4).drew;clear g7 d0 d1 d4
  go_region_held3 (fun w'=>w'.cell? ⟨b,0,none⟩=some (.string s)/\w'.cell? ⟨b,1,none⟩=some (.int .i64 (A:Int))/\w'.cell? ⟨b,4,none⟩=some (.int .i64 0)/\Below B3 w4 w'/\B3<=w'.heap.size)
   (first
    |with_reducible assumption
    |with_reducible exact kZ (by assumption) (by assumption))
   (first
    |(go_at_call 111;refine(b6 _).mono ?_;rintro e w5 ⟨rfl,a9⟩))
  have k8:=(show w5.cell? ⟨b,0,none⟩=some (.string s)/\w5.cell? ⟨b,1,none⟩=some (.int .i64 (A:Int))/\w5.cell? ⟨b,4,none⟩=some (.int .i64 0)/\Below B3 w4 w5/\B3<=w5.heap.size by assumption);go_wp2_with fail;go_meet;exact⟨rfl,rfl,rfl,by rw[<-k7.out];exact k8.2.2.2.1⟩
 case rest=>
  obtain⟨rfl,rfl,rfl,a9⟩:=hcut;have g8:=Arr.below a4 a9 (Arr.lt a4);have g9:=a8.below a9 (Arr.lt a8);have e5:=gbT g6 (gbB a9);clear b6 d0 d1 d4 a4 a8 g6 a9;go_wp2_with fail;refine(ES b s A U2 U3 _ _ _ wc g8).mono ?_;rintro e w6 (⟨rfl,rfl,i0,V⟩|⟨F,rfl,rfl⟩)
  rotate_left
  ·have d:=I.out;rw[if_pos F] at d;have G:=hid d;clear d;go_wp2_with fail;exact⟨rfl,sB G.out F e5⟩
  have d:=I.out;rw[if_neg (fun k=>k rfl)] at d;obtain⟨k1,k2,k3⟩:=g5.out rfl;obtain⟨p,rfl⟩:∃p:Nat,U2=(p:Int):=⟨U2.toNat,by omega⟩;have m5:p<=96368:=by omega
  obtain⟨C,hC⟩:∃C,C=H.length+2:=⟨_,rfl⟩;have b7:2<=C/\C<=258:=by omega
  rw[show(H.length:Int)+2=(C:Int) by omega] at d;have b8:=g9.grown V (by simp only[ne_eq,iP];omega);have V:=gbT e5 V;have m6:(mkS H).size<=256:=by rw[cP];exact k1
  have e6:=WV (mkS H) (J:Int) (.slice none 0 0) rfl (w6.setCell ⟨z,0,none⟩ (.string (mkS H))) (by omega);rw[show((mkS H).size:Int)+2=(C:Int) by rw[cP];omega] at e6;have a5:=b8.set 0 (.string (mkS H));have e7:BRd (w6.setCell ⟨z,0,none⟩ (.string (mkS H))) b s p (.slice none 0 0) (.slice none 0 0) (.int .i64 0):=Arr.other i0 ⟨z,0,none⟩ (by simp only[ne_eq];omega) _;have i1:w.grownBy (w6.setCell ⟨z,0,none⟩ (.string (mkS H))) (some b):=⟨V.os,V.tape,V.output,by have:=V.size;simpa using this,fun k hk e8=>by
   rw[kT w6 ⟨z,0,none⟩ k _ (by simp only[ne_eq];omega)];exact V.block k hk e8⟩
  have d0:=b8.cell (i:=0) rfl;have f0:=b8.free 0;have e0:=a5.cell (i:=0) rfl;have e1:=a5.cell (i:=1) rfl;have e2:=a5.cell (i:=2) rfl;have I:=hid d;clear d hC g8 g9 e5 i0 k2 k3 g5;go_wp2_with fail;refine e6.mono ?_;rintro e w8 ⟨rfl,b9⟩;have c0:=Arr.below e7 b9 (Arr.lt e7);have i2:=a5.below b9 (Arr.lt a5);have i3:=gbT i1 (gbB b9);have d4:=Arr.cell c0 (i:=4) rfl;have f4:=Arr.free c0 4;have i4:BRd (w8.setCell ⟨b,4,none⟩ (.int .i64 (C:Int))) b s p (.slice none 0 0) (.slice none 0 0) (.int .i64 (C:Int)):=Arr.set c0 4 _;have i5:=i2.other ⟨b,4,none⟩ (by simp only[ne_eq];omega) (.int .i64 (C:Int))
  have e9:=gbT i3 (gbS w8 b 4 (.int .i64 (C:Int)));clear e6 d0 f0 e0 e1 e2 b8 a5 e7 V i1 b9;go_wp2_with fail;clear d4 f4;generalize w8.setCell ⟨b,4,none⟩ (.int .i64 (C:Int))=w9 at*
  clear i2 c0 i3;refine(aQo b s p C w9 i4 (by omega) (by omega) b7.1 b7.2).mono ?_;rintro e i6 (⟨F,c1,rfl,a1⟩|⟨rfl,p2,vt,vc,T,ch,c1,i7,a1,i8,i9,j0,j1,j2,j3,j4,k9⟩)
  ·have d:=I.out;rw[if_pos F] at d;have G:=hid d;obtain⟨E,hE⟩:∃E,E=(cV s.data.toList (p:Int) (C:Int)).2.2:=⟨_,rfl⟩;rw[<-hE] at F G ⊢;clear d hE c1 I;go_wp2_with fail;exact⟨rfl,sB G.out F (gbT e9 a1)⟩
  have d:=I.out;have a6:=LG (s:=s.data.toList) (at':=(p:Int)) (codes:=(C:Int));have a7:=aQm b s p2 C vt vc T ch i6 i7 (by omega) k9 i8 i9 j0 j1 j2 j3 j4 b7.1 b7.2;unfold EU at a7;rw[c1] at d a6;obtain⟨L,P,K,hL⟩:∃L P K,gX s.data.toList (p2:Int) T ch ((C:Int)-1)=(L,P,K):=⟨_,_,_,rfl⟩;rw[hL] at a7 a6 d;simp only at a7 a6 d;rw[HL.out] at a6;have f1:=i5.grown a1 (by simp only[ne_eq,iP];omega);have a1:=gbT e9 a1;have l1:=Arr.lt f1;have I:=hid d;have j5:=hid a6;clear hL c1 d a6 i8 i9 j0 j1 j2 j3 j4 i5 e9 i4 i7;go_wp2_with fail;refine a7.mono ?_
  rintro e b0 (⟨F,⟨v,rfl,ho⟩,⟨p3,rfl,j6⟩,U⟩|⟨F,rfl,U⟩)
  rotate_left
  ·have d:=I.out;rw[if_pos F] at d;have G:=hid d;clear d a7;go_wp2_with fail;exact⟨rfl,sB G.out F (gbT a1 U)⟩
  subst F;have d:=I.out;rw[if_neg (fun k=>k rfl)] at d;obtain⟨_,_,_,_,k4,_,_⟩:=j5.out rfl;obtain⟨av,cv,rfl,_,_,_⟩:=(OwI.rd ho).open;have c2:=f1.grown U (by simp only[ne_eq,iP];omega);have U:=gbT a1 U;have c3:=c2.set 2 (.slice av L.length cv);have f3:BRd (b0.setCell ⟨z,2,none⟩ (.slice av L.length cv)) b s p3 vt vc (.int .i64 (C:Int)):=Arr.other j6 ⟨z,2,none⟩ (by simp only[ne_eq];omega) _;have f5:w.grownBy (b0.setCell ⟨z,2,none⟩ (.slice av L.length cv)) (some b):=⟨U.os,U.tape,U.output,by have:=U.size;simpa using this,fun k hk e8=>by
   rw[kT b0 ⟨z,2,none⟩ k _ (by simp only[ne_eq];omega)];exact U.block k hk e8⟩
  have j7:OwI (b0.setCell ⟨z,2,none⟩ (.slice av L.length cv)) i6.heap.size (.slice av L.length cv) L:=Ow.kept ho (gbS b0 z 2 _) (iL ho l1);have j8:=g0 _ f5;have c4:=aNu (mkS H) (J:Int) (.slice av L.length cv) L (R:Int) _ j8 (by omega) (OwI.rd j7) (by omega) (by omega) (by omega) (by omega) (by omega);have c5:=YO (mkS H) (J:Int) L (R:Int);obtain⟨Q,RE,hR⟩:∃Q RE,rest (mkS H) (J:Int) L (R:Int)=(Q,RE):=⟨_,_,rfl⟩;rw[hR] at c4 c5 d;simp only at c4 c5 d;have d2:=c2.cell (i:=2) rfl;have f2:=c2.free 2;have e0:=c3.cell (i:=0) rfl;have e1:=c3.cell (i:=1) rfl;have e2:=c3.cell (i:=2) rfl
  have I:=hid d;clear hR d f1 a1 c2 U j6 ho j7 j8 c3 a7 j5 g0;go_wp2_with fail;refine c4.mono ?_;rintro e l2 ⟨rfl,f6⟩;have f7:=Arr.below f3 f6 (Arr.lt f3);have f8:=gbT f5 (gbB f6);clear c4 d2 f2 e0 e1 e2 f3 f5 f6;go_wp2_with fail;refine(vC RE l2).mono ?_;rintro e l3 (⟨rfl,rfl,rfl⟩|⟨F,rfl,rfl⟩)
  rotate_left
  ·have d:=I.out;rw[if_pos F] at d;have G:=hid d;clear d;go_wp2_with fail;exact⟨rfl,sB G.out F f8⟩
  have d:=I.out;rw[if_neg (fun k=>k rfl)] at d;have c5:=c5 rfl;obtain⟨M,hM⟩:∃M,M=52*R:=⟨_,rfl⟩;have m8:aI.wrap (52*(R:Int))=(M:Int):=by rw[aM];omega
  have l4:52*(R:Int)=(M:Int):=by omega
  have m7:M<=18720:=by omega
  rw[l4] at d;have c6:=aQv Q M l3 (by omega) (by omega);have c7:=aAl (p:=Q.data.toList) (most:=(M:Int));obtain⟨O,OE,hO⟩:∃O OE,fR Q.data.toList (M:Int)=(O,OE):=⟨_,_,rfl⟩;rw[hO] at c6 c7 d;simp only at c6 c7 d;have I:=hid d;clear hO d hM;go_wp2_with fail;refine c6.mono ?_;rintro e l5 ⟨rfl,f9⟩;have l6:=Arr.below f7 f9 (Arr.lt f7);have j9:=gbT f8 (gbB f9);clear c6 f7 f8 f9;go_wp2_with fail;refine(vC OE l5).mono ?_;rintro e o0 (⟨rfl,rfl,rfl⟩|⟨F,rfl,rfl⟩)
  rotate_left
  ·have d:=I.out;rw[if_pos F] at d;have G:=hid d;clear d;go_wp2_with fail;exact⟨rfl,sB G.out F j9⟩
  have d:=I.out;rw[if_neg (fun k=>k rfl)] at d;have G:=hid d;have c7:=c7 rfl;clear d;go_wp2_with fail
  go_ret2
  exact .inr ⟨O,Z,p3,vt,vc,_,rfl,l6,j9,G.out,by omega,b4⟩
end
section
open Go.ChangeShapes Go.WideShapes Go.ChangeAt Go.RowKit Go.Joins
theorem dF {n:Int} (h:(Lit.int .i64 n).wf=true): -9223372036854775808<=n/\n<=9223372036854775807:=by
 simp[Lit.wf,IntKind.min,IntKind.max,IntKind.signed,IntKind.bits] at h;omega
theorem NE:ownKnob Tryz.prog.godebug=none:=by kernel_rfl
theorem FI:laidOutB Tryz.prog=true:=by kernel_rfl
theorem aS4:Tryz.prog.globalNamed "errors.errorType"=some 0:=by kernel_rfl
theorem aS5:(Tryz.prog.cutTypes.find? (·.1== "internal/reflectlite.rtype")).map (·.2)=some 283:=by kernel_rfl
theorem aS6:Tryz.prog.types.size=349:=by kernel_rfl
theorem aS7:((dG 349).filter fun t=>Tryz.prog.rowNamed t [101,114,114,111,114])=[114]:=by kernel_rfl
abbrev pE:List (String×DataW Unit):=[("errors.errorType",Rows.laid_errors_errorType)]
theorem NF {W:World} (h:laidMetH Tryz.prog pE W):iF W:=by
 have A:laidMet Tryz.prog [] W/\handlesMet Tryz.prog pE W:=h;obtain⟨E,u,F,G,I,J,L,d⟩:=A.2 _ (dC.2 rfl);have M:E=[101,114,114,111,114]:=(bW G).symm;subst M;obtain rfl:=bW (aS5.symm.trans I);have z:F∈(dG 349).filter fun t=>Tryz.prog.rowNamed t [101,114,114,111,114]:=List.mem_filter.2 ⟨List.mem_range.2 (by rw[<-aS6];exact J),L⟩
 rw[aS7] at z;obtain rfl:=dC.1 z;have O:typeHandle Tryz.prog 114=.pointer (some ⟨2,114,none⟩):=by kernel_rfl
 rw[O] at d;have:=World.var?_cell aS4 d 0;unfold iF
 simpa using this
noncomputable def FJ (os:Os):World:=
 let w0:=World.holding Tryz.prog os ⟨#[],#[],[]⟩
 {w0 with heap:=w0.heap.modify 0 fun
   |.cells _ t d=>.cells #[.iface 283 (.agg #[.pointer (some ⟨2,114,none⟩)])] t d
   |o=>o}
theorem NG (os:Os) (args:Array Value):laidMetH Tryz.prog pE ((FJ os).forCall (fun _ _=>0) ⟨#[],args,[]⟩).memory:=
 laidMetH_of_parts (laidMet_nil _ _) (by kernel_rfl)
theorem FK {n:Int} (h:(Lit.int .i64 n).wf=true): -9223372036854775808<=n/\n<=9223372036854775807:=dF h
theorem aBt {α:Type}:∀{l:List α},l.length=2->∃x y,l=[x,y]
 |[x,y],_=>⟨x,y,rfl⟩
section
variable {H:Type} {enc:TypeId×Value->H} {w:World} {base:Nat} {spare:Nat->Bool} {held:Bool}
theorem aBu {a2:Nat} {v:Value} {x:DataW H×List MemPlace} (h:DataW.trod enc Tryz.prog w base spare held a2 22 [v]=some x):∃l,RdP w v l/\WfP l:=by
 have a3:Tryz.prog.cellsOf 61=2:=by kernel_rfl
 have c3:Tryz.prog.cellsOf 3=1:=by kernel_rfl
 rcases Go.Deep.open_slice Tryz.underlying22 h with⟨G,_⟩|⟨a,z,cap,m,n,D,Pl,G,_,hl,hm,a4,_,hi⟩
 ·obtain rfl:v=.slice none 0 0:=by simpa using G
  exact⟨[],⟨none,0,rfl,aA _,by simp[maxLen],fun h=>absurd h (by simp)⟩,by intro p d;simp at d⟩
 ·obtain rfl:v=.slice (some a) z cap:=by simpa using G
  have a5:z<=m:=by rw[a4];split<;>omega
  have M:∀i,i<z->∃p:Int×Int,(w.cell? (a.add (i*2))=some (.int .i64 p.1)/\w.cell? (a.add (i*2+1))=some (.int .i64 p.2))/\((-9223372036854775808<=p.1/\p.1<=9223372036854775807)/\(-9223372036854775808<=p.2/\p.2<=9223372036854775807)):=fun i F=>by
   obtain⟨b7,O,T⟩:=hi i (dR F a5);rw[a3] at O;obtain⟨xs,k,_,_,_,a6,I⟩:=DataW.trod_array Tryz.underlying61 T;obtain⟨_,a7,U⟩:=World.cells?_some O;obtain⟨V,Y,rfl⟩:=aBt a7;obtain⟨y0,y1,rfl⟩:=aBt a6;have A:=I 0 (by decide);have J:=I 1 (by decide);rw[c3] at A J;obtain⟨Z,q0,_,b0⟩:=DataW.trod_int Tryz.underlying3 (show DataW.trod enc Tryz.prog w base spare held k 3 [V]=some y0 from A);obtain⟨n1,q1,_,b1⟩:=DataW.trod_int Tryz.underlying3 (show DataW.trod enc Tryz.prog w base spare held k 3 [Y]=some y1 from J);have a8:V=.int .i64 Z:=List.singleton_inj.1 q0
   have a9:Y=.int .i64 n1:=List.singleton_inj.1 q1;clear A J I hi T h;subst a8 a9;have a0:=U 0 (by decide);have a1:=U 1 (by decide);refine⟨(Z,n1),⟨?_,?_⟩,FK b0,FK b1⟩
   ·have A:(a.add (i*2)).add 0=a.add (i*2):=by rw[Go.Deep.add_add,Nat.add_zero]
    rw[<-A,a0];rfl
   ·simpa [<-Go.Deep.add_add] using a1
  have b2:∃f:Nat->Int×Int,∀i,i<z->(w.cell? (a.add (i*2))=some (.int .i64 (f i).1)/\w.cell? (a.add (i*2+1))=some (.int .i64 (f i).2))/\((-9223372036854775808<=(f i).1/\(f i).1<=9223372036854775807)/\(-9223372036854775808<=(f i).2/\(f i).2<=9223372036854775807)):=
   ⟨fun i=>if h:i<z then(M i h).choose else(0,0),fun i F=>by simp only[F,dif_pos];exact(M i F).choose_spec⟩
  obtain⟨f,L⟩:=b2;refine⟨(dG z).map f,⟨some a,cap,by simp,by simpa using hl,hm,fun h0=>?_⟩,fun p d=>?_⟩
  ·have b3:0<z:=by simpa using h0
   have c0:=(L 0 b3).1.1;obtain⟨b,off,b4⟩:=a;have b5:b4=none:=by simpa [iN] using World.cell?_spot c0
   subst b5;refine⟨b,off,rfl,iO w _ c0,fun j p d=>?_⟩;obtain⟨E,rfl⟩:j<z/\f j=p:=by
    rw[dY] at d
    by_cases E:j<z
    ·rw[List.getElem?_range E] at d;exact⟨E,by simpa using d⟩
    ·rw[List.getElem?_eq_none (by simpa using E)] at d;simp at d
   have e:∀q,(⟨b,off,none⟩:Addr).add q=⟨b,off+q,none⟩:=fun q=>by unfold iN;split<;>simp_all
   have:=(L j E).1;rw[e,e] at this;exact⟨this.1,by rw[Nat.add_assoc];exact this.2⟩
  ·rw[dU] at d;obtain⟨i,b6,rfl⟩:=d;exact(L i (by simpa using b6)).2
end
end
end Go.Proofs.YtiifmcicleljjaaGreatDoor
