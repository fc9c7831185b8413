/-
  Texts put together (part 2): the walks and the plain laws on which the statement stands.
-/
import Derived.Deep.RegionWith
import Derived.Deep.DeepCutAuto
import Derived.StillTailTactics
import Derived.Deep.RegionHeld3
import Derived.Shelf.Strings.Builder1
import Derived.Shelf.Strings.BuilderF
import Derived.Shelf.Strings.BuilderK
import Derived.Shelf.Strings.Prefix
import Derived.Shelf.Slices.Turned
import Derived.Test.YtfplbbphficcjaaGreatDoorProg
import Derived.Shelf.Abstract
import Derived.RangeFuncNested
import Derived.RangeFuncBound
import Derived.RangeFuncCalls
import Derived.RangeFuncLeaves
import Derived.RangeFuncBox
import Derived.Shelf.RegionOpen
import Derived.OwnWalkIn
import Derived.TacticsInMore
import Derived.LoopNIn
import Derived.LoopIn
import Derived.Sort.OwnSortedInts
import Derived.Test.YtfplbbphficcjaaGreatDoorZ1
set_option maxRecDepth 100000
set_option maxHeartbeats 12800000
set_option linter.unusedVariables false
set_option linter.unusedSimpArgs false
open Go.Proofs.Tryz
open Go.Proofs.Tryz renaming prog->pG
open Array renaming replicate_succ->jG,replicate_zero->jH
open Go renaming CallsIn->iV,bodyPost_ret->fM,callsIn_of_wp->pX,run_underlying->wW
open Go.Instr renaming index->rE
open Go.IntKind renaming bits->IF,signed->IE,u8->oQ
open Go.RowKit.Below renaming refl->aH
open Go.Value renaming int->bQ
open List renaming append_nil->dI,append_toArray->jJ,cons_append->fF,ext_getElem?->lH,getElem?_eq_getElem->aN,length_append->aL,length_cons->aU,length_drop->bA,length_map->aS,length_nil->aV,length_take->aQ,mem_map->eK,mem_of_getElem?->cN,nil_append->eL,push_toArray->jI,range->eT,range_succ->wU,size_toArray->dB,take_add_one->cG,take_of_length_le->cD
open Nat renaming le_refl->aD,lt_of_lt_of_le->fB,mod_eq_of_lt->jT,pow_le_pow_right->nF,pow_succ->oP,reduceAdd->cV,reduceSub->dC,sub_zero->sD,zero_le->aO
open Option renaming toList_some->rD
open Option.some renaming inj->cC
open UInt8 renaming ofNat->eA
namespace Go.Proofs.YtfplbbphficcjaaGreatDoor
section
open Go.RowKit
theorem aW {a b c:World} (h:Below a.heap.size a b) (k:Below b.heap.size b c):Below a.heap.size a c:=h.trans (k.mono h.size)
theorem bD {a b:World} (h:Below a.heap.size a b) (o:Obj):Below a.heap.size a (b.alloc o):=h.alloc h.size o
def cK (c n:Int):Int:=(if c<0 then-(c+1) else c)%n
theorem lN (c n:Int) (h:1<=n):0<=cK c n/\cK c n<n:=⟨Int.emod_nonneg _ (by omega),Int.emod_lt_of_pos _ (by omega)⟩
theorem BE (n:Nat) (k:Int) (d:0<=k):∃m:Nat,(if k<(n:Int) then k else(n:Int))=(m:Int)/\(m:Int)<=k/\m<=n:=by
 by_cases h:k<(n:Int)
 ·obtain⟨m,rfl⟩:=Int.eq_ofNat_of_zero_le d
  grind
 grind
def Dat (w:World) (g cap n:Nat) (f:Nat->Int):Prop:=
 ∃d:Array Value,w.heap[g]? =some (.cells d 3 (0,0))/\d.size=cap/\n<=cap/\∀k,k<n->d[k]? =some (.int .i64 (f k))
theorem Dat.lt {w:World} {g cap n:Nat} {f:Nat->Int} (h:Dat w g cap n f):g<w.heap.size:=by grind [Dat]
theorem Dat.cell {w:World} {g cap n:Nat} {f:Nat->Int} (h:Dat w g cap n f) {k:Nat} (d:k<n):w.cell? ⟨g,k,none⟩=some (.int .i64 (f k)):=by
 obtain⟨A,h,_,_,e⟩:=h;rw[cell_of_row w g k _ _ (0,0) h];exact e k d
theorem Dat.free {w:World} {g cap n:Nat} {f:Nat->Int} (h:Dat w g cap n f) (k:Nat):w.frozen? ⟨g,k,none⟩=false:=by
 obtain⟨d,h,_⟩:=h;exact frozen_of_row w g k _ _ h
theorem Dat.set {w:World} {g cap n:Nat} {f:Nat->Int} (h:Dat w g cap n f) (k:Nat) (x:Int):Dat (w.setCell ⟨g,k,none⟩ (.int .i64 x)) g cap n (iX f k x):=by
 obtain⟨d,h,e,A,D⟩:=h;refine⟨d.setIfInBounds k (.int .i64 x),heap_setCell_same w g k _ _ _ h,by simpa using e,A,fun j F=>?_⟩
 grind [iX,Dat]
theorem Dat.grown {w w':World} {g cap n:Nat} {f:Nat->Int} {row:Option Nat} (h:Dat w g cap n f) (d:w.grownBy w' row) (e:some g≠row):Dat w' g cap n f:=by
 have A:=h.lt;obtain⟨D,h,F⟩:=h;exact⟨D,by rw[d.block g A e];exact h,F⟩
theorem Dat.below {w w':World} {g cap n B:Nat} {f:Nat->Int} (h:Dat w g cap n f) (d:Below B w w') (e:g<B):Dat w' g cap n f:=by
 obtain⟨A,h,D⟩:=h;exact⟨A,by rw[d.block g e];exact h,D⟩
theorem Dat.drewN {w:World} {g cap n:Nat} {f:Nat->Int} (h:Dat w g cap n f) (k:Nat):Dat (w.drewN k) g cap n f:=h
theorem Dat.drew {w:World} {g cap n:Nat} {f:Nat->Int} (h:Dat w g cap n f):Dat w.drew g cap n f:=h
theorem eU {a b c:World} {row:Option Nat} (h:a.grownBy b row) (k:b.grownBy c row):a.grownBy c row:=
 ⟨k.os.trans h.os,k.tape.trans h.tape,k.output.trans h.output,Nat.le_trans h.size k.size,fun i d e=>(k.block i (fB d h.size) e).trans (h.block i d e)⟩
theorem gD (a:World) (g k:Nat) (v:Value):a.grownBy (a.setCell ⟨g,k,none⟩ v) (some g):=
 ⟨rfl,rfl,rfl,by simp,fun i _ d=>Below.heap_setCell _ _ _ _ (fun e=>d (by rw[e]))⟩
theorem qP {a b:World} {row:Option Nat} (h:a.grownBy b row):a.grownBy b.drew row:=⟨h.os,h.tape,h.output,h.size,h.block⟩
def tN (w0:World) (g n d:Nat) (h:Int->Int->Bool):Prop:=
 ∀W,w0.grownBy W (some g)->∀x y:Int,0<=x->x<(n:Int)->0<=y->y<(n:Int)->
  Calls pG 999983 #[.int .i64 x,.int .i64 y,.pointer (some ⟨d,0,none⟩)] W fun e A=>∃c:Int,e=.returned (.int .i64 c)/\decide (c<0)=h x y/\Below W.heap.size W A
theorem tN.later {w0 d:World} {g n e:Nat} {A:Int->Int->Bool} (h:tN w0 g n e A) (D:w0.grownBy d (some g)):tN d g n e A:=by grind [eU,tN]
def InR (n:Nat) (f:Nat->Int):Prop:=∀k,k<n->0<=f k/\f k<(n:Int)
theorem InR.from {n a b:Nat} {f g:Nat->Int} (h:InR n f) (d:b<=n) (p:lO a b f g):InR n g:=fun k e=>by
 by_cases A:a<=k/\k<b
 ·grind [InR,lO]
 grind [InR,lO]
structure pK (lt:Int->Int->Prop) (f g:Nat->Int) (a b:Nat):Prop where
 frm:∀k,a<=k->k<b->∃k',a<=k'/\k'<b/\g k=f k'
 srt:jM lt g a b
theorem pK.empty {lt:Int->Int->Prop} {f g:Nat->Int} {a b:Nat} (h:b<=a):pK lt f g a b:=
 ⟨fun k d e=>by omega,jM.tiny _ _ _ (by omega)⟩
theorem kY {B:Nat} {a b:World} (h:Below B a b) (n:Nat):Below B a (b.drewN n):=⟨h.os,h.tape,h.output,h.size,h.block⟩
end
section
open Go.RowKit Go.Shelf
def ZP (w0:World) (g:Nat) (d:Array Value) (p:Int->Bool) (l:List Int):Prop:=
 ∀W,Below w0.heap.size w0 W->∀x∈l,Calls pG g (#[bQ .i64 x]++d) W fun e h=>e=.returned (.bool (p x))/\h=W
theorem ZQ (g:Nat) (G:Array Value) (p:Int->Bool) (v:Value) (l:List Int) (w:World) (H:RdI w v l) (h:Enters pG g) (I:ZP w g G p l):
  Calls pG 191 #[v,.func (.func g) #[] G] w fun e w'=>e=.returned (.int .i64 (iR p l))/\w'=w:=by
 obtain⟨a,ca,rfl,a1,T,J⟩:=H.open;unfold maxLen at T;clear H;have U:=hid I;have hE:∀args W,(callFunc g args).run pG W=.ok (.enter g args) W:=h;clear I h;go_enter func191,ntmps191;go_wp2_with fail
 go_loopg [8] l.length (fun V Y wr=>∃k:Nat,k<=l.length/\V=l.length-k/\Y=.int .i64 k/\Hid (∀x∈l.take k,p x=false)/\wr=w)
 case atStart=>exact⟨0,aO _,rfl,rfl,hid (fun x A=>by simp at A),rfl⟩
 case round=>
  obtain⟨k,hk,h,rfl,HT,rfl⟩:=hrel;have Z:=hid h;clear h
  by_cases D:k<l.length
  ·obtain⟨b1,o1,rfl,a2,L⟩:=J (by omega);obtain⟨x,A⟩:=eG D;have c1:=L k x A;have a0:x∈l:=cN A;have M:=hid A;have hP:=U.out _ (aH _ wr) x a0;clear L A J;go_wp2_with fail;refine hP.mono ?_;rintro e w1 ⟨rfl,rfl⟩
   by_cases F:p x=true
   ·rw[F];go_wp2_with fail;go_ret;refine⟨eI ?_,rfl⟩;rw[JD HT.out D (by have:=M.out;rw[aN D] at this;rw[cC this];exact F)]
   ·have O:p x=false:=by simpa using F
    rw[O];go_wp2_with fail;have h:=Z.out
    go_roundg (l.length-(k+1))
    case measure=>omega
    case rel=>
     refine⟨k+1,by omega,rfl,by go_num,hid (fun y d=>?_),rfl⟩;rw[cG,M.out] at d;rcases List.mem_append.1 d with d|d
     ·exact HT.out y d
     ·simp at d;rw[d];exact O
  ·go_wp2_with fail;go_ret;exact⟨eI (by rw[sK];have:=HT.out;rwa[cD (by omega)] at this),rfl⟩
theorem zC (g:Nat) (d:Array Value) (p:Int->Bool) (v:Value) (l:List Int) (w:World) (h:RdI w v l) (A:Enters pG g) (D:ZP w g d p l):
  Calls pG 178 #[v,.func (.func g) #[] d] w fun e w'=>e=.returned (.bool (decide (0<=iR p l)))/\w'=w:=by
 have F:=hid (ZQ g d p v l w h A D);obtain⟨i,G⟩:∃i,i=iR p l:=⟨_,rfl⟩;rw[<-G] at F ⊢;clear h A D G;go_enter func178,ntmps178;go_wp2_with fail;refine F.out.mono ?_;rintro e H ⟨rfl,rfl⟩;go_wp2_with fail;go_ret;exact⟨rfl,rfl⟩
theorem aN3 (x:Int) (w:World):Calls pG 202 #[.int .i64 x] w fun e w'=>e=.returned (.bool (decide (x<0)))/\w'=w:=by
 go_enter func202,ntmps202;go_wp2;go_ret;exact⟨rfl,rfl⟩
theorem aN4 (x t:Int) (b:Addr) (w:World) (d:w.cell? b=some (.int .i64 t)):Calls pG 203 #[.int .i64 x,.pointer (some b)] w fun e w'=>e=.returned (.bool (decide (t<x)))/\w'=w:=by
 go_enter func203,ntmps203;go_wp2;go_ret;exact⟨rfl,rfl⟩
theorem aN5 (x:Int) (w:World):Calls pG 204 #[.int .i64 x] w fun e w'=>e=.returned (.bool (!(x==0)&& !(x==1)))/\w'=w:=by
 by_cases d:x=0
 ·subst d;go_enter func204,ntmps204;go_wp2;go_ret;exact⟨rfl,rfl⟩
 ·have A:(x != 0)=true:=by rw[bne_iff_ne];exact d
  by_cases h:x=1
  ·subst h;go_enter func204,ntmps204;go_wp2;go_ret;exact⟨rfl,rfl⟩
  ·have D:(x != 1)=true:=by rw[bne_iff_ne];exact h
   go_enter func204,ntmps204;go_wp2;go_ret;exact⟨sJ (by simp[d,h]),rfl⟩
theorem PT (v:Value) (l:List Int) (w:World) (d:RdI w v l):
  Calls pG 192 #[v] w fun e w'=>e=.returned (.bool (decide (0<=iR (fun x=>decide (x<0)) l)))/\w'=w:=by
 have h:=hid (zC 202 #[] (fun x=>decide (x<0)) v l w d (enters_of func202 (by kernel_rfl) rfl) (fun W _ x _=>aN3 x W));obtain⟨i,A⟩:∃i,i=decide (0<=iR (fun x=>decide (x<0)) l):=⟨_,rfl⟩;rw[<-A] at h ⊢;clear A d;go_enter func192,ntmps192;go_wp2_with fail;refine h.out.mono ?_;rintro e D ⟨rfl,rfl⟩;go_wp2_with fail;go_ret;exact⟨rfl,rfl⟩
def gR (t:Int) (l:List Int):Nat:=l.findIdx (fun x=>decide (t<x))
theorem aN6 (t:Int):∀l:List Int,(if iR (fun x=>decide (t<x)) l<0 then(l.length:Int) else iR (fun x=>decide (t<x)) l)=(gR t l:Int):=by
 intro l
 induction l with
 |nil=>rfl
 |cons x l d=>
  unfold gR at d ⊢;rw[iR,List.findIdx_cons]
  by_cases e:t<x
  ·simp[e]
  ·grind
theorem BK (t:Int) (l:List Int):gR t l<=l.length:=List.findIdx_le_length
theorem DW (t:Int) (l:List Int):∀x∈l.take (gR t l),¬t<x:=by grind [List.mem_iff_getElem,aQ,List.not_of_lt_findIdx,gR]
theorem BL (t:Int) (l:List Int) {x:Int} (h:l[gR t l]? =some x):t<x:=by grind [gR]
theorem ZR (v:Value) (l:List Int) (t:Int) (w:World) (d:RdI w v l):
  Calls pG 194 #[v,.int .i64 t] w fun e w'=>e=.returned (.int .i64 ((gR t l:Nat):Int))/\Below w.heap.size w w':=by
 have A:=aN6 t l;have D:=hid (ZQ 203 #[.pointer (some ⟨w.heap.size,0,none⟩)] (fun x=>decide (t<x)) v l (w.alloc (.cells #[.int .i64 t] 3)) (d.below ((aH _ _).alloc (aD _) _)) (enters_of func203 (by kernel_rfl) rfl)
  (fun W H x _=>aN4 x t ⟨w.heap.size,0,none⟩ W (by rw[H.cell (p:=⟨w.heap.size,0,none⟩) (by simp)];exact bX _ _ _)))
 obtain⟨a,L,rfl,M,I,J⟩:=d.open;obtain⟨i,F⟩:∃i,i=iR (fun x=>decide (t<x)) l:=⟨_,rfl⟩;rw[<-F] at D A;have G:=hid A;clear F J d A;unfold maxLen at I;go_enter func194,ntmps194;go_wp2_with fail;refine D.out.mono ?_;rintro e O ⟨rfl,rfl⟩
 by_cases h:i<0
 ·go_wp2_with fail;go_ret;refine⟨eI ?_,(aH _ _).alloc (aD _) _⟩;have:=G.out;rwa[aB h] at this
 ·go_wp2_with fail;go_ret;refine⟨eI ?_,(aH _ _).alloc (aD _) _⟩;have:=G.out;rwa[aA (by omega)] at this
end
section
open Go.RowKit
def tQ (w:World) (v:Value) (m:List Int):Prop:=
 (v=.slice none 0 0/\m=[])\/∃b off cap,v=.slice (some ⟨b,off,none⟩) m.length cap/\b<w.heap.size/\∀j x,m[j]? =some x->w.cell? ⟨b,off+j,none⟩=some (.int .i64 x)
theorem tQ.below {w w':World} {v:Value} {m:List Int} (h:tQ w v m) (d:Below w.heap.size w w'):tQ w' v m:=by
 rcases h with h|⟨b,off,cap,rfl,e,A⟩
 ·exact .inl h
 ·exact .inr ⟨b,off,cap,rfl,fB e d.size,fun j x D=>by rw[d.cell (p:=⟨b,off+j,none⟩) e];exact A j x D⟩
theorem OwI.src {w:World} {B:Nat} {v:Value} {l:List Int} (h:OwI w B v l):tQ w v l:=by
 have d:=h.rd.open;obtain⟨a,cap,rfl,_,_,A⟩:=d;rcases h.2 with⟨e,D⟩|⟨g,F,G,e,_⟩
 ·grind [OwI,tQ]
 grind [OwI,tQ]
theorem aAe (w:World) (t:TypeId) (x:Int):tQ (w.alloc (.cells #[.int .i64 x] t)) (.slice (some ⟨w.heap.size,0,none⟩) 1 1) [x]:=
 .inr ⟨w.heap.size,0,1,rfl,by simp,fun j y d=>by grind [bX,tQ]⟩
theorem aAf {w:World} (A:TypeId) (base:Nat) (v:Value) (l:List Int) (G:OwI w base v l) (H:Value) (m:List Int) (M:tQ w H m) (O:(l.length+m.length)*8<=140737488355328) (I:base<=w.heap.size):
  ∃h w',(Builtin.append_ #[55,55] A #[v,H]).run pG w=.ok h w'/\OwI w' base h (l++m)/\Below base w w'/\w.grownBy w' v.ownBlock:=by
 obtain⟨i,J,T,U,V⟩:=jL.info;have Y:(bQ .i64 0).cells.size=1:=by rw[jL.cells];rfl
 have D:w.ownsRow base 3 1 v l.length (l.map (bQ .i64)):=by have:=G;unfold OwI Ow at this;rwa[aS] at this
 rcases M with⟨rfl,rfl⟩|⟨b,off,cap,rfl,_,Z⟩
 ·refine⟨v,w,run_append_owned_none (P:=pG) (w:=w) base _ A 3 i 1 jL.under J v l.length _ D,by rw[dI];exact G,aH _ _,⟨rfl,rfl,rfl,aD _,fun _ _ _=>rfl⟩⟩
 ·obtain⟨h,w',q1,q2,L,_⟩:=run_append_own (P:=pG) w base 55 A 3 i _ 1 8 jL.under J T U V Y (by decide) v l.length _ D ⟨b,off,none⟩ m.length cap (m.map (bQ .i64)) (by simp) (fun j u d=>by
    rw[List.getElem?_map] at d
    cases F:m[j]? with
    |none=>rw[F] at d;simp at d
    |some y=>
     rw[F] at d;simp at d;subst d;have e:(⟨b,off,none⟩:Addr).add j=⟨b,off+j,none⟩:=by unfold Addr.add;split<;>simp_all
     rw[e];exact Z j y F) (fun u d=>by obtain⟨y,_,rfl⟩:=eK.1 d;rfl) (by simp only[maxLen];omega) O I
  refine⟨h,w',q1,?_,rJ D L I,L⟩;unfold OwI Ow;rw[List.map_append,aL,aS,aS];exact q2
theorem JT {e:Array Oper} {rest:List Oper} {o:Oper} {a:Act} {Q:Exit->Act->World->Prop} {w:World} (A:o.guard=none) (s x:Operand)
  (D:o.op=.call {callee:=.builtin .append,args:=#[s,x],argTypes:=#[55,55]}) (base:Nat) (v:Value) (l:List Int) (hs:a.eval s=v) (hown:OwI w base v l)
  (sv:Value) (m:List Int) (hx:a.eval x=sv) (hsrc:tQ w sv m) (hroom:(l.length+m.length)*8<=140737488355328) (hbase:base<=w.heap.size)
  (h:∀d w',OwI w' base d (l++m)->Below base w w'->w.grownBy w' v.ownBlock->wpList pG e Q rest (a.put o.dst d) w'):wpList pG e Q (o::rest) a w:=by
 refine wpList_plain A fun K F=>?_
 obtain⟨d,w',G,H,I,J⟩:=aAf o.type base v l hown sv m hsrc hroom hbase;unfold Oper.wp execOp;simp only[D,resolve,invoke,builtin,Sem.run_bind,Sem.run_pure,Result.andThen_ok,List.map_toArray,List.map_cons,List.map_nil,hs,hx,G];exact F _ _ (h d w' H I J)
theorem RdI.dropS {w:World} {b off:Nat} {l:List Int} (d:∀j x,l[j]? =some x->w.cell? ⟨b,off+j,none⟩=some (.int .i64 x)) (k:Nat):∀j x,(l.drop k)[j]? =some x->w.cell? ⟨b,off+k+j,none⟩=some (.int .i64 x):=by grind
theorem aAg (m:Nat) (h:0<m):∃b:Nat,b<=1/\dig m=(b:Int)::dig ((m-1)/2)/\((m:Int)-1).tmod 2=(b:Int)/\((m:Int)-1)%2=(b:Int)/\(1:Int)-(m:Int).tmod 2=(b:Int)/\(1:Int)-(m:Int)%2=(b:Int)/\
  ((m:Int)-1).tdiv 2=(((m-1)/2:Nat):Int)/\((m:Int)-1)/2=(((m-1)/2:Nat):Int):=by
 obtain⟨p,rfl⟩:∃p,m=p+1:=⟨m-1,by omega⟩;refine⟨p%2,by omega,?_,?_,by omega,?_,by omega,?_,by omega⟩
 ·grind [JJ,dig]
 ·grind
 ·grind
 simp
theorem QC (n:Nat) (w:World) (U:n<=1000000):
  Calls pG 94 #[.int .i64 (n:Int)] w fun e w'=>∃v,e=.returned v/\OwI w' w.heap.size v (dig n)/\Below w.heap.size w w':=by
 go_enter func94,ntmps94;go_wp2_with fail
 go_loopg [3,4] n (fun H I J wr=>∃(m:Nat) (l:List Int),m<=n/\H=m/\J=.int .i64 m/\OwI wr w.heap.size I l/\Hid (l++dig m=dig n)/\l.length+m<=n/\Below w.heap.size w wr)
 case atStart=>exact⟨n,[],aD _,rfl,rfl,OwI.nil _ _,hid rfl,by simp,aH _ _⟩
 case round=>
  obtain⟨m,l,V,h,rfl,D,F,Y,d⟩:=hrel;have L:=hid h;clear h;rcases Nat.eq_zero_or_pos m with A|A
  ·subst A;go_wp2_with fail;go_ret;refine⟨_,rfl,?_,d⟩;have:=F.out;rw[uG,dI] at this;rw[<-this];exact D
  ·obtain⟨b,Z,G,_,_,e4,e5,e6,e7⟩:=aAg m A;have M:=hid G;clear G;have a0:=d.size;have s1:IntKind.i64.wrap ((m:Int)-1)=(m:Int)-1:=IntWalk.i64_in _ (by omega);go_wp2_with (at_builtin;refine gK rfl _ _ rfl w.heap.size _ _ rfl (D.alloc _) wr.heap.size (b:Int) rfl ?_ ?_ ?_ ?_;(exact bX _ _ _);omega;(simp;omega);intro v' w1 O T a1);have h:=L.out
   go_roundg ((m-1)/2)
   case measure=>omega
   case rel=>
    refine⟨(m-1)/2,l++[(b:Int)],by omega,rfl,by go_num,O,hid ?_,by simp;omega,(d.alloc d.size _).trans T⟩;rw[List.append_assoc,List.singleton_append,<-M.out];exact F.out
theorem aAh (v:Value) (l:List Int) (w:World) (A:RdI w v l) (G:∀x∈l,0<=x):
  Calls pG 93 #[v] w fun e w'=>e=.returned (.bool false)/\w'=w:=by
 obtain⟨a,O,rfl,T,H,D⟩:=A.open;unfold maxLen at H;clear A;go_enter func93,ntmps93;go_wp2_with fail
 go_loopg [3] l.length (fun I J wr=>∃k:Nat,k<=l.length/\I=l.length-k/\J=.int .i64 k/\wr=w)
 case atStart=>exact⟨0,aO _,rfl,rfl,rfl⟩
 case round=>
  obtain⟨k,U,d,rfl,rfl⟩:=hrel;have L:=hid d;clear d
  by_cases M:k<l.length
  ·obtain⟨V,Y,rfl,Z,F⟩:=D (by omega);obtain⟨x,h⟩:=eG M;have c1:=F k x h;have a0:=G x (cN h);have t1:decide (x<0)=false:=aE (by omega);clear F h D;go_wp2_with fail;have d:=L.out
   go_roundg (l.length-(k+1))
   case measure=>omega
   case rel=>exact⟨k+1,by omega,rfl,by go_num,rfl⟩
  ·go_wp2_with fail;go_ret;exact⟨rfl,rfl⟩
theorem OwI.setLow {w:World} {B:Nat} {v:Value} {l:List Int} (h:OwI w B v l) {p:Addr} (G:p.block<B) (x:Value):OwI (w.setCell p x) B v l:=by
 refine⟨h.1,?_⟩;rcases h.2 with d|⟨g,cap,A,rfl,D,F,rest⟩
 ·exact .inl d
 ·refine .inr ⟨g,cap,A,rfl,D,?_,rest⟩;rw[heap_setCell_other w p g x (fun e=>by omega)];exact F
def uJ (w:World) (b:Nat) (l:List Int):Prop:=∃v,Arr w b 285 [v]/\OwI w (b+1) v l
theorem uJ.lt {w:World} {b:Nat} {l:List Int} (h:uJ w b l):b<w.heap.size:=by obtain⟨v,h,_⟩:=h;exact h.lt
theorem uJ.below {w w':World} {b:Nat} {l:List Int} (h:uJ w b l) (d:Below w.heap.size w w'):uJ w' b l:=by
 have:=h.lt;obtain⟨v,e,A⟩:=h;exact⟨v,e.below d this,A.below d (aD _)⟩
theorem JU (b:Nat) (D:Value) (l m:List Int) (w:World) (F:uJ w b l) (H:tQ w D m) (I:(l.length+m.length)*8<=140737488355328):
  Calls pG 193 #[.pointer (some ⟨b,0,none⟩),D] w fun e w'=>e=.returned (.tuple #[])/\uJ w' b (l++m)/\Below b w w':=by
 have L:=F.lt;obtain⟨v,d,J⟩:=F;have M:=d.cell (i:=0) rfl;have O:=d.free 0;go_enter func193,ntmps193;go_wp2_with (at_builtin;refine JT rfl _ _ rfl (b+1) _ _ rfl J _ m rfl H I (by omega) ?_;intro T U h G V;(obtain⟨Y,Z,rfl,_,_,_⟩:=h.rd.open);(have A:=d.below G (by omega));(have c2:=A.cell (i:=0) rfl);(have f2:=A.free 0))
 go_end0
 rw[aL] at h;exact⟨rfl,⟨_,A.set 0 _,h.setLow (p:=⟨b,0,none⟩) (Nat.lt_succ_self b) _⟩,(G.mono (Nat.le_succ b)).setCell (p:=⟨b,0,none⟩) (aD _) _⟩
theorem DX {e:Array Oper} {rest:List Oper} {o:Oper} {a:Act} {Q:Exit->Act->World->Prop} {w:World} (A:o.guard=none) (s x:Operand)
  (D:o.op=.call {callee:=.builtin .append,args:=#[s,x],argTypes:=#[61,61]}) (base:Nat) (v:Value) (l:List UInt8) (hs:a.eval s=v) (hown:OwB w base v l)
  (g:Nat) (b:UInt8) (hx:a.eval x=.slice (some ⟨g,0,none⟩) 1 1) (hc:w.cell? ⟨g,0,none⟩=some (.int .u8 (b.toNat:Int))) (hroom:(l.length+1)*1<=140737488355328) (hbase:base<=w.heap.size)
  (h:∀d w',OwB w' base d (l++[b])->Below base w w'->w.grownBy w' v.ownBlock->wpList pG e Q rest (a.put o.dst d) w'):wpList pG e Q (o::rest) a w:=
 tM yU A s x D base v _ hs hown g _ hx hc rfl (by simpa using hroom) hbase (fun d w' F G H=>h d w' (by unfold OwB;rw[IY];exact F) G H)
def sO (s:List UInt8) (k c:Nat):Bool:=dZ (s.take k) c
theorem ZS (s:List UInt8) (k:Nat) (b:UInt8) (h:s[k]? =some b) (c:Nat):sO s (k+1) c=if c=b.toNat then true else sO s k c:=by grind [sO,dZ,cG,rD]
def gL (f:Nat->Bool):List Value:=(eT 256).map fun c=>.bool (f c)
theorem DY (f:Nat->Bool) (c:Nat) (h:c<256):(gL f)[c]? =some (.bool (f c)):=by simp[gL,h]
theorem aN8 (f e:Nat->Bool) (c:Nat) (v:Bool) (h:∀d,e d=if d=c then v else f d):(gL f).set c (.bool v)=gL e:=by
 apply lH
 grind [gL,DY]
theorem ZT:Tryz.zeroCells281=(gL (fun _=>false)).toArray:=by kernel_rfl
theorem PU (f:Nat->Bool):(gL f).toArray.size=256:=by simp[gL]
theorem BM (f:Nat->Bool):(pG.info? 281).map (·.size)=some (gL f).toArray.size:=by rw[PU];kernel_rfl
theorem zD:pG.underlying 281=some (.array 256 4):=by kernel_rfl
theorem ZU {w:World} {b:Nat} {e:TypeId} {l:List Value} (h:Arr w b e l) (d:l.length=256) (f:Nat->Bool):
  (storeCells ⟨b,0,none⟩ (gL f)).run pG w=.ok () (w.setRow b (gL f).toArray):=by
 have A:(gL f).length=256:=by simp[gL]
 have D:=run_storeCells_from (P:=pG) b e (gL f) 0 l.toArray w h (by simp[d,A]) (fun v F=>by obtain⟨c,_,rfl⟩:=eK.1 F;rfl);rw[D]
 congr 2
theorem DZ {B:Nat} {w w':World} (h:Below B w w') (g:Nat) (A:B<=g) (d:Array Value):Below B w (w'.setRow g d):=
 ⟨h.os,h.tape,h.output,by rw[size_setRow];exact h.size,fun k e=>(setRow_other w' g k d (by omega)).trans (h.block k e)⟩
theorem ZV (s:ByteArray) (w:World) (U:s.size<=140737488355328):
  Calls pG 190 #[.string s] w fun e w'=>e=.returned (.agg (gL (dZ s.data.toList)).toArray)/\Below w.heap.size w w':=by
 have F:=hid (show s.data.toList.length=s.size by simp);go_enter func190,ntmps190;go_wp2_with fail
 go_loopg [3,6] s.size (fun G _s3 H wr=>∃k:Nat,k<=s.size/\G=s.size-k/\H=.int .i64 k/\Arr wr w.heap.size 281 (gL (sO s.data.toList k))/\Below w.heap.size w wr)
 case atStart=>
  refine⟨0,aO _,rfl,rfl,?_,(aH _ _).alloc (aD _) _⟩;rw[ZT,show sO s.data.toList 0=fun _=>false from by funext c;simp[sO,dZ]];exact Arr.new w _ _
 case round=>
 obtain⟨k,V,h,rfl,d,A⟩:=hrel;have I:=hid h;clear h
 by_cases J:k<s.size
 ·have L:=s[k].toNat_lt;have Y:=d.cell (DY (sO s.data.toList k) s[k].toNat L);have Z:=d.free s[k].toNat;have M:=hid (ZS s.data.toList k s[k] (fW s k J));go_wp2_with fail;have h:=I.out
  go_roundg (s.size-(k+1))
  case measure=>omega
  case rel=>
   refine⟨k+1,by omega,rfl,by go_num,?_,A.setCell (p:=⟨w.heap.size,s[k].toNat,none⟩) (aD _) _⟩;have:=d.set s[k].toNat (.bool true);rwa[aN8 _ (sO s.data.toList (k+1)) _ true M.out] at this
 ·have O:k=s.size:=by omega
  subst O;have D:sO s.data.toList s.size=dZ s.data.toList:=by funext c;unfold sO;rw[cD (by rw[F.out];exact aD _)]
  rw[D] at d;clear D;go_wp2_with fail;refine wp_load_row 281 (.tmp 2) rfl w.heap.size rfl _ _ (0,0) (.array 256 4) d zD rfl (BM _) ?_;have a0:=ZU d (by simp[gL]) (dZ s.data.toList);go_wp2_with fail;have T:Arr (wr.setRow w.heap.size (gL (dZ s.data.toList)).toArray) w.heap.size 281 (gL (dZ s.data.toList)):=setRow_heap wr w.heap.size _ _ 281 (0,0) d;refine fM (results_cell_row rfl _ _ w.heap.size _ _ (0,0) (.array 256 4) rfl T zD rfl (BM _)) rfl ?_;exact⟨rfl,DZ A _ (aD _) _⟩
theorem aN9 (d:Array Value) (k:Nat) (e:k<256) (b:Bool) (h:d[k]? =some (.bool b)) (w:World):(rE 281 (.agg d) (.int .i64 (k:Int))).run pG w=.ok (.bool b) w:=by
 have A:(k:Int)<256:=by omega
 simp[rE,wW zD,asIntOf,e,part,isAgg,wW underlying4,h,Result.andThen]
theorem ZW {c:Nat} (h:c<256):(eA c).toNat=c:=by rw[UInt8.toNat_ofNat'];omega
theorem PV (s:ByteArray) (w:World) (V:s.size<=140737488355328):
  Calls pG 177 #[.string s] w fun e w'=>e=.returned (.string (mkS (bY s.data.toList)))/\Below w.heap.size w w':=by
 go_enter func177,ntmps177;go_wp2_with fail;refine(ZV s _ V).mono ?_;rintro e A ⟨rfl,Y⟩;obtain⟨d,D⟩:∃d,d=(gL (dZ s.data.toList)).toArray:=⟨_,rfl⟩;rw[<-D];have a4:d.size=256:=by rw[D];exact PU _
 have M:∀c,c<256->d[c]? =some (.bool (dZ s.data.toList c)):=fun c Z=>by rw[D];simpa using DY (dZ s.data.toList) c Z
 have a0:=hid M;clear D M;go_wp2_with fail
 go_loopg [3,4,5,8] 256 (fun gh s3 _s4 _s5 s8 wr=>∃k:Nat,k<=256/\gh=256-k/\s8=.int .i64 k/\OwB wr A.heap.size s3 (kL s.data.toList k)/\Below A.heap.size A wr)
 case atStart=>exact⟨0,by omega,rfl,rfl,Ow.nil _ _ _,aH _ _⟩
 case round=>
 obtain⟨k,hk,F,rfl,H,G⟩:=hrel;have O:=hid F;clear F
 by_cases I:k<256
 ·have t1:decide ((k:Int)<256)=true:=aG (by omega);have t2:(k:Int)<256:=by omega
  have g1:=a0.out k I;have T:(rE 281 (.agg d) (.int .i64 (k:Int))).run pG wr=.ok (.bool (dZ s.data.toList k)) wr:=aN9 d k I _ g1 wr;have g2:oQ.wrap (k:Int)=(k:Int):=by unfold IntKind.wrap;simp[IE,IF];omega
  have a5:=YI s.data.toList k;have a1:=G.size;have U:=hid (PD s.data.toList k);have e1:((eA k).toNat:Int)=(k:Int):=by rw[ZW I]
  by_cases h:dZ s.data.toList k=true
  ·rw[h] at T;have J:=hid h;clear h;go_wp2_with (at_builtin;refine DX rfl _ _ rfl A.heap.size _ _ rfl (H.alloc _) wr.heap.size (eA k) rfl ?_ ?_ ?_ ?_;(rw[e1];exact bX _ _ _);omega;(simp;omega);intro v' w3 a2 hB a6);have F:=O.out
   go_roundg (256-(k+1))
   case measure=>omega
   case rel=>
    refine⟨k+1,by omega,rfl,by go_num,?_,(G.alloc a1 _).trans hB⟩;have:=U.out;rw[aB J.out] at this;rw[this];exact a2
  ·have L:dZ s.data.toList k=false:=by simpa using h
   rw[L] at T;have J:=hid L;clear h L;go_wp2_with fail;have F:=O.out
   go_roundg (256-(k+1))
   case measure=>omega
   case rel=>
    refine⟨k+1,by omega,rfl,by go_num,?_,G⟩;have:=U.out;rw[aA (by rw[J.out];exact Bool.false_ne_true),dI] at this;rw[this];exact H
 ·have a3:k=256:=by omega
  subst a3;have a7:=mP H.rd;have HE:=hid (show kL s.data.toList 256=bY s.data.toList from rfl);go_wp2_with fail;go_ret;exact⟨yV (by rw[HE.out]),aW Y G⟩
theorem ZX (s:ByteArray) (c:Nat) (w:World) (T:s.size<=140737488355328) (_hc:c<256):
  Calls pG 89 #[.string s,.int .i64 (c:Int)] w fun e w'=>e=.returned (.bool (dZ s.data.toList c))/\w'=w:=by
 have G:=hid (show s.data.toList.length=s.size by simp);go_enter func89,ntmps89;go_wp2_with fail
 go_loopg [5] s.size (fun H I wr=>∃k:Nat,k<=s.size/\H=s.size-k/\I=.int .i64 k/\Hid (sO s.data.toList k c=false)/\w=wr)
 case atStart=>exact⟨0,aO _,rfl,rfl,hid rfl,rfl⟩
 case round=>
 obtain⟨k,U,h,rfl,D,rfl⟩:=hrel;have J:=hid h;clear h
 by_cases F:k<s.size
 ·have V:=s[k].toNat_lt;have L:=hid (ZS s.data.toList k s[k] (fW s k F) c)
  by_cases d:s[k].toNat=c
  ·have M:((s[k].toNat:Int)==(c:Int))=true:=by rw[beq_iff_eq];omega
   have A:=hid d;clear d;go_wp2_with fail;go_ret;refine⟨sJ ?_,rfl⟩;have O:s[k]∈s.data.toList:=cN (fW s k F);rw[<-A.out];exact((PC s.data.toList s[k]).2 O).symm
  ·have M:((s[k].toNat:Int)==(c:Int))=false:=by rw[cB];omega
   have A:=hid d;clear d;go_wp2_with fail;have h:=J.out
   go_roundg (s.size-(k+1))
   case measure=>omega
   case rel=>
    refine⟨k+1,by omega,rfl,by go_num,hid ?_,rfl⟩;rw[L.out,aA (fun e=>A.out e.symm)];exact D.out
 ·have Y:k=s.size:=by omega
  go_wp2_with fail;go_ret;refine⟨sJ ?_,rfl⟩;have:=D.out;unfold sO at this;rw[cD (by rw[G.out];omega)] at this;exact this.symm
theorem PX (s:ByteArray) (w:World) (L:s.size<=140737488355328):
  Calls pG 74 #[.string s] w fun e w'=>e=.returned (.string (mkS (bY s.data.toList)))/\Below w.heap.size w w':=by
 go_enter func74,ntmps74;go_wp2_with fail
 go_loopg [3,4] 256 (fun M O T wr=>∃k:Nat,k<=256/\M=256-k/\T=.int .i64 k/\OwB wr w.heap.size O (kL s.data.toList k)/\Below w.heap.size w wr)
 case atStart=>exact⟨0,by omega,rfl,rfl,Ow.nil _ _ _,aH _ _⟩
 case round=>
 obtain⟨k,hk,h,rfl,D,A⟩:=hrel;have H:=hid h;clear h
 by_cases I:k<256
 ·have t1:decide ((k:Int)<256)=true:=aG (by omega);have t2:(k:Int)<256:=by omega
  have g2:oQ.wrap (k:Int)=(k:Int):=by unfold IntKind.wrap;simp[IE,IF];omega
  have a1:=YI s.data.toList k;have U:=A.size;have J:=hid (PD s.data.toList k);have V:((eA k).toNat:Int)=(k:Int):=by rw[ZW I]
  go_wp2_with fail;refine(ZX s k _ L I).mono ?_;rintro e Y ⟨rfl,rfl⟩
  by_cases d:dZ s.data.toList k=true
  ·rw[d];have F:=hid d;clear d;go_wp2_with (at_builtin;refine DX rfl _ _ rfl w.heap.size _ _ rfl (D.alloc _) Y.heap.size (eA k) rfl ?_ ?_ ?_ ?_;(rw[V];exact bX _ _ _);omega;(simp;omega);intro v' w3 Z hB a2);have h:=H.out
   go_roundg (256-(k+1))
   case measure=>omega
   case rel=>
    refine⟨k+1,by omega,rfl,by go_num,?_,(A.alloc U _).trans hB⟩;have:=J.out;rw[aB F.out] at this;rw[this];exact Z
  ·have G:dZ s.data.toList k=false:=by simpa using d
   rw[G];have F:=hid G;clear d G;go_wp2_with fail;have h:=H.out
   go_roundg (256-(k+1))
   case measure=>omega
   case rel=>
    refine⟨k+1,by omega,rfl,by go_num,?_,A⟩;have:=J.out;rw[aA (by rw[F.out];exact Bool.false_ne_true),dI] at this;rw[this];exact D
 ·have a0:k=256:=by omega
  subst a0;have a3:=mP D.rd;have HE:=hid (show kL s.data.toList 256=bY s.data.toList from rfl);go_wp2_with fail;go_ret;exact⟨yV (by rw[HE.out]),A⟩
theorem aOq (x:Int):∀r:List Int,num (r++[x])=num r+2^r.length*(x.toNat+1):=by
 intro r
 induction r with
 |nil=>simp[num]
 |cons d r e=>
  rw[fF,num,e,num,aU,oP];have:2^r.length*2*(x.toNat+1)=2*(2^r.length*(x.toNat+1)):=by grind
  omega
theorem aOr:∀l:List Int,(∀x∈l,x<=1)->num l+2<=2^(l.length+1):=by
 intro l
 induction l with
 |nil=>intro _;simp[num]
 |cons d l e=>
  intro h;have D:=h d (by simp);have F:=e (fun x A=>h x (by simp[A]));rw[num,aU,oP];have:d.toNat<=1:=by omega
  omega
def qT (d:List Int):Int:=if num d<=1099511627776 then(num d:Int) else 0
def oB (d:List Int):Int:=if num d<=1099511627776 then 0 else 4
theorem aOs:(2:Nat)^42=4398046511104:=by decide
theorem aAj:(2:Nat)^43=8796093022208:=by decide
theorem aOt (v:Value) (d:List Int) (w:World) (hr:RdI w v d) (hd:∀x∈d,x=0\/x=1):
  Calls pG 125 #[v] w fun e w'=>e=.returned (.tuple #[.int .i64 (qT d),.int .i64 (oB d)])/\w'=w:=by
 obtain⟨a,ca,rfl,b2,a5,L⟩:=hr.open;unfold maxLen at a5;have T:=hid hd;clear hr hd;go_enter func125,ntmps125;go_wp2_with fail
 go_loopg [4] d.length (fun U s4 wr=>∃k:Nat,k<=d.length/\U=d.length-k/\s4=.int .i64 k/\w=wr)
 case atStart=>exact⟨0,aO _,rfl,rfl,rfl⟩
 case round=>
 obtain⟨k,hk,A,rfl,rfl⟩:=hrel;have F:=hid A;clear A
 by_cases a6:k<d.length
 ·obtain⟨b1,o1,rfl,a7,G⟩:=L (by omega);obtain⟨x,D⟩:=eG a6;have c1:=G k x D;have V:=T.out x (cN D);clear G L D;rcases V with rfl|rfl
  all_goals
   go_wp2_with fail;have A:=F.out
   go_roundg (d.length-(k+1))
   case measure=>omega
   case rel=>exact⟨k+1,by omega,rfl,by go_num,rfl⟩
 ·clear F;go_wp2_with fail
  go_loopg [5,6,7] d.length (fun U s5 s6 s7 wr=>∃i n p:Nat,i<=d.length/\i<=42/\U=d.length-i/\s7=.int .i64 i/\s5=.int .i64 n/\s6=.int .i64 p/\Hid (n=num (d.take i)/\p=2^i)/\n<=8796093022208/\p<=4398046511104/\w=wr)
  case atStart=>exact⟨0,0,1,aO _,by omega,rfl,rfl,rfl,rfl,hid ⟨by simp[num],rfl⟩,by omega,by omega,rfl⟩
  case round=>
  obtain⟨i,n,p,hi,b3,A,rfl,rfl,rfl,Y,hn,hp,rfl⟩:=hrel;have F:=hid A;clear A
  by_cases a8:i<d.length
  ·by_cases a1:i=42
   ·have Z:decide ((41:Int)<(i:Int))=true:=aG (by omega);have t2:(41:Int)<(i:Int):=by omega
    have a9:=hid a1;clear a1;go_wp2_with fail
    go_ret2
    have b4:=aMg d;have b0:2^43<=2^d.length:=nF (by decide) (by have:=a9.out;omega);rw[aAj] at b0;refine⟨?_,rfl⟩;unfold qT oB;rw[aA (by omega),aA (by omega)];rfl
   ·have Z:decide ((41:Int)<(i:Int))=false:=aE (by omega);have t2:(i:Int)<=41:=by omega
    obtain⟨b1,o1,rfl,a7,G⟩:=L (by omega);obtain⟨x,D⟩:=eG a8;have c1:=G i x D;have V:=T.out x (cN D);have a2:=hid (show num (d.take (i+1))=num (d.take i)+2^i*(x.toNat+1) by
     rw[cG,D,rD,aOq,aQ,Nat.min_eq_left hi])
    have a3:=hid (show num (d.take (i+1))<=8796093022208 by
     have h1:=aOr (d.take (i+1)) (fun y hy=>by rcases T.out y (List.mem_of_mem_take hy) with h|h<;>omega);have h2:(2:Nat)^((d.take (i+1)).length+1)<=2^43:=nF (by decide) (by rw[aQ];omega);rw[aAj] at h2;omega)
    have a4:=hid (show 2^(i+1)<=4398046511104 by rw[<-aOs];exact nF (by decide) (by omega));clear G L D;rcases V with rfl|rfl
    ·go_wp2_with fail;have A:=F.out
     go_roundg (d.length-(i+1))
     case measure=>omega
     case rel=>
      obtain⟨q1,I⟩:=Y.out;have J:=a2.out;have q4:=a3.out;have q5:=a4.out;rw[<-q1,<-I] at J;have q6:2^(i+1)=2*p:=by rw[I,oP];omega
      have q7:p*((0:Int).toNat+1)=p:=by simp
      rw[q7] at J;exact⟨i+1,n+p,2*p,by omega,by omega,rfl,by go_num,by go_num,by go_num,hid ⟨by omega,by omega⟩,by omega,by omega,rfl⟩
    ·go_wp2_with fail;have A:=F.out
     go_roundg (d.length-(i+1))
     case measure=>omega
     case rel=>
      obtain⟨q1,I⟩:=Y.out;have J:=a2.out;have q4:=a3.out;have q5:=a4.out;rw[<-q1,<-I] at J;have q6:2^(i+1)=2*p:=by rw[I,oP];omega
      have q7:p*((1:Int).toNat+1)=p*2:=by simp
      rw[q7] at J;exact⟨i+1,n+p*2,2*p,by omega,by omega,rfl,by go_num,by go_num,by go_num,hid ⟨by omega,by omega⟩,by omega,by omega,rfl⟩
  ·have a0:i=d.length:=by omega
   have M:n=num d:=by have:=Y.out.1;rw[a0,cD (aD _)] at this;exact this
   by_cases O:n<=1099511627776
   ·have Z:decide ((1099511627776:Int)<(n:Int))=false:=aE (by omega);have t2:(n:Int)<=1099511627776:=by omega
    have H:=hid M;clear M a0;go_wp2_with fail
    go_ret2
    refine⟨?_,rfl⟩;unfold qT oB;rw[<-H.out,aB O,aB O];rfl
   ·have Z:decide ((1099511627776:Int)<(n:Int))=true:=aG (by omega);have t2:(1099511627776:Int)<(n:Int):=by omega
    have H:=hid M;clear M a0;go_wp2_with fail
    go_ret2
    refine⟨?_,rfl⟩;unfold qT oB;rw[<-H.out,aA O,aA O];rfl
end
section
open Go.RowKit Go.Shelf
attribute [local go_sem] Oper.semAt_some
def bv (b:Bool):Int:=if b then 1 else 0
def sP {α:Type} (f:Nat->α) (k:Nat):List α:=(eT k).map f
theorem QD {α:Type} (f:Nat->α) (k:Nat):sP f (k+1)=sP f k++[f k]:=by simp[sP,wU]
theorem aOu {α:Type} (f:Nat->α) (k:Nat):(sP f k).length=k:=by simp[sP]
def bk (d:List Bool) (j:Nat):Nat×Bool:=(d.length-1-j,d[d.length-1-j]?.getD false)
def JV (x:Nat×Bool):Array Value:=#[bQ .i64 (x.1:Int),bQ .i64 (bv x.2)]
def KpB (e d:Nat) (A B:World):Prop:=Below e A B/\B.heap[d]? =A.heap[d]?
theorem JW {d e:Nat} {A B C:World} (h:KpB d e A B) (k:KpB d e B C):KpB d e A C:=⟨h.1.trans k.1,k.2.trans h.2⟩
theorem QE {D d:Nat} {w:World} (F:D<=w.heap.size) (J:d<w.heap.size) (W:World) (l:Nat) (o A:Obj) (G:w.heap.size<=l) (h:W.heap[l]? =some o) (H:o.isCells=false) (I:o.isWalk=false):KpB D d W (W.putObj l A):=
 ⟨belowK_b F W l o A G h H I,(grownBy_putObj' W l A).block d (by grind) (fun e=>by cases e;omega)⟩
theorem KpB.cell {e d:Nat} {A B:World} (h:KpB e d A B) (k:Nat):B.cell? ⟨d,k,none⟩=A.cell? ⟨d,k,none⟩:=World.cell?_of_block h.2
theorem aOv (F:Fence) (n:Nat) (U:F.fn 206) (V:F.round=none) (hn:1<=n) (l D H b off cap:Nat) (d:List Bool) (a4:d.length<=1000000) (Y:b<H) (J O:List (Nat×Bool)->World->Prop)
  (Z:∀h x W,J h W->h.length<d.length->YieldAt F (n-1) pG l (JV x) W fun e A=>
   (e=.returned (.bool true)/\J (h++[x]) A/\KpB H D W A)\/(e=.returned (.bool false)/\O (h++[x]) A))
  (W:World) (a0:W.cell? ⟨D,0,none⟩=some (.slice (some ⟨b,off,none⟩) d.length cap)) (hc:∀j,j<d.length->W.cell? ⟨b,off+j,none⟩=some (.int .i64 (bv (d[j]?.getD false)))) (h0:J [] W):
  iV F n pG 206 #[.func (.yield l) #[] #[],.pointer (some ⟨D,0,none⟩)] W fun e A=>(∃v,e=.returned v)/\
   ((∃T,T=sP (bk d) d.length/\J T A)\/(∃h,(∃k,k<=d.length/\h=sP (bk d) k)/\O h A)):=by
 refine pX func206 rfl U ?_ V;simp only[ntmps206,dB,aU,aV,cV,dC,jG,jH,jI,jJ,eL,fF]
 gi_wp2
 gi_loopw [3] (fun i wr=>∃q:Nat,q<=d.length/\i=.int .i64 ((q:Int)-1)/\J (sP (bk d) (d.length-q)) wr/\KpB H D W wr)
  (fun i _=>(intOf i+1).toNat)
 case atStart=>exact⟨d.length,aD _,rfl,by rw[Nat.sub_self];exact h0,aH _ _,rfl⟩
 case round=>
  obtain⟨q,hq,G,I,L⟩:=hrel
  cases q with
  |zero=>
   rw[show(((0:Nat):Int)-1)= -1 by omega] at G;subst G
   gi_wp2
   go_end0
   exact⟨⟨_,rfl⟩,.inl ⟨_,rfl,by rw[sD] at I;exact I⟩⟩
  |succ p=>
   rw[show(((p+1:Nat):Int)-1)=(p:Int) by omega] at G;subst G;have e1:d.length-1-(d.length-(p+1))=p:=by omega
   have a5:=(L.cell 0).trans a0;have a6:=(L.1.cell (p:=⟨b,off+p,none⟩) Y).trans (hc p (by omega));obtain⟨fn,tmps,assign,body,M,hR⟩:=Z _ (bk d (d.length-(p+1))) wr I (by rw[aOu];omega);unfold JV bk at M;dsimp only at M;rw[e1] at M
   gi_wp2
   refine hR.mono ?_;rintro e W3 (⟨rfl,a1,a2⟩|⟨rfl,a3⟩)
   ·gi_wp2
    go_roundw
    case rel=>exact⟨p,by omega,by go_num,by rw[show d.length-p=(d.length-(p+1))+1 by omega,QD];exact a1,JW L a2⟩
    case measure=>simp[intOf]
   ·gi_wp2
    refine fM (results_none rfl _ _ _) rfl ?_;exact⟨⟨_,rfl⟩,.inr ⟨_,⟨d.length-(p+1)+1,by omega,(QD _ _).symm⟩,a3⟩⟩
theorem aOw (F:Fence) (n:Nat) (h:F.fn 206) (A:F.round=none) (l d cap:Nat) (a:Option Addr) (J:List (Nat×Bool)->World->Prop) (W:World) (I:W.cell? ⟨d,0,none⟩=some (.slice a 0 cap)) (D:J [] W):
  iV F n pG 206 #[.func (.yield l) #[] #[],.pointer (some ⟨d,0,none⟩)] W fun e G=>(∃v,e=.returned v)/\J [] G:=by
 refine pX func206 rfl h ?_ A;simp only[ntmps206,dB,aU,aV,cV,dC,jG,jH,jI,jJ,eL,fF]
 gi_wp2
 gi_loopw [3] (fun i wr=>i=.int .i64 (-1)/\J [] wr) (fun _ _=>0)
 case atStart=>exact⟨rfl,D⟩
 case round=>
  obtain⟨rfl,H⟩:=hrel
  gi_wp2
  go_end0
  exact⟨⟨_,rfl⟩,H⟩
def EC (h:Nat) (W:World) (e:Value) (d:List Bool):Prop:=
 (∃a cap,e=.slice a 0 cap/\d=[])\/∃b off cap,e=.slice (some ⟨b,off,none⟩) d.length cap/\b<h/\∀j,j<d.length->W.cell? ⟨b,off+j,none⟩=some (.int .i64 (bv (d[j]?.getD false)))
theorem EC.below {d:Nat} {A B:World} (h:Below d A B) {D:Value} {F:List Bool}:EC d A D F->EC d B D F
 |.inl e=>.inl e
 |.inr ⟨b,off,cap,e,G,H⟩=>.inr ⟨b,off,cap,e,G,fun j I=>(h.cell (p:=⟨b,off+j,none⟩) G).trans (H j I)⟩
theorem aOx (F:Fence) (n:Nat) (D:F.fn 206) (G:F.round=none) (O:1<=n) (h A:Nat) (H:Value) (d:List Bool) (T:d.length<=1000000) (w:World) (U:h<w.heap.size) (V:A<=w.heap.size)
  (Y:w.cell? ⟨h,0,none⟩=some H) (Z:EC A w H d):
  SeqStopsK F n pG 206 #[.pointer (some ⟨h,0,none⟩)] JV (KpB A h) (fun ys=>ys=sP (bk d) d.length)
   (fun a0=>∃k,k<=d.length/\a0=sP (bk d) k) d.length w:=fun l J Jx W I _ _ hY L=>by
 have M:=(I.cell (p:=⟨h,0,none⟩) U).trans Y;rcases Z.below (I.mono V) with⟨a,cap,rfl,rfl⟩|⟨b,off,cap,rfl,hb,a1⟩
 ·exact(aOw F n D G l h cap a J W M L).mono fun e W' ⟨he,hj⟩=>⟨he,.inl ⟨_,rfl,hj⟩⟩
 ·exact aOv F n D G O l h A b off cap d T hb J Jx hY W M a1 L
theorem aOy (F:Fence) (n:Nat) (h:F.fn 205) (A:F.round=none) (a:Option Addr) (d cap:Nat) (w:World):
  iV F n pG 205 #[.slice a d cap] w fun e w'=>e=.returned (.func (.func 206) #[] #[.pointer (some ⟨w.heap.size,0,none⟩)])/\w'=w.alloc (.cells #[.slice a d cap] 55):=by
 refine pX func205 rfl h ?_ A;simp only[ntmps205,dB,aU,aV,cV,dC,jG,jH,jI,jJ,eL,fF]
 gi_wp2
 go_ret;exact⟨rfl,rfl⟩
end
section
open Go.RowKit
def iY (n:Nat) (o:Nat->Int):List Int:=(eT n).map o
theorem qE (n:Nat) (o:Nat->Int):(iY n o).length=n:=by simp[iY]
theorem BP (n:Nat) (o:Nat->Int) (k:Nat) (h:k<n):(iY n o)[k]? =some (o k):=by simp[iY,h]
theorem aAp (l:List Int):iY l.length (fun k=>l.getD k 0)=l:=by
 apply lH
 grind [BP,qE,iY]
theorem Dat.other {w:World} {g cap n:Nat} {f:Nat->Int} (h:Dat w g cap n f) (p:Addr) (d:p.block≠g) (v:Value):Dat (w.setCell p v) g cap n f:=by
 obtain⟨A,h,D⟩:=h;exact⟨A,by rw[Below.heap_setCell w p v g (fun e=>d e.symm)];exact h,D⟩
def cQ (s:ByteArray) (i:Nat):Nat:=(s.data.toList.getD (i%s.size) 0).toNat
theorem xI (s:ByteArray):Cyc (cQ s) s.size:=by simp[cQ,Cyc]
def rot (s:ByteArray) (k:Nat):List UInt8:=s.data.toList.drop k++s.data.toList.take k
theorem EE (s:ByteArray) (k:Nat) (h:k<=s.size):(rot s k).length=s.size:=by
 simp[rot];omega
theorem QH (s:ByteArray) (k i:Nat) (A:k<s.size) (D:i<s.size):(rot s k)[i]? =some (s.data.toList.getD ((k+i)%s.size) 0):=by
 have d:s.data.toList.length=s.size:=by simp
 unfold rot;rcases Nat.lt_or_ge i (s.size-k) with h|h
 ·grind [List.getElem?_append_left,bA,jT,List.getD,aN,rot]
 ·rw[List.getElem?_append_right (by grind),bA,List.getElem?_take_of_lt (by omega),d];have e:(k+i)%s.size=i-(s.size-k):=by
   rw[Nat.mod_eq_sub_mod (by omega),jT (by omega)];omega
  grind
theorem QI (s:ByteArray) (k:Nat):s.extract k s.size++s.extract 0 k=mkS (rot s k):=by
 rw[iW,iW,sI];unfold rot;rw[List.drop_zero,sD,cD (by simp)]
theorem aPt (s:ByteArray) (k:Nat) (w:World) (h:s.size<=1000000) (A:k<=s.size):
  Calls pG 91 #[.string s,.int .i64 (k:Int)] w fun e w'=>e=.returned (.string (mkS (rot s k)))/\Below w.heap.size w w':=by
 have e:=QI s k;have d:=hid e;clear e;go_enter func91,ntmps91;go_wp2
 go_quiet (fail)
 go_wp2;go_ret;exact⟨yV d.out,kY (aH _ _) _⟩
def eM (s:ByteArray) (o:Nat->Int) (k:Nat):List UInt8:=(eT k).map (fun i=>s.data.toList.getD (((o i).toNat+(s.size-1))%s.size) 0)
theorem xJ (s:ByteArray) (o:Nat->Int) (k:Nat):(eM s o k).length=k:=by simp[eM]
theorem QJ (s:ByteArray) (o:Nat->Int) (k:Nat):eM s o (k+1)=eM s o k++[s.data.toList.getD (((o k).toNat+(s.size-1))%s.size) 0]:=by simp[eM,wU]
def gX (o:Nat->Int):Nat->Nat
 |0=>0
 |k+1=>if o k=0 then k else gX o k
theorem aAr (o:Nat->Int):∀k,gX o k<=k:=by
 intro k
 induction k with
 |zero=>exact aD _
 |succ k d=>
   unfold gX;by_cases h:o k=0
   ·grind
   ·grind
end
end Go.Proofs.YtfplbbphficcjaaGreatDoor
