/-
  Texts put together (part 2): the walks and the plain laws on which the statement stands.
-/
import Derived.Deep.RegionHeld
import Derived.Deep.RegionWith
import Derived.Deep.DeepCutAuto
import Derived.Shelf.Strings.Builder1
import Derived.Shelf.Small.Bits
import Derived.Shelf.Small.Wraps
import Derived.Shelf.Strings.BuilderF
import Derived.Shelf.Strings.BuilderK
import Derived.Shelf.Strconv.Itoa0
import Derived.Shelf.Strings.Prefix
import Derived.Shelf.Slices.Turned
import Derived.Shelf.SlSortCmp.SmallK
import Derived.Ground.SlsfProg
import Derived.Test.YtfckbfofgeilgaaGreatDoorProg
import Derived.Deep.RegionHeld3
import Derived.StillTailTactics
import Derived.Shelf.Abstract
import Derived.Test.YtfckbfofgeilgaaGreatDoorZ1
set_option maxRecDepth 100000
set_option maxHeartbeats 12800000
set_option linter.unusedVariables false
set_option linter.unusedSimpArgs false
open Go.Proofs.Tryz
open Go.Proofs.Tryz renaming prog->pG
open Bool renaming and_eq_true->DF
open Go renaming Program->fO,run_underlying->wW
open Go.Instr renaming index->rE
open Go.IntKind renaming bits->IF,signed->IE,u8->oQ
open Go.Region renaming Mode->bKj
open Go.RowKit.Below renaming refl->aH
open Go.Value renaming int->bQ
open Int renaming eq_ofNat_of_zero_le->WL
open List renaming append_nil->dI,getElem?_eq_getElem->aN,length_append->aL,length_map->aS,mem_map->eK,mem_of_getElem?->cN,replicate->aX,take_add_one->cG,take_of_length_le->cD
open Nat renaming le_refl->aD,lt_of_lt_of_le->fB,zero_le->aO
open Option.some renaming inj->cC
open UInt8 renaming ofNat->eA
namespace Go.Proofs.YtfckbfofgeilgaaGreatDoor
open Go
theorem ex1 {α:Sort _} (e:α):∃x,x=e:=⟨e,rfl⟩
theorem mV (s:ByteArray):s.data.toList.length=s.size:=by simp
abbrev wpL (_:List Nat) (P:fO) (md:bKj) (d:Array Oper) (Q:Exit->Act->World->Prop) (S:World->Prop) (e:Nat) (A:Array Bool) (a:Act) (w:World):Prop:=wpAnyH P md d Q S e A a w
theorem bKf {P:fO} {d:Array Oper} {Q:Exit->Act->World->Prop} {md:bKj} {S:World->Prop} {e:Nat} {A:Array Bool} {a:Act} {w:World} (D:List Nat) (h:wpL D P md d Q S e A a w):wpAnyH P md d Q S e A a w:=h
theorem bKg {P:fO} {d:Array Oper} {Q:Exit->Act->World->Prop} {md:bKj} {S:World->Prop} {i:Nat} {F:List Nat} {e:Oper} {v:Value} {G:Nat} {A:Array Bool} {a:Act} {w:World}
  (I:d[i]? =some e) (D:(Region.noSelect d&&Region.free md d A i&&(Region.ready md d A).contains i)=true)
  (J:∀c a w,Q (.panic c) (a.put e.dst v) w->Q (.panic c) a w) (L:YieldsIf P d S e v a) (M:S w)
  (h:wpL F P md d Q S G (A.setIfInBounds i true) (a.put e.dst v) w):wpL (i::F) P md d Q S (G+1) A a w:=by
 rw[DF,DF] at D;exact wpAnyH_take I D.1.1 D.1.2 D.2 J L M h
end Go.Proofs.YtfckbfofgeilgaaGreatDoor
namespace Go.Proofs.YtfckbfofgeilgaaGreatDoor
open Go.RowKit
theorem aW {a b c:World} (h:Below a.heap.size a b) (k:Below b.heap.size b c):Below a.heap.size a c:=h.trans (k.mono h.size)
theorem bD {a b:World} (h:Below a.heap.size a b) (o:Obj):Below a.heap.size a (b.alloc o):=h.alloc h.size o
def cK (c n:Int):Int:=(if c<0 then-(c+1) else c)%n
theorem lN (c n:Int) (h:1<=n):0<=cK c n/\cK c n<n:=⟨Int.emod_nonneg _ (by omega),Int.emod_lt_of_pos _ (by omega)⟩
theorem BE (n:Nat) (k:Int) (d:0<=k):∃m:Nat,(if k<(n:Int) then k else(n:Int))=(m:Int)/\(m:Int)<=k/\m<=n:=by
 by_cases h:k<(n:Int)
 ·obtain⟨m,rfl⟩:=WL d
  grind
 grind
def Dat (w:World) (g cap n:Nat) (f:Nat->Int):Prop:=
 ∃d:Array Value,w.heap[g]? =some (.cells d 3 (0,0))/\d.size=cap/\n<=cap/\∀k,k<n->d[k]? =some (.int .i64 (f k))
theorem Dat.lt {w:World} {g cap n:Nat} {f:Nat->Int} (h:Dat w g cap n f):g<w.heap.size:=by grind [Dat]
theorem Dat.cell {w:World} {g cap n:Nat} {f:Nat->Int} (h:Dat w g cap n f) {k:Nat} (d:k<n):w.cell? ⟨g,k,none⟩=some (.int .i64 (f k)):=by
 obtain⟨A,h,_,_,e⟩:=h;rw[cell_of_row w g k _ _ (0,0) h];exact e k d
theorem Dat.free {w:World} {g cap n:Nat} {f:Nat->Int} (h:Dat w g cap n f) (k:Nat):w.frozen? ⟨g,k,none⟩=false:=by
 obtain⟨d,h,_⟩:=h;exact frozen_of_row w g k _ _ h
theorem Dat.set {w:World} {g cap n:Nat} {f:Nat->Int} (h:Dat w g cap n f) (k:Nat) (x:Int):Dat (w.setCell ⟨g,k,none⟩ (.int .i64 x)) g cap n (iX f k x):=by
 obtain⟨d,h,e,A,D⟩:=h;refine⟨d.setIfInBounds k (.int .i64 x),heap_setCell_same w g k _ _ _ h,by simpa using e,A,fun j F=>?_⟩
 grind [iX,Dat]
theorem Dat.grown {w w':World} {g cap n:Nat} {f:Nat->Int} {row:Option Nat} (h:Dat w g cap n f) (d:w.grownBy w' row) (e:some g≠row):Dat w' g cap n f:=by
 have A:=h.lt;obtain⟨D,h,F⟩:=h;exact⟨D,by rw[d.block g A e];exact h,F⟩
theorem Dat.below {w w':World} {g cap n B:Nat} {f:Nat->Int} (h:Dat w g cap n f) (d:Below B w w') (e:g<B):Dat w' g cap n f:=by
 obtain⟨A,h,D⟩:=h;exact⟨A,by rw[d.block g e];exact h,D⟩
theorem Dat.drewN {w:World} {g cap n:Nat} {f:Nat->Int} (h:Dat w g cap n f) (k:Nat):Dat (w.drewN k) g cap n f:=h
theorem Dat.drew {w:World} {g cap n:Nat} {f:Nat->Int} (h:Dat w g cap n f):Dat w.drew g cap n f:=h
theorem eU {a b c:World} {row:Option Nat} (h:a.grownBy b row) (k:b.grownBy c row):a.grownBy c row:=
 ⟨k.os.trans h.os,k.tape.trans h.tape,k.output.trans h.output,Nat.le_trans h.size k.size,fun i d e=>(k.block i (fB d h.size) e).trans (h.block i d e)⟩
theorem gD (a:World) (g k:Nat) (v:Value):a.grownBy (a.setCell ⟨g,k,none⟩ v) (some g):=
 ⟨rfl,rfl,rfl,by simp,fun i _ d=>Below.heap_setCell _ _ _ _ (fun e=>d (by rw[e]))⟩
theorem qP {a b:World} {row:Option Nat} (h:a.grownBy b row):a.grownBy b.drew row:=⟨h.os,h.tape,h.output,h.size,h.block⟩
def InR (n:Nat) (f:Nat->Int):Prop:=∀k,k<n->0<=f k/\f k<(n:Int)
theorem InR.from {n a b:Nat} {f g:Nat->Int} (h:InR n f) (d:b<=n) (p:lO a b f g):InR n g:=fun k e=>by
 by_cases A:a<=k/\k<b
 ·grind [InR,lO]
 grind [InR,lO]
end Go.Proofs.YtfckbfofgeilgaaGreatDoor
namespace Go.Proofs
open Go.Shelf
def Tryz.lays125_ren:Go.Shelf.Ren:=⟨fun|125=>161|128=>189|129=>190|n=>n,fun|46=>213|3=>3|51=>87|53=>73|4=>4|5=>5|9=>9|n=>n,fun|n=>n⟩
theorem Tryz.lays125:Go.Proofs.Lays.n125 pG Tryz.lays125_ren:={
 mixed:=by kernel_rfl
 f125:=func161.trans (congrArg some (by kernel_rfl))
 f128:=func189.trans (congrArg some (by kernel_rfl))
 f129:=func190.trans (congrArg some (by kernel_rfl))
 t3:=underlying3
 a3:=Tryz.isAgg3
 z3:=Tryz.sizeOf3
 v3:=Tryz.zeroValue3
 t4:=underlying4
 a4:=Tryz.isAgg4
 z4:=Tryz.sizeOf4
 v4:=Tryz.zeroValue4
 t5:=underlying5
 a5:=Tryz.isAgg5
 z5:=Tryz.sizeOf5
 v5:=Tryz.zeroValue5
 t9:=underlying9
 a9:=Tryz.isAgg9
 z9:=Tryz.sizeOf9
 v9:=Tryz.zeroValue9
 t46:=underlying213
 a46:=Tryz.isAgg213
 z46:=Tryz.sizeOf213
 v46:=Tryz.zeroValue213
 t51:=underlying87
 a51:=Tryz.isAgg87
 z51:=Tryz.sizeOf87
 v51:=Tryz.zeroValue87
 t53:=underlying73
 a53:=Tryz.isAgg73
 z53:=Tryz.sizeOf73
 v53:=Tryz.zeroValue73}
theorem Tryz.bits_Len (x:Int) (w:World) (d:0<=x) (A:x<=18446744073709551615):
  Calls pG 161 #[.int .u64 x] w fun e w'=>e=.returned (.int .i64 (Lib.bitLen x.toNat))/\w'=w:=Any.bits_Len Tryz.lays125 x w d A
def Tryz.lays122_ren:Go.Shelf.Ren:=⟨fun|122=>101|215=>136|n=>n,fun|3=>3|4=>4|n=>n,fun|n=>n⟩
theorem Tryz.lays122:Go.Proofs.Lays.n122 pG Tryz.lays122_ren:={
 mixed:=by kernel_rfl
 f122:=func101.trans (congrArg some (by kernel_rfl))
 f215:=func136.trans (congrArg some (by kernel_rfl))
 t3:=underlying3
 a3:=Tryz.isAgg3
 z3:=Tryz.sizeOf3
 v3:=Tryz.zeroValue3
 t4:=underlying4
 a4:=Tryz.isAgg4
 z4:=Tryz.sizeOf4
 v4:=Tryz.zeroValue4}
open Go.RowKit in
theorem Tryz.cmp_Compare_int (x y:Int) (w:World):
  Calls pG 101 #[.int .i64 x,.int .i64 y] w fun e w'=>e=.returned (.int .i64 (Lib.compareInt x y))/\w'=w:=Any.cmp_Compare_int Tryz.lays122 x y w
def Tryz.sortHeld_ren:Go.Shelf.Ren:=⟨fun|6=>134|15=>161|14=>160|28=>189|29=>190|20=>181|21=>182|22=>183|23=>184|24=>185|25=>186|26=>187|27=>188|46=>212|47=>213|48=>214|49=>215|50=>216|57=>239|n=>n,fun|22=>35|24=>113|25=>182|3=>3|39=>213|0=>0|53=>87|55=>73|4=>4|46=>300|45=>299|50=>304|5=>5|9=>9|66=>328|70=>332|76=>366|77=>51|n=>n,fun|n=>n⟩
theorem Tryz.sortHeld:Go.Proofs.SlLaysF0.n6 pG Tryz.sortHeld_ren:={
 mixed:=by kernel_rfl
 f6:=⟨f134.name,by decide,func134.trans (congrArg some (by kernel_rfl))⟩
 f14:=⟨f160.name,by decide,func160.trans (congrArg some (by kernel_rfl))⟩
 f15:=func161.trans (congrArg some (by kernel_rfl))
 f20:=⟨f181.name,by decide,func181.trans (congrArg some (by kernel_rfl))⟩
 f21:=⟨f182.name,by decide,func182.trans (congrArg some (by kernel_rfl))⟩
 f22:=⟨f183.name,by decide,func183.trans (congrArg some (by kernel_rfl))⟩
 f23:=⟨f184.name,by decide,func184.trans (congrArg some (by kernel_rfl))⟩
 f24:=⟨f185.name,by decide,func185.trans (congrArg some (by kernel_rfl))⟩
 f25:=⟨f186.name,by decide,func186.trans (congrArg some (by kernel_rfl))⟩
 f26:=⟨f187.name,by decide,func187.trans (congrArg some (by kernel_rfl))⟩
 f27:=⟨f188.name,by decide,func188.trans (congrArg some (by kernel_rfl))⟩
 f28:=func189.trans (congrArg some (by kernel_rfl))
 f29:=func190.trans (congrArg some (by kernel_rfl))
 f46:=⟨f212.name,by decide,func212.trans (congrArg some (by kernel_rfl))⟩
 f47:=func213.trans (congrArg some (by kernel_rfl))
 f48:=func214.trans (congrArg some (by kernel_rfl))
 f49:=⟨f215.name,by decide,func215.trans (congrArg some (by kernel_rfl))⟩
 f50:=⟨f216.name,by decide,func216.trans (congrArg some (by kernel_rfl))⟩
 f57:=⟨f239.name,by decide,func239.trans (congrArg some (by kernel_rfl))⟩
 t0:=underlying0
 a0:=Tryz.isAgg0
 z0:=Tryz.sizeOf0
 v0:=Tryz.zeroValue0
 t3:=underlying3
 a3:=Tryz.isAgg3
 z3:=Tryz.sizeOf3
 v3:=Tryz.zeroValue3
 t4:=underlying4
 a4:=Tryz.isAgg4
 z4:=Tryz.sizeOf4
 v4:=Tryz.zeroValue4
 t5:=underlying5
 a5:=Tryz.isAgg5
 z5:=Tryz.sizeOf5
 v5:=Tryz.zeroValue5
 t9:=underlying9
 a9:=Tryz.isAgg9
 z9:=Tryz.sizeOf9
 v9:=Tryz.zeroValue9
 t22:=underlying35
 a22:=Tryz.isAgg35
 z22:=Tryz.sizeOf35
 v22:=Tryz.zeroValue35
 t25:=underlying182
 a25:=Tryz.isAgg182
 z25:=Tryz.sizeOf182
 v25:=Tryz.zeroValue182
 t39:=underlying213
 a39:=Tryz.isAgg213
 z39:=Tryz.sizeOf213
 v39:=Tryz.zeroValue213
 t45:=underlying299
 a45:=Tryz.isAgg299
 z45:=Tryz.sizeOf299
 v45:=Tryz.zeroValue299
 t46:=underlying300
 a46:=Tryz.isAgg300
 z46:=Tryz.sizeOf300
 v46:=Tryz.zeroValue300
 t50:=underlying304
 a50:=Tryz.isAgg304
 z50:=Tryz.sizeOf304
 v50:=Tryz.zeroValue304
 t53:=underlying87
 a53:=Tryz.isAgg87
 z53:=Tryz.sizeOf87
 v53:=Tryz.zeroValue87
 t55:=underlying73
 a55:=Tryz.isAgg73
 z55:=Tryz.sizeOf73
 v55:=Tryz.zeroValue73
 t66:=underlying328
 a66:=Tryz.isAgg328
 z66:=Tryz.sizeOf328
 v66:=Tryz.zeroValue328
 t70:=underlying332
 a70:=Tryz.isAgg332
 z70:=Tryz.sizeOf332
 v70:=Tryz.zeroValue332
 t76:=underlying366
 a76:=Tryz.isAgg366
 z76:=Tryz.sizeOf366
 v76:=Tryz.zeroValue366
 t77:=underlying51
 a77:=Tryz.isAgg51
 z77:=Tryz.sizeOf51
 v77:=Tryz.zeroValue51}
end Go.Proofs
namespace Go.Proofs.YtfckbfofgeilgaaGreatDoor
open Go.RowKit
theorem kY {B:Nat} {a b:World} (h:Below B a b) (n:Nat):Below B a (b.drewN n):=⟨h.os,h.tape,h.output,h.size,h.block⟩
end Go.Proofs.YtfckbfofgeilgaaGreatDoor
namespace Go.Proofs.YtfckbfofgeilgaaGreatDoor
open Go.RowKit Go.Shelf
def ZP (w0:World) (g:Nat) (d:Array Value) (p:Int->Bool) (l:List Int):Prop:=
 ∀W,Below w0.heap.size w0 W->∀x∈l,Calls pG g (#[bQ .i64 x]++d) W fun e A=>e=.returned (.bool (p x))/\A=W
theorem ZQ (g:Nat) (I:Array Value) (p:Int->Bool) (v:Value) (l:List Int) (w:World) (J:RdI w v l) (A:Enters pG g) (L:ZP w g I p l):
  Calls pG 243 #[v,.func (.func g) #[] I] w fun e w'=>e=.returned (.int .i64 (iR p l))/\w'=w:=by
 obtain⟨a,ca,rfl,a1,V,M⟩:=J.open;unfold maxLen at V;clear J;have Y:=hid L;have hE:∀args W,(callFunc g args).run pG W=.ok (.enter g args) W:=A;clear L A;go_enter func243,ntmps243;go_wp2_with fail
 go_loopg [8] l.length (fun Z s8 wr=>∃k:Nat,k<=l.length/\Z=l.length-k/\s8=.int .i64 k/\Hid (∀x∈l.take k,p x=false)/\wr=w)
 case atStart=>exact⟨0,aO _,rfl,rfl,hid (fun x D=>by simp at D),rfl⟩
 case round=>
  obtain⟨k,hk,A,rfl,HT,rfl⟩:=hrel;have HG:=hid A;clear A
  by_cases F:k<l.length
  ·obtain⟨b1,o1,rfl,a2,O⟩:=M (by omega);obtain⟨x,D⟩:=eG F;have c1:=O k x D;have a0:x∈l:=cN D;have R:=hid D;have hP:=Y.out _ (aH _ wr) x a0;clear O D M;go_wp2_with fail;refine hP.mono ?_;rintro e w1 ⟨rfl,rfl⟩
   by_cases G:p x=true
   ·rw[G];go_wp2_with fail;go_ret;refine⟨eI ?_,rfl⟩;rw[JD HT.out F (by have:=R.out;rw[aN F] at this;rw[cC this];exact G)]
   ·have U:p x=false:=by simpa using G
    rw[U];go_wp2_with fail;have A:=HG.out
    go_roundg (l.length-(k+1))
    ·
     refine⟨k+1,by omega,rfl,by go_num,hid (fun y d=>?_),rfl⟩;rw[cG,R.out] at d;rcases List.mem_append.1 d with d|d
     ·exact HT.out y d
     ·simp at d;rw[d];exact U
    ·omega
  ·go_wp2_with fail;go_ret;exact⟨eI (by rw[sK];have:=HT.out;rwa[cD (by omega)] at this),rfl⟩
theorem zC (g:Nat) (d:Array Value) (p:Int->Bool) (v:Value) (l:List Int) (w:World) (A:RdI w v l) (D:Enters pG g) (F:ZP w g d p l):
  Calls pG 230 #[v,.func (.func g) #[] d] w fun e w'=>e=.returned (.bool (decide (0<=iR p l)))/\w'=w:=by
 have G:=hid (ZQ g d p v l w A D F);obtain⟨i,I⟩:=ex1 (iR p l);rw[<-I] at G ⊢;clear A D F I;go_enter func230,ntmps230;go_wp2_with fail;refine G.out.mono ?_;rintro e J ⟨rfl,rfl⟩;go_wp2_with fail;go_ret;exact⟨rfl,rfl⟩
theorem aN3 (x:Int) (w:World):Calls pG 253 #[.int .i64 x] w fun e w'=>e=.returned (.bool (decide (x<0)))/\w'=w:=by
 go_enter func253,ntmps253;go_wp2;go_ret;exact⟨rfl,rfl⟩
theorem aN4 (x t:Int) (b:Addr) (w:World) (d:w.cell? b=some (.int .i64 t)):Calls pG 254 #[.int .i64 x,.pointer (some b)] w fun e w'=>e=.returned (.bool (decide (t<x)))/\w'=w:=by
 go_enter func254,ntmps254;go_wp2;go_ret;exact⟨rfl,rfl⟩
theorem aN5 (x:Int) (w:World):Calls pG 255 #[.int .i64 x] w fun e w'=>e=.returned (.bool (!(x==0)&& !(x==1)))/\w'=w:=by
 by_cases d:x=0
 ·subst d;go_enter func255,ntmps255;go_wp2;go_ret;exact⟨rfl,rfl⟩
 ·have D:(x != 0)=true:=by rw[bne_iff_ne];exact d
  by_cases A:x=1
  ·subst A;go_enter func255,ntmps255;go_wp2;go_ret;exact⟨rfl,rfl⟩
  ·have F:(x != 1)=true:=by rw[bne_iff_ne];exact A
   go_enter func255,ntmps255;go_wp2;go_ret;exact⟨sJ (by simp[d,A]),rfl⟩
theorem PT (v:Value) (l:List Int) (w:World) (d:RdI w v l):
  Calls pG 244 #[v] w fun e w'=>e=.returned (.bool (decide (0<=iR (fun x=>decide (x<0)) l)))/\w'=w:=by
 have A:=hid (zC 253 #[] (fun x=>decide (x<0)) v l w d (enters_of func253 (by kernel_rfl) rfl) (fun W _ x _=>aN3 x W));obtain⟨i,D⟩:=ex1 (decide (0<=iR (fun x=>decide (x<0)) l));rw[<-D] at A ⊢;clear D d;go_enter func244,ntmps244;go_wp2_with fail;refine A.out.mono ?_;rintro e F ⟨rfl,rfl⟩;go_wp2_with fail;go_ret;exact⟨rfl,rfl⟩
def gR (t:Int) (l:List Int):Nat:=l.findIdx (fun x=>decide (t<x))
theorem aN6 (t:Int):∀l:List Int,(if iR (fun x=>decide (t<x)) l<0 then(l.length:Int) else iR (fun x=>decide (t<x)) l)=(gR t l:Int):=by
 intro l
 induction l with
 |nil=>rfl
 |cons x l d=>
  unfold gR at d ⊢;rw[iR,List.findIdx_cons]
  by_cases e:t<x
  ·simp[e]
  ·grind
theorem BK (t:Int) (l:List Int):gR t l<=l.length:=List.findIdx_le_length
theorem DW (t:Int) (l:List Int):∀x∈l.take (gR t l),¬t<x:=by grind [List.mem_iff_getElem,List.length_take,List.not_of_lt_findIdx,gR]
theorem BL (t:Int) (l:List Int) {x:Int} (h:l[gR t l]? =some x):t<x:=by grind [gR]
theorem ZR (v:Value) (l:List Int) (t:Int) (w:World) (d:RdI w v l):
  Calls pG 246 #[v,.int .i64 t] w fun e w'=>e=.returned (.int .i64 ((gR t l:Nat):Int))/\Below w.heap.size w w':=by
 have A:=aN6 t l;have D:=hid (ZQ 254 #[.pointer (some ⟨w.heap.size,0,none⟩)] (fun x=>decide (t<x)) v l (w.alloc (.cells #[.int .i64 t] 3)) (d.below ((aH _ _).alloc (aD _) _)) (enters_of func254 (by kernel_rfl) rfl)
  (fun W I x _=>aN4 x t ⟨w.heap.size,0,none⟩ W (by rw[I.cell (p:=⟨w.heap.size,0,none⟩) (by simp)];exact bX _ _ _)))
 obtain⟨a,M,rfl,O,J,L⟩:=d.open;obtain⟨i,F⟩:=ex1 (iR (fun x=>decide (t<x)) l);rw[<-F] at D A;have G:=hid A;clear F L d A;unfold maxLen at J;go_enter func246,ntmps246;go_wp2_with fail;refine D.out.mono ?_;rintro e R ⟨rfl,rfl⟩
 by_cases h:i<0
 ·go_wp2_with fail;go_ret;refine⟨eI ?_,(aH _ _).alloc (aD _) _⟩;have:=G.out;rwa[aB h] at this
 ·go_wp2_with fail;go_ret;refine⟨eI ?_,(aH _ _).alloc (aD _) _⟩;have:=G.out;rwa[aA (by omega)] at this
end Go.Proofs.YtfckbfofgeilgaaGreatDoor
namespace Go.Proofs.YtfckbfofgeilgaaGreatDoor
open Go.RowKit
theorem DX {e:Array Oper} {rest:List Oper} {o:Oper} {a:Act} {Q:Exit->Act->World->Prop} {w:World} (A:o.guard=none) (s x:Operand)
  (D:o.op=.call {callee:=.builtin .append,args:=#[s,x],argTypes:=#[84,84]}) (base:Nat) (v:Value) (l:List UInt8) (hs:a.eval s=v) (hown:OwB w base v l)
  (g:Nat) (b:UInt8) (hx:a.eval x=.slice (some ⟨g,0,none⟩) 1 1) (hc:w.cell? ⟨g,0,none⟩=some (.int .u8 (b.toNat:Int))) (hroom:(l.length+1)*1<=140737488355328) (hbase:base<=w.heap.size)
  (h:∀d w',OwB w' base d (l++[b])->Below base w w'->w.grownBy w' v.ownBlock->wpList pG e Q rest (a.put o.dst d) w'):wpList pG e Q (o::rest) a w:=
 tM yU A s x D base v _ hs hown g _ hx hc rfl (by simpa using hroom) hbase (fun d w' F G I=>h d w' (by unfold OwB;rw[IY];exact F) G I)
def sO (s:List UInt8) (k c:Nat):Bool:=dZ (s.take k) c
theorem ZS (s:List UInt8) (k:Nat) (b:UInt8) (h:s[k]? =some b) (c:Nat):sO s (k+1) c=if c=b.toNat then true else sO s k c:=by grind [sO,dZ,cG,Option.toList_some]
def gL (f:Nat->Bool):List Value:=(List.range 256).map fun c=>.bool (f c)
theorem DY (f:Nat->Bool) (c:Nat) (h:c<256):(gL f)[c]? =some (.bool (f c)):=by simp[gL,h]
theorem aN8 (f e:Nat->Bool) (c:Nat) (v:Bool) (h:∀d,e d=if d=c then v else f d):(gL f).set c (.bool v)=gL e:=by
 apply List.ext_getElem?
 grind [gL,DY]
theorem ZT:Tryz.zeroCells372=(gL (fun _=>false)).toArray:=by kernel_rfl
theorem PU (f:Nat->Bool):(gL f).toArray.size=256:=by simp[gL]
theorem BM (f:Nat->Bool):(pG.info? 372).map (·.size)=some (gL f).toArray.size:=by rw[PU];kernel_rfl
theorem zD:pG.underlying 372=some (.array 256 4):=by kernel_rfl
theorem ZU {w:World} {b:Nat} {e:TypeId} {l:List Value} (h:Arr w b e l) (d:l.length=256) (f:Nat->Bool):
  (storeCells ⟨b,0,none⟩ (gL f)).run pG w=.ok () (w.setRow b (gL f).toArray):=by
 have A:(gL f).length=256:=by simp[gL]
 have D:=run_storeCells_from (P:=pG) b e (gL f) 0 l.toArray w h (by simp[d,A]) (fun v F=>by obtain⟨c,_,rfl⟩:=eK.1 F;rfl);rw[D]
 congr 2
theorem DZ {B:Nat} {w w':World} (h:Below B w w') (g:Nat) (A:B<=g) (d:Array Value):Below B w (w'.setRow g d):=
 ⟨h.os,h.tape,h.output,by rw[size_setRow];exact h.size,fun k e=>(setRow_other w' g k d (by omega)).trans (h.block k e)⟩
theorem ZV (s:ByteArray) (w:World) (Y:s.size<=140737488355328):
  Calls pG 242 #[.string s] w fun e w'=>e=.returned (.agg (gL (dZ s.data.toList)).toArray)/\Below w.heap.size w w':=by
 have G:=hid (mV s);go_enter func242,ntmps242;go_wp2_with fail
 go_loopg [3,6] s.size (fun I _s3 J wr=>∃k:Nat,k<=s.size/\I=s.size-k/\J=.int .i64 k/\Arr wr w.heap.size 372 (gL (sO s.data.toList k))/\Below w.heap.size w wr)
 case atStart=>
  refine⟨0,aO _,rfl,rfl,?_,(aH _ _).alloc (aD _) _⟩;rw[ZT,show sO s.data.toList 0=fun _=>false from by funext c;simp[sO,dZ]];exact Arr.new w _ _
 case round=>
 obtain⟨k,Z,A,rfl,d,D⟩:=hrel;have L:=hid A;clear A
 by_cases M:k<s.size
 ·have O:=s[k].toNat_lt;have c1:=d.cell (DY (sO s.data.toList k) s[k].toNat O);have f1:=d.free s[k].toNat;have R:=hid (ZS s.data.toList k s[k] (fW s k M));go_wp2_with fail;have A:=L.out
  go_roundg (s.size-(k+1))
  ·
   refine⟨k+1,by omega,rfl,by go_num,?_,D.setCell (p:=⟨w.heap.size,s[k].toNat,none⟩) (aD _) _⟩;have:=d.set s[k].toNat (.bool true);rwa[aN8 _ (sO s.data.toList (k+1)) _ true R.out] at this
  ·omega
 ·have U:k=s.size:=by omega
  subst U;have F:sO s.data.toList s.size=dZ s.data.toList:=by funext c;unfold sO;rw[cD (by rw[G.out];exact aD _)]
  rw[F] at d;clear F;go_wp2_with fail;refine wp_load_row 372 (.tmp 2) rfl w.heap.size rfl _ _ (0,0) (.array 256 4) d zD rfl (BM _) ?_;have a0:=ZU d (by simp[gL]) (dZ s.data.toList);go_wp2_with fail;have V:Arr (wr.setRow w.heap.size (gL (dZ s.data.toList)).toArray) w.heap.size 372 (gL (dZ s.data.toList)):=setRow_heap wr w.heap.size _ _ 372 (0,0) d;refine bodyPost_ret (results_cell_row rfl _ _ w.heap.size _ _ (0,0) (.array 256 4) rfl V zD rfl (BM _)) rfl ?_;exact⟨rfl,DZ D _ (aD _) _⟩
theorem aN9 (d:Array Value) (k:Nat) (e:k<256) (b:Bool) (h:d[k]? =some (.bool b)) (w:World):(rE 372 (.agg d) (.int .i64 (k:Int))).run pG w=.ok (.bool b) w:=by
 have A:(k:Int)<256:=by omega
 simp[rE,wW zD,asIntOf,e,part,isAgg,wW underlying4,h,Result.andThen]
theorem ZW {c:Nat} (h:c<256):(eA c).toNat=c:=by rw[UInt8.toNat_ofNat'];omega
theorem PV (s:ByteArray) (w:World) (Z:s.size<=140737488355328):
  Calls pG 229 #[.string s] w fun e w'=>e=.returned (.string (mkS (bY s.data.toList)))/\Below w.heap.size w w':=by
 go_enter func229,ntmps229;go_wp2_with fail;refine(ZV s _ Z).mono ?_;rintro e A ⟨rfl,h1⟩;obtain⟨D,F⟩:=ex1 ((gL (dZ s.data.toList)).toArray);rw[<-F];have a4:D.size=256:=by rw[F];exact PU _
 have R:∀c,c<256->D[c]? =some (.bool (dZ s.data.toList c)):=fun c hc=>by rw[F];simpa using DY (dZ s.data.toList) c hc
 have a0:=hid R;clear F R;go_wp2_with fail
 go_loopg [3,4,5,8] 256 (fun gh s3 _s4 _s5 s8 wr=>∃k:Nat,k<=256/\gh=256-k/\s8=.int .i64 k/\OwB wr A.heap.size s3 (kL s.data.toList k)/\Below A.heap.size A wr)
 case atStart=>exact⟨0,by omega,rfl,rfl,Ow.nil _ _ _,aH _ _⟩
 case round=>
 obtain⟨k,hk,G,rfl,J,I⟩:=hrel;have U:=hid G;clear G
 by_cases L:k<256
 ·have t1:decide ((k:Int)<256)=true:=aG (by omega);have t2:(k:Int)<256:=by omega
  have g1:=a0.out k L;have V:(rE 372 (.agg D) (.int .i64 (k:Int))).run pG wr=.ok (.bool (dZ s.data.toList k)) wr:=aN9 D k L _ g1 wr;have g2:oQ.wrap (k:Int)=(k:Int):=by unfold IntKind.wrap;simp[IE,IF];omega
  have a5:=YI s.data.toList k;have a1:=I.size;have Y:=hid (PD s.data.toList k);have e1:((eA k).toNat:Int)=(k:Int):=by rw[ZW L]
  by_cases d:dZ s.data.toList k=true
  ·rw[d] at V;have M:=hid d;clear d;go_wp2_with (at_builtin;refine DX rfl _ _ rfl A.heap.size _ _ rfl (J.alloc _) wr.heap.size (eA k) rfl ?_ ?_ ?_ ?_;(rw[e1];exact bX _ _ _);omega;(simp;omega);intro v' w3 a2 hB a6);have G:=U.out
   go_roundg (256-(k+1))
   ·
    refine⟨k+1,by omega,rfl,by go_num,?_,(I.alloc a1 _).trans hB⟩;have:=Y.out;rw[aB M.out] at this;rw[this];exact a2
   ·omega
  ·have O:dZ s.data.toList k=false:=by simpa using d
   rw[O] at V;have M:=hid O;clear d O;go_wp2_with fail;have G:=U.out
   go_roundg (256-(k+1))
   ·
    refine⟨k+1,by omega,rfl,by go_num,?_,I⟩;have:=Y.out;rw[aA (by rw[M.out];exact Bool.false_ne_true),dI] at this;rw[this];exact J
   ·omega
 ·have a3:k=256:=by omega
  subst a3;have a7:=mP J.rd;have HE:=hid (show kL s.data.toList 256=bY s.data.toList from rfl);go_wp2_with fail;go_ret;exact⟨yV (by rw[HE.out]),aW h1 I⟩
theorem ZX (s:ByteArray) (c:Nat) (w:World) (V:s.size<=140737488355328) (_hc:c<256):
  Calls pG 138 #[.string s,.int .i64 (c:Int)] w fun e w'=>e=.returned (.bool (dZ s.data.toList c))/\w'=w:=by
 have I:=hid (mV s);go_enter func138,ntmps138;go_wp2_with fail
 go_loopg [5] s.size (fun J L wr=>∃k:Nat,k<=s.size/\J=s.size-k/\L=.int .i64 k/\Hid (sO s.data.toList k c=false)/\w=wr)
 case atStart=>exact⟨0,aO _,rfl,rfl,hid rfl,rfl⟩
 case round=>
 obtain⟨k,Y,A,rfl,F,rfl⟩:=hrel;have M:=hid A;clear A
 by_cases G:k<s.size
 ·have Z:=s[k].toNat_lt;have O:=hid (ZS s.data.toList k s[k] (fW s k G) c)
  by_cases d:s[k].toNat=c
  ·have R:((s[k].toNat:Int)==(c:Int))=true:=by rw[beq_iff_eq];omega
   have D:=hid d;clear d;go_wp2_with fail;go_ret;refine⟨sJ ?_,rfl⟩;have U:s[k]∈s.data.toList:=cN (fW s k G);rw[<-D.out];exact((PC s.data.toList s[k]).2 U).symm
  ·have R:((s[k].toNat:Int)==(c:Int))=false:=by rw[cB];omega
   have D:=hid d;clear d;go_wp2_with fail;have A:=M.out
   go_roundg (s.size-(k+1))
   ·
    refine⟨k+1,by omega,rfl,by go_num,hid ?_,rfl⟩;rw[O.out,aA (fun e=>D.out e.symm)];exact F.out
   ·omega
 ·have a0:k=s.size:=by omega
  go_wp2_with fail;go_ret;refine⟨sJ ?_,rfl⟩;have:=F.out;unfold sO at this;rw[cD (by rw[I.out];omega)] at this;exact this.symm
theorem PX (s:ByteArray) (w:World) (O:s.size<=140737488355328):
  Calls pG 105 #[.string s] w fun e w'=>e=.returned (.string (mkS (bY s.data.toList)))/\Below w.heap.size w w':=by
 go_enter func105,ntmps105;go_wp2_with fail
 go_loopg [3,4] 256 (fun R U V wr=>∃k:Nat,k<=256/\R=256-k/\V=.int .i64 k/\OwB wr w.heap.size U (kL s.data.toList k)/\Below w.heap.size w wr)
 case atStart=>exact⟨0,by omega,rfl,rfl,Ow.nil _ _ _,aH _ _⟩
 case round=>
 obtain⟨k,hk,A,rfl,F,D⟩:=hrel;have J:=hid A;clear A
 by_cases L:k<256
 ·have t1:decide ((k:Int)<256)=true:=aG (by omega);have t2:(k:Int)<256:=by omega
  have g2:oQ.wrap (k:Int)=(k:Int):=by unfold IntKind.wrap;simp[IE,IF];omega
  have a2:=YI s.data.toList k;have Y:=D.size;have M:=hid (PD s.data.toList k);have Z:((eA k).toNat:Int)=(k:Int):=by rw[ZW L]
  go_wp2_with fail;refine(ZX s k _ O L).mono ?_;rintro e w1 ⟨rfl,rfl⟩
  by_cases d:dZ s.data.toList k=true
  ·rw[d];have G:=hid d;clear d;go_wp2_with (at_builtin;refine DX rfl _ _ rfl w.heap.size _ _ rfl (F.alloc _) w1.heap.size (eA k) rfl ?_ ?_ ?_ ?_;(rw[Z];exact bX _ _ _);omega;(simp;omega);intro v' w3 a0 hB a3);have A:=J.out
   go_roundg (256-(k+1))
   ·
    refine⟨k+1,by omega,rfl,by go_num,?_,(D.alloc Y _).trans hB⟩;have:=M.out;rw[aB G.out] at this;rw[this];exact a0
   ·omega
  ·have I:dZ s.data.toList k=false:=by simpa using d
   rw[I];have G:=hid I;clear d I;go_wp2_with fail;have A:=J.out
   go_roundg (256-(k+1))
   ·
    refine⟨k+1,by omega,rfl,by go_num,?_,D⟩;have:=M.out;rw[aA (by rw[G.out];exact Bool.false_ne_true),dI] at this;rw[this];exact F
   ·omega
 ·have a1:k=256:=by omega
  subst a1;have a4:=mP F.rd;have HE:=hid (show kL s.data.toList 256=bY s.data.toList from rfl);go_wp2_with fail;go_ret;exact⟨yV (by rw[HE.out]),D⟩
def tQ (w:World) (v:Value) (m:List Int):Prop:=
 (v=.slice none 0 0/\m=[])\/∃b off cap,v=.slice (some ⟨b,off,none⟩) m.length cap/\b<w.heap.size/\∀j x,m[j]? =some x->w.cell? ⟨b,off+j,none⟩=some (.int .i64 x)
theorem tQ.below {w w':World} {v:Value} {m:List Int} (h:tQ w v m) (d:Below w.heap.size w w'):tQ w' v m:=by
 rcases h with h|⟨b,off,cap,rfl,e,A⟩
 ·exact .inl h
 ·exact .inr ⟨b,off,cap,rfl,fB e d.size,fun j x D=>by rw[d.cell (p:=⟨b,off+j,none⟩) e];exact A j x D⟩
theorem OwI.src {w:World} {B:Nat} {v:Value} {l:List Int} (h:OwI w B v l):tQ w v l:=by
 have d:=h.rd.open;obtain⟨a,cap,rfl,_,_,A⟩:=d;rcases h.2 with⟨e,D⟩|⟨g,F,G,e,_⟩
 ·grind [OwI,tQ]
 grind [OwI,tQ]
theorem aAe (w:World) (t:TypeId) (x:Int):tQ (w.alloc (.cells #[.int .i64 x] t)) (.slice (some ⟨w.heap.size,0,none⟩) 1 1) [x]:=
 .inr ⟨w.heap.size,0,1,rfl,by simp,fun j y d=>by grind [bX,tQ]⟩
theorem aAf {w:World} (D:TypeId) (base:Nat) (v:Value) (l:List Int) (I:OwI w base v l) (J:Value) (m:List Int) (R:tQ w J m) (U:(l.length+m.length)*8<=140737488355328) (L:base<=w.heap.size):
  ∃A w',(Builtin.append_ #[53,53] D #[v,J]).run pG w=.ok A w'/\OwI w' base A (l++m)/\Below base w w'/\w.grownBy w' v.ownBlock:=by
 obtain⟨i,M,V,Y,Z⟩:=jL.info;have h4:(bQ .i64 0).cells.size=1:=by rw[jL.cells];rfl
 have F:w.ownsRow base 3 1 v l.length (l.map (bQ .i64)):=by have:=I;unfold OwI Ow at this;rwa[aS] at this
 rcases R with⟨rfl,rfl⟩|⟨b,off,cap,rfl,_,hc⟩
 ·refine⟨v,w,run_append_owned_none (P:=pG) (w:=w) base _ D 3 i 1 jL.under M v l.length _ F,by rw[dI];exact I,aH _ _,⟨rfl,rfl,rfl,aD _,fun _ _ _=>rfl⟩⟩
 ·obtain⟨A,w',q1,q2,O,_⟩:=run_append_own (P:=pG) w base 53 D 3 i _ 1 8 jL.under M V Y Z h4 (by decide) v l.length _ F ⟨b,off,none⟩ m.length cap (m.map (bQ .i64)) (by simp) (fun j u d=>by
    rw[List.getElem?_map] at d
    cases G:m[j]? with
    |none=>rw[G] at d;simp at d
    |some y=>
     rw[G] at d;simp at d;subst d;have e:(⟨b,off,none⟩:Addr).add j=⟨b,off+j,none⟩:=by unfold Addr.add;split<;>simp_all
     rw[e];exact hc j y G) (fun u d=>by obtain⟨y,_,rfl⟩:=eK.1 d;rfl) (by simp only[maxLen];omega) U L
  refine⟨A,w',q1,?_,rJ F O L,O⟩;unfold OwI Ow;rw[List.map_append,aL,aS,aS];exact q2
theorem JT {e:Array Oper} {rest:List Oper} {o:Oper} {a:Act} {Q:Exit->Act->World->Prop} {w:World} (A:o.guard=none) (s x:Operand)
  (D:o.op=.call {callee:=.builtin .append,args:=#[s,x],argTypes:=#[53,53]}) (base:Nat) (v:Value) (l:List Int) (hs:a.eval s=v) (hown:OwI w base v l)
  (sv:Value) (m:List Int) (hx:a.eval x=sv) (hsrc:tQ w sv m) (hroom:(l.length+m.length)*8<=140737488355328) (hbase:base<=w.heap.size)
  (h:∀d w',OwI w' base d (l++m)->Below base w w'->w.grownBy w' v.ownBlock->wpList pG e Q rest (a.put o.dst d) w'):wpList pG e Q (o::rest) a w:=by
 refine wpList_plain A fun K F=>?_
 obtain⟨d,w',G,I,J,L⟩:=aAf o.type base v l hown sv m hsrc hroom hbase;unfold Oper.wp execOp;simp only[D,resolve,invoke,builtin,Sem.run_bind,Sem.run_pure,Result.andThen_ok,List.map_toArray,List.map_cons,List.map_nil,hs,hx,G];exact F _ _ (h d w' I J L)
theorem RdI.dropS {w:World} {b off:Nat} {l:List Int} (d:∀j x,l[j]? =some x->w.cell? ⟨b,off+j,none⟩=some (.int .i64 x)) (k:Nat):∀j x,(l.drop k)[j]? =some x->w.cell? ⟨b,off+k+j,none⟩=some (.int .i64 x):=by grind
theorem aAg (m:Nat) (h:0<m):∃b:Nat,b<=1/\dig m=(b:Int)::dig ((m-1)/2)/\((m:Int)-1).tmod 2=(b:Int)/\((m:Int)-1)%2=(b:Int)/\(1:Int)-(m:Int).tmod 2=(b:Int)/\(1:Int)-(m:Int)%2=(b:Int)/\
  ((m:Int)-1).tdiv 2=(((m-1)/2:Nat):Int)/\((m:Int)-1)/2=(((m-1)/2:Nat):Int):=by
 obtain⟨p,rfl⟩:∃p,m=p+1:=⟨m-1,by omega⟩;refine⟨p%2,by omega,?_,?_,by omega,?_,by omega,?_,by omega⟩
 ·grind [JJ,dig]
 ·grind
 ·grind
 simp
theorem QC (n:Nat) (w:World) (Y:n<=1000000):
  Calls pG 143 #[.int .i64 (n:Int)] w fun e w'=>∃v,e=.returned v/\OwI w' w.heap.size v (dig n)/\Below w.heap.size w w':=by
 go_enter func143,ntmps143;go_wp2_with fail
 go_loopg [3,4] n (fun J L M wr=>∃(m:Nat) (l:List Int),m<=n/\J=m/\M=.int .i64 m/\OwI wr w.heap.size L l/\Hid (l++dig m=dig n)/\l.length+m<=n/\Below w.heap.size w wr)
 case atStart=>exact⟨n,[],aD _,rfl,rfl,OwI.nil _ _,hid rfl,by simp,aH _ _⟩
 case round=>
  obtain⟨m,l,Z,A,rfl,F,G,a0,d⟩:=hrel;have O:=hid A;clear A;rcases Nat.eq_zero_or_pos m with D|D
  ·subst D;go_wp2_with fail;go_ret;refine⟨_,rfl,?_,d⟩;have:=G.out;rw[uG,dI] at this;rw[<-this];exact F
  ·obtain⟨b,hb,I,_,_,e4,e5,e6,e7⟩:=aAg m D;have R:=hid I;clear I;have a1:=d.size;have s1:IntKind.i64.wrap ((m:Int)-1)=(m:Int)-1:=IntWalk.i64_in _ (by omega);go_wp2_with (at_builtin;refine gK rfl _ _ rfl w.heap.size _ _ rfl (F.alloc _) wr.heap.size (b:Int) rfl ?_ ?_ ?_ ?_;(exact bX _ _ _);omega;(simp;omega);intro v' w1 U V a2);have A:=O.out
   go_roundg ((m-1)/2)
   ·
    refine⟨(m-1)/2,l++[(b:Int)],by omega,rfl,by go_num,U,hid ?_,by simp;omega,(d.alloc d.size _).trans V⟩;rw[List.append_assoc,List.singleton_append,<-R.out];exact G.out
   ·omega
theorem aAh (v:Value) (l:List Int) (w:World) (D:RdI w v l) (I:∀x∈l,0<=x):
  Calls pG 142 #[v] w fun e w'=>e=.returned (.bool false)/\w'=w:=by
 obtain⟨a,U,rfl,V,J,F⟩:=D.open;unfold maxLen at J;clear D;go_enter func142,ntmps142;go_wp2_with fail
 go_loopg [3] l.length (fun L M wr=>∃k:Nat,k<=l.length/\L=l.length-k/\M=.int .i64 k/\wr=w)
 case atStart=>exact⟨0,aO _,rfl,rfl,rfl⟩
 case round=>
  obtain⟨k,Y,d,rfl,rfl⟩:=hrel;have O:=hid d;clear d
  by_cases R:k<l.length
  ·obtain⟨Z,o1,rfl,a0,G⟩:=F (by omega);obtain⟨x,A⟩:=eG R;have c1:=G k x A;have a1:=I x (cN A);have t1:decide (x<0)=false:=aE (by omega);clear G A F;go_wp2_with fail;have d:=O.out
   go_roundg (l.length-(k+1))
   ·exact⟨k+1,by omega,rfl,by go_num,rfl⟩
   ·omega
  ·go_wp2_with fail;go_ret;exact⟨rfl,rfl⟩
theorem OwI.setLow {w:World} {B:Nat} {v:Value} {l:List Int} (h:OwI w B v l) {p:Addr} (G:p.block<B) (x:Value):OwI (w.setCell p x) B v l:=by
 refine⟨h.1,?_⟩;rcases h.2 with d|⟨g,cap,A,rfl,D,F,rest⟩
 ·exact .inl d
 ·refine .inr ⟨g,cap,A,rfl,D,?_,rest⟩;rw[heap_setCell_other w p g x (fun e=>by omega)];exact F
def uJ (w:World) (b:Nat) (l:List Int):Prop:=∃v,Arr w b 376 [v]/\OwI w (b+1) v l
theorem uJ.lt {w:World} {b:Nat} {l:List Int} (h:uJ w b l):b<w.heap.size:=by obtain⟨v,h,_⟩:=h;exact h.lt
theorem uJ.below {w w':World} {b:Nat} {l:List Int} (h:uJ w b l) (d:Below w.heap.size w w'):uJ w' b l:=by
 have:=h.lt;obtain⟨v,e,A⟩:=h;exact⟨v,e.below d this,A.below d (aD _)⟩
theorem JU (b:Nat) (F:Value) (l m:List Int) (w:World) (G:uJ w b l) (J:tQ w F m) (L:(l.length+m.length)*8<=140737488355328):
  Calls pG 245 #[.pointer (some ⟨b,0,none⟩),F] w fun e w'=>e=.returned (.tuple #[])/\uJ w' b (l++m)/\Below b w w':=by
 have O:=G.lt;obtain⟨v,d,M⟩:=G;have R:=d.cell (i:=0) rfl;have U:=d.free 0;go_enter func245,ntmps245;go_wp2_with (at_builtin;refine JT rfl _ _ rfl (b+1) _ _ rfl M _ m rfl J L (by omega) ?_;intro V Y A I Z;(obtain⟨a',a0,rfl,_,_,_⟩:=A.rd.open);(have D:=d.below I (by omega));(have c2:=D.cell (i:=0) rfl);(have f2:=D.free 0))
 go_end0
 rw[aL] at A;exact⟨rfl,⟨_,D.set 0 _,A.setLow (p:=⟨b,0,none⟩) (Nat.lt_succ_self b) _⟩,(I.mono (Nat.le_succ b)).setCell (p:=⟨b,0,none⟩) (aD _) _⟩
theorem aQp:Tryz.zeroCells392=(tab 257 (fun _=>0)).toArray:=by kernel_rfl
theorem aA5 (s:ByteArray) (w:World) (hs:s.size<=1000000000):
  Calls pG 250 #[.string s] w fun e w'=>
   ∃v,e=.returned v/\OwI w' w.heap.size v (vU s.data.toList)/\Below w.heap.size w w':=by
 have a1:=mV s;have F:=hid a1;clear a1;go_enter func250,ntmps250;go_wp2
 go_loopw [10] (fun i wr=>∃k:Nat,k<=s.size/\i=.int .i64 k/\Arr wr w.heap.size 392 (tab 257 (qC s.data.toList k))/\Below w.heap.size w wr) (fun i _=>s.size-(intOf i).toNat)
 case atStart=>exact⟨0,aO _,rfl,by rw[aNj,aQp];exact Arr.new _ _ _,(aH _ _).alloc (aD _) _⟩
 case round=>
  obtain⟨k,hk,rfl,A,D⟩:=hrel
  by_cases G:k<s.size
  ·have hb:s[k].toNat<256:=s[k].toNat_lt;have J:=hid (fW s k G);have M:=aNq s.data.toList k (s[k].toNat+1);rw[F.out] at M;have hc:=A.cell (lM 257 (qC s.data.toList k) (s[k].toNat+1) (by omega));have hf:=A.free (s[k].toNat+1);obtain⟨x,I⟩:=ex1 (qC s.data.toList k (s[k].toNat+1));rw[<-I] at hc M;have HX:=hid I;clear I;go_wp2
   go_roundw
   case rel=>
    refine⟨k+1,by omega,by go_num,?_,D.setCell (aD _) _⟩;have:=A.set (s[k].toNat+1) (.int .i64 (x+1));rw[uE 257 _ (qC s.data.toList (k+1)) _ _ (fun d _=>by rw[aNk _ _ _ J.out,HX.out])] at this;exact this
   case measure=>simp[intOf];omega
  ·have O:k=s.size:=by omega
   have HK:=hid O;clear O;go_wp2
   go_loopw [23] (fun i wr=>∃c:Nat,c<=256/\i=.int .i64 c/\Arr wr w.heap.size 392 (tab 257 (nH s.data.toList c))/\Below w.heap.size w wr) (fun i _=>256-(intOf i).toNat)
   case atStart=>exact⟨0,aO _,rfl,by have:=A;rw[HK.out,<-F.out,aNl] at this;exact this,D⟩
   case round=>
    clear A D G;obtain⟨c,hc,rfl,A,D⟩:=hrel
    by_cases G:c<256
    ·have U:decide ((c:Int)<256)=true:=by simp;omega
     have M:=ZG s.data.toList c (c+1);have a2:=ZG s.data.toList c c;rw[F.out] at M a2;have V:=A.cell (lM 257 (nH s.data.toList c) (c+1) (by omega));have h2:=A.cell (lM 257 (nH s.data.toList c) c (by omega));have hf:=A.free (c+1);obtain⟨x,I⟩:=ex1 (nH s.data.toList c (c+1));obtain⟨y,hy⟩:=ex1 (nH s.data.toList c c);rw[<-I] at V M;rw[<-hy] at h2 a2;have HX:=hid I;have HY:=hid hy;clear I hy;go_wp2
     go_region
     go_wp2
     go_roundw
     case rel=>
      refine⟨c+1,by omega,by go_num,?_,(D.setCell (aD _) _).drew⟩;have:=A.set (c+1) (.int .i64 (x+y));rw[uE 257 _ (nH s.data.toList (c+1)) _ _ (fun d _=>by rw[aNm,HX.out,HY.out])] at this;exact this
     case measure=>simp[intOf];omega
    ·have a3:c=256:=by omega
     have HC:=hid a3;clear a3;have U:decide ((c:Int)<256)=false:=by simp;omega
     obtain⟨R,rfl⟩:∃R:World,R=wr:=⟨_,rfl⟩;go_wp2_with (at_make;refine mkA jL rfl _ _ rfl s.size rfl rfl ?_ ?_;omega);have a7:w.heap.size<R.heap.size:=A.lt
     go_loopw [41] (fun i wr=>∃k:Nat,k<=s.size/\i=.int .i64 k/\Arr wr w.heap.size 392 (tab 257 (sN s.data.toList k))/\(∃L:List Int,L.length=s.size/\Hid (∀j,j<k->L[kX s.data.toList j]? =some (j:Int))/\Arr wr R.heap.size 3 (L.map (bQ .i64)))/\Below w.heap.size w wr) (fun i _=>s.size-(intOf i).toNat)
     case atStart=>
      refine⟨0,aO _,rfl,?_,⟨aX s.size 0,by simp,hid (fun j hj=>by omega),?_⟩,D.alloc (by omega) _⟩
      ·have:=A.alloc (.cells (gW (.int .i64 0) s.size) 3);rw[HC.out] at this;rwa[show tab 257 (sN s.data.toList 0)=tab 257 (nH s.data.toList 256) from by
        apply List.map_congr_left;intro d U;rw[aNn _ _ (by simpa using U)]]
      ·rw[List.map_replicate];exact Arr.made _ _ _ _
     case round=>
      clear A D G U;obtain⟨k,hk,rfl,A,⟨L,Y,HP,Z⟩,D⟩:=hrel
      by_cases G:k<s.size
      ·have hb:s[k].toNat<256:=s[k].toNat_lt;have J:=hid (fW s k G);have a4:=ZD s.data.toList k (by rw[F.out];exact G);have V:=A.cell (lM 257 (sN s.data.toList k) s[k].toNat (by omega));rw[ZE _ _ _ J.out] at V;rw[F.out] at a4;obtain⟨p,hp⟩:=ex1 (kX s.data.toList k);rw[<-hp] at V a4;have a0:=hid hp;clear hp;have hf:=A.free s[k].toNat;have a8:=Z.free p;obtain⟨v2,a5⟩:∃v2,(L.map (bQ .i64))[p]? =some v2:=⟨_,aN (by simp;omega)⟩;have h2:=Z.cell a5;clear a5;go_wp2
       go_roundw
       case rel=>
        refine⟨k+1,by omega,by go_num,?_,⟨L.set p (k:Int),by simpa using Y,hid ?_,?_⟩,(D.setCell (by simp;omega) _).setCell (aD _) _⟩
        ·have:=(A.other ⟨R.heap.size,p,none⟩ (by simp;omega) (.int .i64 (k:Int))).set s[k].toNat (.int .i64 ((p:Int)+1));rw[uE 257 _ (sN s.data.toList (k+1)) _ _ (fun d _=>by rw[aNo _ _ _ J.out,ZE _ _ _ J.out,<-a0.out])] at this;exact this
        ·intro j hj;rcases Nat.lt_or_ge j k with h'|h'
         ·rw[List.getElem?_set_ne (fun e=>?_)]
          ·exact HP.out j h'
          ·have:=aNf s.data.toList j k (by rw[F.out];omega) (by rw[F.out];omega) (by rw[<-a0.out,e]);omega
         ·have:j=k:=by omega
          subst this;rw[<-a0.out,List.getElem?_set_self (by omega)]
        ·have:=(Z.set p (.int .i64 (k:Int))).other ⟨w.heap.size,s[k].toNat,none⟩ (by simp;omega) (.int .i64 ((p:Int)+1));rwa[<-List.map_set] at this
       case measure=>simp[intOf];omega
      ·have O:k=s.size:=by omega
       have a6:=hid O;clear O;go_wp2;go_ret;have e:=aNg s.data.toList L (by rw[F.out,Y]) (fun j hj=>HP.out j (by rw[a6.out,<-F.out];exact hj));have ho:=Z.own (B:=w.heap.size) (by omega) (by rw[aS,Y];simp only[maxLen];omega);rw[aS,Y] at ho;rw[e] at ho;exact⟨_,rfl,ho,D⟩
theorem zF {a b c d:Value} (e:a=c) (A:b=d):Ending.returned (.tuple #[a,b])=.returned (.tuple #[c,d]):=by rw[e,A]
theorem aA6 (s:List UInt8) (k:Nat) (h:k<s.length):(vU s)[k]? =some ((nxt s k:Nat):Int):=by grind [vU,nxt,vec,yY]
theorem QO (s:List UInt8):(vU s).length=s.length:=by simp[vU,yY]
theorem QP (s:ByteArray) (k:Nat) (h:k<s.size):s.data.toList.getD k 0=s[k]:=by grind [fW]
theorem aQt (s:ByteArray) (o:Int) (w:World) (hs:s.size<=1000000000) (b0: -9223372036854775808<=o) (b2:o<=9223372036854775807):
  Calls pG 234 #[.string s,.int .i64 o] w fun e w'=>
   e=.returned (.tuple #[.string (mkS (oU s.data.toList o)),.int .i64 (rK s.data.toList o)])/\Below w.heap.size w w':=by
 have L:=mV s;have G:=hid L
 by_cases M:qD s.data.toList o=true
 case neg=>
  have d:qD s.data.toList o=false:=by simpa using M
  have O:oU s.data.toList o=[]/\rK s.data.toList o=1:=by simp[oU,rK,d]
  have A:=hid O;unfold qD at d;rw[L] at d;clear O M L
  by_cases a6:o<0
  ·clear d;have hd:decide (o<0)=true:=by simpa using a6
   go_enter func234,ntmps234;go_wp2
   go_ret2
   exact⟨zF (by rw[A.out.1];rfl) (by rw[A.out.2];rfl),aH _ _⟩
  ·have Z:(max (s.size:Int) 1)<=o:=by simp at d;omega
   have h2:decide (max (s.size:Int) 1<=o)=true:=by simpa using Z
   have hd:decide (o<0)=false:=by simpa using a6
   clear d h2;go_enter func234,ntmps234;go_wp2
   all_goals go_ret2
   all_goals exact⟨zF (by rw[A.out.1];rfl) (by rw[A.out.2];rfl),aH _ _⟩
 case pos=>
  have d:=M;unfold qD at d;rw[L] at d;have Z:0<=o/\o<max (s.size:Int) 1:=by simpa using d
  obtain⟨n,rfl⟩:=WL Z.1;have O:oU s.data.toList n=oA s.data.toList n s.size/\rK s.data.toList n=0:=by
   simp[oU,rK,M,ZH]
  have A:=hid O;have a1:n<s.size\/(s.size=0/\n=0):=by omega
  clear O M L d Z b0 b2;have hd:decide ((n:Int)<0)=false:=by simp
  have HN:=hid (show 0<s.size->n<s.size from fun h=>by omega);have b3:n<s.size\/s.size<=0/\n<=0:=by omega
  clear a1;rcases b3 with a1|⟨a1,b6⟩
  ·go_enter func234,ntmps234;go_wp2_with fail;refine(aA5 s _ hs).mono ?_;rintro e D ⟨v,rfl,R,I⟩;obtain⟨va,vc,rfl,a2,a3,U⟩:=R.rd.open;rw[QO,G.out] at U a2 ⊢;simp only[maxLen] at a3;clear R;go_wp2_with (at_make;refine mkA yU rfl _ _ rfl s.size rfl rfl ?_ ?_;omega)
   go_loopg [8,27] s.size (fun g a4 i wr=>∃k:Nat,k<=s.size/\g=s.size-k/\i=.int .i64 k/\a4=.int .i64 ((nI s.data.toList k n:Nat):Int)/\Arr wr D.heap.size 5 (fG (qO s.size 0 (oA s.data.toList n k)))/\Below w.heap.size w wr/\Below D.heap.size D wr)
   case atStart=>
    refine⟨0,aO _,rfl,rfl,rfl,?_,I.alloc (by have:=I.size;omega) _,(aH _ _).alloc (aD _) _⟩;have:=Arr.made D 5 (.int .u8 0) s.size;rwa[show aX s.size (bQ .u8 0)=fG (qO s.size 0 (oA s.data.toList n 0)) from by simp[fG,qO,oA]] at this
   case round=>
    obtain⟨k,hk,J,rfl,rfl,F,a0,a5⟩:=hrel
    by_cases a7:k<s.size
    ·have hn:=HN.out (by omega);have a8:=xG s.data.toList n (by rw[G.out];exact hn) k;have V:=xG s.data.toList n (by rw[G.out];exact hn) (k+1);rw[G.out] at a8 V;obtain⟨b1,o1,rfl,b4,a9⟩:=U (by omega);have c1:wr.cell? ⟨b1,o1+nI s.data.toList k n,none⟩=some (.int .i64 ((nI s.data.toList (k+1) n:Nat):Int)):=by
      rw[a5.cell (p:=⟨b1,o1+nI s.data.toList k n,none⟩) b4];exact a9 _ _ (aA6 _ _ (by rw[G.out];exact a8))
     have b7:=hid (fW s _ V);have hb:s[nI s.data.toList (k+1) n].toNat<256:=UInt8.toNat_lt _;obtain⟨x,hx⟩:=aMa s.size (0:UInt8) (oA s.data.toList n k) k a7 (by rw[xH];omega);have c2:=F.cell (IZ hx);have f2:=F.free k;have HG:=hid J;clear hx U a9 J;go_wp2;have J:=HG.out
     go_roundg (s.size-(k+1))
     ·
      refine⟨k+1,by omega,rfl,by go_num,rfl,?_,a0.setCell (by have:=I.size;simp;omega) _,a5.setCell (by simp) _⟩;have:=F.set k (.int .u8 ((s[nI s.data.toList (k+1) n].toNat:Nat):Int));rw[YG] at this;have e:=aL9 s.size (0:UInt8) s[nI s.data.toList (k+1) n] (oA s.data.toList n k) (by rw[xH];exact a7);rw[xH,<-QP s _ V,<-ZI] at e;rw[<-QP s _ V,e] at this;rw[<-QP s _ V];exact this
     ·omega
    ·have Y:k=s.size:=by omega
     rw[Y,YH _ _ _ (by rw[xH];exact aD _)] at F;have b5:=mP (F.rdB (n:=s.size) (by rw[xH]) (by simp only[maxLen];omega));clear Y J;go_wp2
     go_ret2
     exact⟨zF (by rw[A.out.1];rfl) (by rw[A.out.2];rfl),a0⟩
  ·go_enter func234,ntmps234;go_wp2_with fail;refine(aA5 s _ hs).mono ?_;rintro e D ⟨v,rfl,R,I⟩;obtain⟨va,vc,rfl,a2,a3,U⟩:=R.rd.open;rw[QO,G.out] at U a2 ⊢;simp only[maxLen] at a3;clear R;go_wp2_with (at_make;refine mkA yU rfl _ _ rfl s.size rfl rfl ?_ ?_;omega)
   go_loopg [8,27] s.size (fun g a4 i wr=>∃k:Nat,k<=s.size/\g=s.size-k/\i=.int .i64 k/\a4=.int .i64 ((nI s.data.toList k n:Nat):Int)/\Arr wr D.heap.size 5 (fG (qO s.size 0 (oA s.data.toList n k)))/\Below w.heap.size w wr/\Below D.heap.size D wr)
   case atStart=>
    refine⟨0,aO _,rfl,rfl,rfl,?_,I.alloc (by have:=I.size;omega) _,(aH _ _).alloc (aD _) _⟩;have:=Arr.made D 5 (.int .u8 0) s.size;rwa[show aX s.size (bQ .u8 0)=fG (qO s.size 0 (oA s.data.toList n 0)) from by simp[fG,qO,oA]] at this
   case round=>
    obtain⟨k,hk,J,rfl,rfl,F,a0,a5⟩:=hrel;have Y:k=s.size:=by omega
    rw[Y,YH _ _ _ (by rw[xH];exact aD _)] at F;have b5:=mP (F.rdB (n:=s.size) (by rw[xH]) (by simp only[maxLen];omega));clear Y J;go_wp2
    go_ret2
    exact⟨zF (by rw[A.out.1];rfl) (by rw[A.out.2];rfl),a0⟩
end Go.Proofs.YtfckbfofgeilgaaGreatDoor
