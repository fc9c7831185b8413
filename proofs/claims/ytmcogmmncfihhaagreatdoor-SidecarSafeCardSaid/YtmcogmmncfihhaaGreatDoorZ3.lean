/-
  Texts put together (part 3): the walks and the plain laws on which the statement stands.
-/
import Derived.Below
import Derived.StillTailTactics
import Derived.Shelf.Strings.Builder1
import Derived.Shelf.Strings.BuilderF
import Derived.Shelf.Strings.BuilderK
import Derived.Shelf.Strings.Prefix
import Derived.Shelf.Slices.Turned
import Derived.Test.YtmcogmmncfihhaaGreatDoorProg
import Derived.Test.YtmcogmmncfihhaaGreatDoorZ2
set_option maxRecDepth 100000
set_option maxHeartbeats 12800000
set_option linter.unusedVariables false
set_option linter.unusedSimpArgs false
open BitVec renaming ofNat->qZ,shiftLeft_xor_distrib->aTd,toNat_ofNat->aCq,toNat_shiftLeft->GP,toNat_ushiftRight->aTf,xor_assoc->tU
open Go.IntKind renaming u32->rA,wrap_u32'->aCs
open Go.Lib renaming IsBuilderF->aTu,byteCells->nS
open Go.Proofs.Any renaming Builder_String_any_k->aTv
open List renaming foldl_append->NK,getD_eq_getElem?_getD->aV,getElem?_set_ne->qU,getElem?_set_self->FS,length_append->aL,length_singleton->fK,take_add_one->cQ
open Nat renaming mod_eq_of_lt->kU,shiftLeft_eq->GQ,shiftRight_eq_div_pow->AK
open Option renaming toList_some->mX
namespace Go.Proofs.YtmcogmmncfihhaaGreatDoor
def gH (f:Nat->Int) (i:Nat) (x:Int):Nat->Int:=fun k=>if k=i then x else f k
def iU (a b:Nat) (f g:Nat->Int):Prop:=(∀k,a<=k->k<b->∃k',a<=k'/\k'<b/\g k=f k')/\(∀k,¬(a<=k/\k<b)->g k=f k)
theorem iU.refl (a b:Nat) (f:Nat->Int):iU a b f f:=⟨fun k h1 h2=>⟨k,h1,h2,rfl⟩,fun _ _=>rfl⟩
theorem iU.trans {a b:Nat} {f g h:Nat->Int} (p:iU a b f g) (q:iU a b g h):iU a b f h:=
 ⟨fun k h1 h2=>by
  obtain⟨k',h3,h4,h5⟩:=q.1 k h1 h2;obtain⟨k'',h6,h7,h8⟩:=p.1 k' h3 h4;exact⟨k'',h6,h7,by rw[h5,h8]⟩,fun k hk=>by rw[q.2 k hk,p.2 k hk]⟩
theorem iU.wide {a b a' b':Nat} {f g:Nat->Int} (p:iU a b f g) (ha:a'<=a) (hb:b<=b'):iU a' b' f g:=
 ⟨fun k h1 h2=>by
  by_cases h:a<=k/\k<b
  ·obtain⟨k',h3,h4,h5⟩:=p.1 k h.1 h.2;exact⟨k',by omega,by omega,h5⟩
  ·exact⟨k,h1,h2,p.2 k h⟩,fun k hk=>p.2 k (by omega)⟩
section
variable (lt:Int->Int->Prop)
def gM (f:Nat->Int) (a b:Nat):Prop:=∀i j,a<=i->i<j->j<b->lt (f i) (f j)
structure rI:Prop where
 tr:∀x y z,lt x y->lt y z->lt x z
 tot:∀x y,x≠y->lt x y\/lt y x
 irr:∀x,¬lt x x
variable {lt}
theorem gM.mono {f:Nat->Int} {a b a' b':Nat} (h:gM lt f a b) (ha:a<=a') (hb:b'<=b):gM lt f a' b':=
 fun i j h1 h2 h3=>h i j (by omega) h2 (by omega)
structure lC (lt:Int->Int->Prop) (f:Nat->Int) (a m b:Nat):Prop where
 am:a<m
 mb:m<b
 s1:gM lt f a m
 s2:gM lt f m b
 ne:∀i j,a<=i->i<m->m<=j->j<b->f i<f j
structure kX (lt:Int->Int->Prop) (f g:Nat->Int) (a b:Nat):Prop where
 frm:iU a b f g
 srt:gM lt g a b
end
end Go.Proofs.YtmcogmmncfihhaaGreatDoor
namespace Go.Proofs.YtmcogmmncfihhaaGreatDoor
open Go.RowKit
def Dat (w:World) (g cap n:Nat) (f:Nat->Int):Prop:=
 ∃cur:Array Value,w.heap[g]? =some (.cells cur 3 (0,0))/\cur.size=cap/\n<=cap/\∀k,k<n->cur[k]? =some (.int .i64 (f k))
theorem Dat.lt {w:World} {g cap n:Nat} {f:Nat->Int} (h:Dat w g cap n f):g<w.heap.size:=by
 obtain⟨cur,h,_⟩:=h;exact(Array.getElem?_eq_some_iff.1 h).1
theorem Dat.cell {w:World} {g cap n:Nat} {f:Nat->Int} (h:Dat w g cap n f) {k:Nat} (hk:k<n):w.cell? ⟨g,k,none⟩=some (.int .i64 (f k)):=by
 obtain⟨cur,h,_,_,hc⟩:=h;rw[cell_of_row w g k _ _ (0,0) h];exact hc k hk
theorem Dat.free {w:World} {g cap n:Nat} {f:Nat->Int} (h:Dat w g cap n f) (k:Nat):w.frozen? ⟨g,k,none⟩=false:=by
 obtain⟨cur,h,_⟩:=h;exact frozen_of_row w g k _ _ h
theorem Dat.set {w:World} {g cap n:Nat} {f:Nat->Int} (h:Dat w g cap n f) (k:Nat) (x:Int):Dat (w.setCell ⟨g,k,none⟩ (.int .i64 x)) g cap n (gH f k x):=by
 obtain⟨cur,h,hs,hn,hc⟩:=h;refine⟨cur.setIfInBounds k (.int .i64 x),heap_setCell_same w g k _ _ _ h,by simpa using hs,hn,fun j hj=>?_⟩;unfold gH
 by_cases e:j=k
 ·subst e;simp[show j<cur.size by omega]
 ·rw[if_neg e,Array.getElem?_setIfInBounds_ne (fun h=>e h.symm)];exact hc j hj
theorem Dat.grown {w w':World} {g cap n:Nat} {f:Nat->Int} {row:Option Nat} (h:Dat w g cap n f) (hg:w.grownBy w' row) (hne:some g≠row):Dat w' g cap n f:=by
 have hl:=h.lt;obtain⟨cur,h,hr⟩:=h;exact⟨cur,by rw[hg.block g hl hne];exact h,hr⟩
theorem Dat.below {w w':World} {g cap n B:Nat} {f:Nat->Int} (h:Dat w g cap n f) (hb:Below B w w') (hB:g<B):Dat w' g cap n f:=by
 obtain⟨cur,h,hr⟩:=h;exact⟨cur,by rw[hb.block g hB];exact h,hr⟩
theorem Dat.drewN {w:World} {g cap n:Nat} {f:Nat->Int} (h:Dat w g cap n f) (k:Nat):Dat (w.drewN k) g cap n f:=h
theorem Dat.drew {w:World} {g cap n:Nat} {f:Nat->Int} (h:Dat w g cap n f):Dat w.drew g cap n f:=h
theorem dS {a b c:World} {row:Option Nat} (h:a.grownBy b row) (k:b.grownBy c row):a.grownBy c row:=
 ⟨k.os.trans h.os,k.tape.trans h.tape,k.output.trans h.output,Nat.le_trans h.size k.size,fun i hi hne=>(k.block i (Nat.lt_of_lt_of_le hi h.size) hne).trans (h.block i hi hne)⟩
theorem eM (a:World) (g k:Nat) (v:Value):a.grownBy (a.setCell ⟨g,k,none⟩ v) (some g):=
 ⟨rfl,rfl,rfl,by simp[World.setCell],fun i _ hne=>Below.heap_setCell _ _ _ _ (fun e=>hne (by rw[e]))⟩
theorem nC {a b:World} {row:Option Nat} (h:a.grownBy b row):a.grownBy b.drew row:=⟨h.os,h.tape,h.output,h.size,h.block⟩
def InR (n:Nat) (f:Nat->Int):Prop:=∀k,k<n->0<=f k/\f k<(n:Int)
theorem InR.from {n a b:Nat} {f g:Nat->Int} (h:InR n f) (hb:b<=n) (p:iU a b f g):InR n g:=fun k hk=>by
 by_cases hc:a<=k/\k<b
 ·obtain⟨k',h1,h2,h3⟩:=p.1 k hc.1 hc.2;rw[h3];exact h k' (by omega)
 ·rw[p.2 k hc];exact h k hk
structure Cmp (lt:Int->Int->Prop) (klt:Int->Int->Bool):Prop where
 S:rI lt
 iff:∀x y,x<y->(klt y x=true↔lt y x)
structure lS (lt:Int->Int->Prop) (f g:Nat->Int) (a b:Nat):Prop where
 frm:∀k,a<=k->k<b->∃k',a<=k'/\k'<b/\g k=f k'
 srt:gM lt g a b
end Go.Proofs.YtmcogmmncfihhaaGreatDoor
namespace Go.Proofs
open Go.Shelf
def Tryz.lays170_ren:Go.Shelf.Ren:=⟨fun|170=>133|n=>n,fun|70=>220|3=>3|0=>0|72=>222|37=>47|5=>5|n=>n,fun|n=>n⟩
theorem Tryz.lays170:Go.Proofs.Lays.n170 Tryz.prog Tryz.lays170_ren:={
 mixed:=by kernel_rfl
 f170:=Tryz.func133.trans (congrArg some (by kernel_rfl))
 t0:=Tryz.underlying0
 a0:=Tryz.isAgg0
 z0:=Tryz.sizeOf0
 v0:=Tryz.zeroValue0
 t3:=Tryz.underlying3
 a3:=Tryz.isAgg3
 z3:=Tryz.sizeOf3
 v3:=Tryz.zeroValue3
 t37:=Tryz.underlying47
 a37:=Tryz.isAgg47
 z37:=Tryz.sizeOf47
 v37:=Tryz.zeroValue47
 t70:=Tryz.underlying220
 a70:=Tryz.isAgg220
 z70:=Tryz.sizeOf220
 v70:=Tryz.zeroValue220
 t72:=Tryz.underlying222
 a72:=Tryz.isAgg222
 z72:=Tryz.sizeOf222
 v72:=Tryz.zeroValue222}
def Tryz.lays169_ren:Go.Shelf.Ren:=⟨fun|169=>135|n=>n,fun|70=>220|9=>9|0=>0|72=>222|37=>47|127=>260|3=>3|5=>5|n=>n,fun|n=>n⟩
theorem Tryz.lays169:Go.Proofs.Lays.n169 Tryz.prog Tryz.lays169_ren:={
 mixed:=by kernel_rfl
 f169:=Tryz.func135.trans (congrArg some (by kernel_rfl))
 t0:=Tryz.underlying0
 a0:=Tryz.isAgg0
 z0:=Tryz.sizeOf0
 v0:=Tryz.zeroValue0
 t3:=Tryz.underlying3
 a3:=Tryz.isAgg3
 z3:=Tryz.sizeOf3
 v3:=Tryz.zeroValue3
 t9:=Tryz.underlying9
 a9:=Tryz.isAgg9
 z9:=Tryz.sizeOf9
 v9:=Tryz.zeroValue9
 t37:=Tryz.underlying47
 a37:=Tryz.isAgg47
 z37:=Tryz.sizeOf47
 v37:=Tryz.zeroValue47
 t70:=Tryz.underlying220
 a70:=Tryz.isAgg220
 z70:=Tryz.sizeOf220
 v70:=Tryz.zeroValue220
 t72:=Tryz.underlying222
 a72:=Tryz.isAgg222
 z72:=Tryz.sizeOf222
 v72:=Tryz.zeroValue222
 t127:=Tryz.underlying260
 a127:=Tryz.isAgg260
 z127:=Tryz.sizeOf260
 v127:=Tryz.zeroValue260}
theorem Tryz.Builder_Extra_169:Builder.Extra Tryz.prog Tryz.lays169_ren:={
 sizeBuilder:=by kernel_rfl
 liesBuilder:=by kernel_rfl
 t5:=Tryz.underlying5
 a5:=Tryz.isAgg5
 z5:=Tryz.sizeOf5
 v5:=Tryz.zeroValue5
 infoByte:=by kernel_rfl
 cellsByte:=by kernel_rfl
 sizeByte:=by kernel_rfl
 neB5:=by decide}
open Go.RowKit in
theorem Tryz.Builder_Len_f (B b:Nat) (bs:List Value) (w:World) (h:aTu 222 5 B b bs w):
  Calls Tryz.prog 133 #[.pointer (some ⟨b,0,none⟩)] w fun e w'=>e=.returned (.int .i64 bs.length)/\w'=w:=Any.Builder_Len_f Tryz.lays170 B b bs w h
open Go.RowKit in
theorem Tryz.Builder_String_any_k (B b:Nat) (l:List UInt8) (w:World) (h:aTu 222 5 B b (nS l) w) (hBw:B<=w.heap.size):
  Calls Tryz.prog 135 #[.pointer (some ⟨b,0,none⟩)] w fun e w'=>e=.returned (.string ⟨l.toArray⟩)/\(aTu 222 5 B b (nS l) w'/\Below B w w'/\Lib.OthersKept 5 (some b) w w'):=aTv Tryz.lays169 Tryz.Builder_Extra_169 B b l w h hBw
end Go.Proofs
namespace Go.Proofs.YtmcogmmncfihhaaGreatDoor
def rT (x:BitVec 32):BitVec 32:=if x.msb then(x<<<1)^^^79764919#32 else x<<<1
def rU (x:BitVec 32) (b:Bool):BitVec 32:=if x.msb != b then(x<<<1)^^^79764919#32 else x<<<1
def jL:Nat->BitVec 32->BitVec 32
 |0,x=>x
 |k+1,x=>rT (jL k x)
theorem TS (x y:BitVec 32):rT (x^^^y)=rT x^^^rT y:=by
 unfold rT;rw[BitVec.msb_xor,aTd]
 cases hx:x.msb<;>cases hy:y.msb<;>simp
 ·rw[tU]
 ·rw[tU,tU,BitVec.xor_comm (y<<<1)]
 ·rw[tU,<-tU (79764919#32),BitVec.xor_comm (79764919#32) (y<<<1),tU,BitVec.xor_self,BitVec.xor_zero]
theorem KI (k:Nat) (x y:BitVec 32):jL k (x^^^y)=jL k x^^^jL k y:=by
 induction k with
 |zero=>rfl
 |succ k ih=>unfold jL;rw[ih,TS]
def kN (i:Nat):BitVec 32:=jL 8 (qZ 32 i<<<24)
def nY (x:BitVec 32) (b:Nat):Nat->BitVec 32
 |0=>x
 |k+1=>rU (nY x b k) (b.testBit (7-k))
theorem aIo:∀b:Fin 256,∀k:Fin 8,rU (0#32) (b.val.testBit (7-k.val))^^^(qZ 32 b.val<<<(24+k.val+1))=rT (qZ 32 b.val<<<(24+k.val)):=by decide+kernel
theorem aIp (x:BitVec 32) (b:Bool):rU x b=rT x^^^rU (0#32) b:=by
 unfold rU rT
 cases hx:x.msb<;>cases b<;>simp[tU]
theorem aIq (x:BitVec 32) (b:Nat) (hb:b<256):∀k,k<=8->nY x b k^^^(qZ 32 b<<<(24+k))=jL k (x^^^(qZ 32 b<<<24)):=by
 intro k
 induction k with
 |zero=>intro _;rfl
 |succ k ih=>
  intro hk;have h:=ih (by omega);unfold jL nY;rw[<-h,TS,aIp,tU]
  congr 1
  exact aIo ⟨b,hb⟩ ⟨k,by omega⟩
theorem aIr:∀b:Fin 256,qZ 32 b.val<<<32=0#32:=by decide+kernel
theorem aIs (x:BitVec 32) (b:Nat) (hb:b<256):nY x b 8=jL 8 (x^^^(qZ 32 b<<<24)):=by
 rw[<-aIq x b hb 8 (Nat.le_refl _),show 24+8=32 from rfl,aIr ⟨b,hb⟩,BitVec.xor_zero]
theorem aIt:∀k (x:BitVec 32),x.toNat*2^k<4294967296->(jL k x).toNat=x.toNat*2^k:=by
 intro k
 induction k with
 |zero=>intro x _;simp[jL]
 |succ k ih=>
  intro x hx;rw[Nat.pow_succ,<-Nat.mul_assoc] at hx ⊢;have h:=ih x (by omega);unfold jL rT;have hm:(jL k x).msb=false:=by
   rw[BitVec.msb_eq_decide,h];exact decide_eq_false (by simp;omega)
  rw[hm,if_neg (by decide),GP,h,GQ];rw[kU (by simp;omega)]
theorem aIu (x:BitVec 32):x=(x&&&0xffffff#32)^^^((x>>>24)<<<24):=by
 apply BitVec.eq_of_getLsbD_eq;intro i hi;simp only[BitVec.getLsbD_xor,BitVec.getLsbD_and,BitVec.getLsbD_shiftLeft,BitVec.getLsbD_ushiftRight]
 by_cases h:i<24
 ·have:(0xffffff#32).getLsbD i=true:=by
   rcases(show ∃j:Fin 24,j.val=i from⟨⟨i,h⟩,rfl⟩) with⟨j,rfl⟩;exact(by decide+kernel:∀j:Fin 24,(0xffffff#32).getLsbD j.val=true) j
  simp[h,this]
 ·have:(0xffffff#32).getLsbD i=false:=by
   rcases(show ∃j:Fin 8,j.val+24=i from⟨⟨i-24,by omega⟩,by simp;omega⟩) with⟨j,rfl⟩;exact(by decide+kernel:∀j:Fin 8,(0xffffff#32).getLsbD (j.val+24)=false) j
  rw[this];simp[h,hi,show 24+(i-24)=i by omega]
theorem aIv (c:BitVec 32) (b:Nat) (hb:b<256):nY c b 8=(c<<<8)^^^kN ((c>>>24).toNat^^^b):=by
 rw[aIs c b hb];have hs:=aIu c;have hlow:jL 8 (c&&&0xffffff#32)=c<<<8:=by
  apply BitVec.eq_of_toNat_eq;have h1:(c&&&0xffffff#32).toNat=c.toNat%16777216:=by
   rw[BitVec.toNat_and];exact Nat.and_two_pow_sub_one_eq_mod c.toNat 24
  rw[aIt 8 _ (by rw[h1];omega),h1,GP,GQ];omega
 have hx:qZ 32 ((c>>>24).toNat^^^b)=(c>>>24)^^^qZ 32 b:=by
  apply BitVec.eq_of_toNat_eq;have h1:(c>>>24).toNat<256:=by rw[aTf,AK];have:=c.isLt;omega
  have h2:(c>>>24).toNat^^^b<256:=Nat.xor_lt_two_pow (n:=8) h1 hb;rw[aCq,BitVec.toNat_xor,aCq,kU (by omega),kU (b:=2^32) (by omega)]
 unfold kN;rw[hx,aTd,KI,KI]
 conv=>lhs;rw[hs,KI]
 rw[hlow,tU]
def kQ (c:BitVec 32) (s:List UInt8):BitVec 32:=s.foldl (fun c b=>nY c b.toNat 8) c
def fG (s:List UInt8):BitVec 32:= ~~~ kQ (0xffffffff#32) s
theorem aIw (c:BitVec 32) (s:List UInt8) (b:UInt8):kQ c (s++[b])=nY (kQ c s) b.toNat 8:=by unfold kQ;rw[NK];rfl
end Go.Proofs.YtmcogmmncfihhaaGreatDoor
namespace Go.Proofs.YtmcogmmncfihhaaGreatDoor
open Go.RowKit Go
theorem DW (a b:BitVec 32):bits .xor .u32 (a.toNat:Int) (b.toNat:Int)=((a^^^b).toNat:Int):=by
 rw[u32_xor_nat _ _ a.isLt b.isLt,BitVec.toNat_xor]
theorem WC (a:BitVec 32):rA.wrap ((a.toNat:Int)*2)=((a<<<1).toNat:Int):=by
 rw[aCs,GP,GQ];omega
theorem aKn (a:BitVec 32):rA.wrap ((a.toNat:Int)*256)=((a<<<8).toNat:Int):=by
 rw[aCs,GP,GQ];omega
theorem aKo (a:Nat) (_h:a<256):rA.wrap ((a:Int)*16777216)=((qZ 32 a<<<24).toNat:Int):=by
 rw[aCs,GP,GQ,aCq];omega
theorem aKp (a:BitVec 32):(a.toNat:Int)/16777216=((a>>>24).toNat:Int):=by
 rw[aTf,AK];omega
theorem WD (a:BitVec 32):(a.toNat:Int)/2147483648=(a.msb.toNat:Int):=by
 rw[BitVec.msb_eq_decide];have:=a.isLt
 by_cases h:2^(32-1)<=a.toNat
 ·rw[decide_eq_true h];simp only[Bool.toNat_true];omega
 ·rw[decide_eq_false h];simp only[Bool.toNat_false];omega
theorem aKq (a:BitVec 32):bits .and .u32 (a.toNat:Int) 2147483648=if a.msb then 2147483648 else 0:=by
 rw[show(2147483648:Int)=((2147483648:Nat):Int) from rfl,u32_and_nat _ _ a.isLt (by decide),show(2147483648:Nat)=2^31 from rfl,Go.nat_bit 31 a.toNat];have h:=WD a;have h2:a.toNat/2^31=a.msb.toNat:=by
  have:((a.toNat/2^31:Nat):Int)=(a.msb.toNat:Int):=by rw[<-h];omega
  exact Int.ofNat_inj.1 this
 rw[h2]
 cases a.msb<;>rfl
theorem WG (a:BitVec 32):bits .xor .u32 (a.toNat:Int) 4294967295=((~~~ a).toNat:Int):=by
 have h:=DW a (0xffffffff#32);have e:(((0xffffffff#32:BitVec 32).toNat:Nat):Int)=4294967295:=by decide
 rw[e] at h;rw[h];have:a^^^(0xffffffff#32)= ~~~ a:=by
  have:=BitVec.xor_allOnes (x:=a);exact this
 rw[this]
theorem aKr (a:BitVec 32):rA.wrap (2*(a.toNat:Int))=((a<<<1).toNat:Int):=by rw[Int.mul_comm];exact WC a
theorem WE (a:BitVec 32):bits .xor .u32 (a.toNat:Int) 79764919=((a^^^79764919#32).toNat:Int):=by
 have h:=DW a (79764919#32);have e:(((79764919#32:BitVec 32).toNat:Nat):Int)=79764919:=by decide
 rwa[e] at h
theorem aKs (X:Nat) (x:BitVec 32) (hX:X=x.toNat) (b:Bool) (w:World):
  Calls Tryz.prog 78 #[.int .u32 (X:Int),.int .u32 (b.toNat:Int)] w fun e w'=>e=.returned (.int .u32 ((rU x b).toNat:Int))/\w'=w:=by
 have e1:=WD x;have e2:=aKr x;obtain⟨y,hy⟩:∃y,y=x<<<1:=⟨_,rfl⟩;have e3:=WE y;rw[<-hy] at e2;have HZ:=hid (show rU x b=if x.msb != b then y^^^79764919#32 else y by rw[hy];rfl);obtain⟨Y,hY⟩:∃Y,Y=y.toNat:=⟨_,rfl⟩;obtain⟨Z,hZ⟩:∃Z,Z=(y^^^79764919#32).toNat:=⟨_,rfl⟩;obtain⟨m,hm⟩:∃m,m=x.msb:=⟨_,rfl⟩;rw[<-hX,<-hm] at e1;rw[<-hX,<-hY] at e2;rw[<-hY,<-hZ] at e3;rw[<-hm] at HZ;have HY:=hid hY;have HZZ:=hid hZ;clear hX hy hY hZ hm
 by_cases h:m=b
 ·subst h;have t1:((m.toNat:Int) != (m.toNat:Int))=false:=by simp
  have t2:((m.toNat:Int)==(m.toNat:Int))=true:=by simp
  clear e3;go_enter Tryz.func78,Tryz.ntmps78;go_wp2_with fail;go_ret;exact⟨fX (by rw[HZ.out,HY.out];cases m<;>rfl),rfl⟩
 ·have t1:((m.toNat:Int) != (b.toNat:Int))=true:=by cases m<;>cases b<;>simp_all
  have t2:((m.toNat:Int)==(b.toNat:Int))=false:=by cases m<;>cases b<;>simp_all
  have H:=hid h;clear h;go_enter Tryz.func78,Tryz.ntmps78;go_wp2_with fail;go_ret;refine⟨fX ?_,rfl⟩;have h:=H.out;rw[HZ.out,HZZ.out,if_pos (by cases m<;>cases b<;>simp_all)]
theorem WF (c:BitVec 32) (s:List UInt8) (k:Nat) (b:UInt8) (h:s[k]? =some b):kQ c (s.take (k+1))=nY (kQ c (s.take k)) b.toNat 8:=by
 rw[cQ,h,mX,aIw]
theorem aKt (c:BitVec 32) (s:ByteArray) (w:World) (hs:s.size<=140737488355328):
  Calls Tryz.prog 61 #[.int .u32 (c.toNat:Int),.string s] w fun e w'=>e=.returned (.int .u32 ((~~~ kQ (~~~ c) s.data.toList).toNat:Int))/\w'=w:=by
 have HL:=hid (show s.data.toList.length=s.size by simp);have x1:=WG c;obtain⟨C,hC⟩:∃C,C=c.toNat:=⟨_,rfl⟩;obtain⟨D,hD⟩:∃D,D=(~~~ c).toNat:=⟨_,rfl⟩;rw[<-hC] at x1 ⊢;rw[<-hD] at x1;have HD:=hid hD;obtain⟨cc,hcc⟩:∃cc,cc= ~~~ c:=⟨_,rfl⟩;rw[<-hcc] at HD ⊢;clear hC hD hcc;go_enter Tryz.func61,Tryz.ntmps61;go_wp2_with fail
 go_loopg [5,6,7] s.size (fun g s5 s6 _s7 wr=>∃k X:Nat,k<=s.size/\g=s.size-k/\s6=.int .i64 (k:Int)/\s5=.int .u32 (X:Int)/\Hid (X=(kQ cc (s.data.toList.take k)).toNat)/\wr=w)
 case atStart=>exact⟨0,D,Nat.zero_le _,rfl,rfl,rfl,HD,rfl⟩
 case round=>
  obtain⟨k,X,hk,hg,rfl,rfl,HX,rfl⟩:=hrel;have HG:=hid hg;clear hg x1
  by_cases hlt:k<s.size
  ·have t1:decide ((k:Int)<(s.size:Int))=true:=decide_eq_true (by omega);have hb:=s[k].toNat_lt;have HS:=hid (WF cc s.data.toList k s[k] (eW s k hlt));have HG1:=HG;obtain⟨x,hx⟩:∃x,x=kQ cc (s.data.toList.take k):=⟨_,rfl⟩;rw[<-hx] at HX HS;clear hx;go_wp2_with fail
   go_loopg [5,7] 8 (fun g s5 s7 wx=>∃j Y:Nat,j<=8/\g=8-j/\s7=.int .i64 (7-(j:Int))/\s5=.int .u32 (Y:Int)/\Hid (Y=(nY x s[k].toNat j).toNat)/\wx=wr)
   case atStart=>exact⟨0,X,by omega,rfl,by go_num,rfl,HX,rfl⟩
   case round=>
    obtain⟨j,Y,hj,hg,rfl,rfl,HY,rfl⟩:=hrel;have HG:=hid hg;clear hg
    by_cases hlj:j<8
    ·obtain⟨q,hq⟩:∃q:Nat,q=7-j:=⟨_,rfl⟩;have ej:(7:Int)-(j:Int)=(q:Int):=by omega
     have t2:decide ((q:Int)>=0)=true:=decide_eq_true (by omega);have t3:decide (0<=(q:Int))=true:=decide_eq_true (by omega);have e4:=yH s[k].toNat q;have e7:min q 8=q:=by omega
     rw[ej];have HQ:=hid hq;obtain⟨z,hz⟩:∃z,z=s[k].toNat.testBit q:=⟨_,rfl⟩;rw[<-hz] at e4;have e5:(z.toNat:Int)%4294967296=(z.toNat:Int):=by cases z<;>decide
     have hcall:=fun W=>aKs Y (nY x s[k].toNat j) HY.out z W
     have HC:=hid (show nY x s[k].toNat (j+1)=rU (nY x s[k].toNat j) z by rw[hz,hq];rfl);obtain⟨V,hV⟩:∃V,V=(rU (nY x s[k].toNat j) z).toNat:=⟨_,rfl⟩;rw[<-hV] at hcall;have HV:=hid hV;clear hq ej hz hV;go_wp2_with fail;refine(hcall _).mono ?_;rintro e w1 ⟨rfl,rfl⟩;go_wp2_with fail;have hg:=HG.out;have hq:=HQ.out
     go_roundg (8-(j+1))
     case measure=>omega
     case rel=>exact⟨j+1,V,by omega,rfl,by go_num,rfl,hid (by rw[HV.out,HC.out]),rfl⟩
    ·have t2:decide ((7:Int)-(j:Int)>=0)=false:=decide_eq_false (by omega);have t3:decide (0<=(7:Int)-(j:Int))=false:=decide_eq_false (by omega);have ej:j=8:=by omega
     subst ej;go_wp2_with fail;have hg:=HG1.out
     go_roundg (s.size-(k+1))
     case measure=>omega
     case rel=>exact⟨k+1,Y,by omega,rfl,by go_num,rfl,hid (by rw[HS.out];exact HY.out),rfl⟩
  ·have t1:decide ((k:Int)<(s.size:Int))=false:=decide_eq_false (by omega);obtain⟨x,hx⟩:∃x,x=kQ cc (s.data.toList.take k):=⟨_,rfl⟩;have hx2:=HX.out;rw[<-hx] at hx2;have x2:=WG x;rw[<-hx2] at x2;obtain⟨Z,hZ⟩:∃Z,Z=(~~~ x).toNat:=⟨_,rfl⟩;rw[<-hZ] at x2;have HF:=hid (show((Z:Nat):Int)=((~~~ kQ cc s.data.toList).toNat:Int) by rw[hZ,hx,List.take_of_length_le (by rw[HL.out];omega)]);clear hx hx2 hZ;go_wp2_with fail;go_ret;exact⟨fX HF.out,rfl⟩
theorem WH (s:ByteArray) (w:World) (hs:s.size<=140737488355328):
  Calls Tryz.prog 40 #[.string s] w fun e w'=>e=.returned (.int .u32 ((fG s.data.toList).toNat:Int))/\w'=w:=by
 have h0:=aKt (0#32) s w hs;have e0:(((0#32:BitVec 32).toNat:Nat):Int)=0:=rfl;have e1:(~~~ kQ (~~~ (0#32)) s.data.toList)=fG s.data.toList:=rfl;rw[e0,e1] at h0;go_enter Tryz.func40,Tryz.ntmps40;go_wp2_with fail;refine h0.mono ?_;rintro e w1 ⟨rfl,rfl⟩;go_wp2_with fail;go_ret;exact⟨rfl,rfl⟩
end Go.Proofs.YtmcogmmncfihhaaGreatDoor
namespace Go.Proofs.YtmcogmmncfihhaaGreatDoor
theorem SN:∀(n:Nat) (l:List Nat),l.Nodup->(∀x∈l,x<n)->l.length<=n
 |0,l,_,h=>by
  cases l with
  |nil=>simp
  |cons x l=>have:=h x (List.mem_cons_self ..);omega
 |n+1,l,hn,h=>by
  have ih:=SN n (l.erase n) (hn.erase n) (fun x hx=>by
   have h1:=h x (List.mem_of_mem_erase hx);have h2:=(hn.mem_erase_iff.1 hx).1;omega)
  by_cases hm:n∈l
  ·rw[List.length_erase_of_mem hm] at ih;omega
  ·rw[List.erase_of_not_mem hm] at ih;omega
theorem SO (ws:List Int) (t:Nat) (ht:t<ws.length) {p:Int×HT} (hp:p∈bP ws t):∀x∈p.2.leaves,x<ws.length:=fun x hx=>by
 rw[<-HT.deep_map p.2 0] at hx;obtain⟨q,hq,rfl⟩:=List.mem_map.1 hx;exact((qM.all ws t ht).2 p hp q hq).1
def lG (ws:List Int) (t:Nat):List Nat:=(bM (bP ws t)).1.2.leaves++(bM (bM (bP ws t)).2).1.2.leaves
theorem KF (ws:List Int) (t:Nat) (ht:t+1<ws.length):(lG ws t).Nodup/\(∀x∈lG ws t,x<ws.length)/\(lG ws t).length<=ws.length:=by
 have hl:=pR ws t (by omega);obtain⟨a,b,s,hp,he,ea,eb,_,_,_⟩:=qL (ws.length+t) (bP ws t) (by omega);obtain⟨h1,_⟩:=JM (jT.all ws t (by omega)).nodup hp;have ha:a∈bP ws t:=hp.mem_iff.1 (by simp);have hb:b∈bP ws t:=hp.mem_iff.1 (by simp);unfold lG;rw[ea,eb];have h2:∀x∈a.2.leaves++b.2.leaves,x<ws.length:=fun x hx=>by
  rcases List.mem_append.1 hx with hx|hx
  ·exact SO ws t (by omega) ha x hx
  ·exact SO ws t (by omega) hb x hx
 exact⟨h1,h2,SN _ _ h1 h2⟩
theorem SP (ws:List Int) (t:Nat):gO ws (t+1)=jJ (gO ws t) (lG ws t):=rfl
theorem SQ (ws:List Int):∀t,t<ws.length->∀j,j<ws.length->0<=(gO ws t).getD j 0/\(gO ws t).getD j 0<=(t:Int)
 |0,_,j,hj=>by simp[gO,hj]
 |t+1,ht,j,hj=>by
  have ih:=SQ ws t (by omega) j hj;have hl:=rN ws t;rw[SP,vZ _ _ (KF ws t ht).1 j (by omega)];split<;>omega
theorem aHn (deep:List Int) (all:List Nat) (y:Nat):jJ deep (all++[y])=(jJ deep all).set y ((jJ deep all).getD y 0+1):=by
 unfold jJ;rw[NK];rfl
theorem aHo (ws:List Int) (t:Nat) (ht:t+1<ws.length) {j y:Nat} (hy:(lG ws t)[j]? =some y):y<ws.length/\∃d:Int,(jJ (gO ws t) ((lG ws t).take j))[y]? =some d/\0<=d/\d<=1000+(ws.length:Int)/\
  jJ (gO ws t) ((lG ws t).take (j+1))=(jJ (gO ws t) ((lG ws t).take j)).set y (d+1):=by
 obtain⟨h1,h2,h3⟩:=KF ws t ht;have hyl:=h2 y (List.mem_of_getElem? hy);have hl:(jJ (gO ws t) ((lG ws t).take j)).length=ws.length:=by rw[CS,rN]
 have hg:=vZ ((lG ws t).take j) (gO ws t) (h1.sublist (List.take_sublist _ _)) y (by rw[rN];exact hyl);have hd:=SQ ws t (by omega) y hyl;have hsome:(jJ (gO ws t) ((lG ws t).take j))[y]? =some ((jJ (gO ws t) ((lG ws t).take j)).getD y 0):=by
  rw[aV,List.getElem?_eq_getElem (by omega)];rfl
 refine⟨hyl,_,hsome,?_,?_,?_⟩
 ·rw[hg];split<;>omega
 ·rw[hg];split<;>omega
 ·rw[cQ,hy,mX,aHn]
end Go.Proofs.YtmcogmmncfihhaaGreatDoor
namespace Go.Proofs.YtmcogmmncfihhaaGreatDoor
open Go.Shelf Go.RowKit
def zV:Go.Shelf.Ren:=⟨fun|166=>999983|167=>134|169=>135|170=>133|240=>158|276=>172|n=>n,fun|3=>3|4=>4|5=>5|9=>9|20=>20|37=>47|70=>220|72=>222|75=>66|80=>226|127=>260|164=>250|n=>n,fun|n=>n⟩
theorem aQr:Go.Proofs.Lays.n167 Tryz.prog zV:={
 mixed:=by kernel_rfl
 f167:=Tryz.func134.trans (congrArg some (by kernel_rfl))
 f240:=Tryz.func158.trans (congrArg some (by kernel_rfl))
 f276:=Tryz.func172.trans (congrArg some (by kernel_rfl))
 t0:=Tryz.underlying0
 a0:=Tryz.isAgg0
 z0:=Tryz.sizeOf0
 v0:=Tryz.zeroValue0
 t4:=Tryz.underlying4
 a4:=Tryz.isAgg4
 z4:=Tryz.sizeOf4
 v4:=Tryz.zeroValue4
 t5:=Tryz.underlying5
 a5:=Tryz.isAgg5
 z5:=Tryz.sizeOf5
 v5:=Tryz.zeroValue5
 t9:=Tryz.underlying9
 a9:=Tryz.isAgg9
 z9:=Tryz.sizeOf9
 v9:=Tryz.zeroValue9
 t20:=Tryz.underlying20
 a20:=Tryz.isAgg20
 z20:=Tryz.sizeOf20
 v20:=Tryz.zeroValue20
 t37:=Tryz.underlying47
 a37:=Tryz.isAgg47
 z37:=Tryz.sizeOf47
 v37:=Tryz.zeroValue47
 t70:=Tryz.underlying220
 a70:=Tryz.isAgg220
 z70:=Tryz.sizeOf220
 v70:=Tryz.zeroValue220
 t72:=Tryz.underlying222
 a72:=Tryz.isAgg222
 z72:=Tryz.sizeOf222
 v72:=Tryz.zeroValue222
 t75:=Tryz.underlying66
 a75:=Tryz.isAgg66
 z75:=Tryz.sizeOf66
 v75:=Tryz.zeroValue66
 t164:=Tryz.underlying250
 a164:=Tryz.isAgg250
 z164:=Tryz.sizeOf250
 v164:=Tryz.zeroValue250}
theorem aQs:Go.Proofs.Lays.n169 Tryz.prog zV:={
 mixed:=by kernel_rfl
 f169:=Tryz.func135.trans (congrArg some (by kernel_rfl))
 t0:=Tryz.underlying0
 a0:=Tryz.isAgg0
 z0:=Tryz.sizeOf0
 v0:=Tryz.zeroValue0
 t3:=Tryz.underlying3
 a3:=Tryz.isAgg3
 z3:=Tryz.sizeOf3
 v3:=Tryz.zeroValue3
 t9:=Tryz.underlying9
 a9:=Tryz.isAgg9
 z9:=Tryz.sizeOf9
 v9:=Tryz.zeroValue9
 t37:=Tryz.underlying47
 a37:=Tryz.isAgg47
 z37:=Tryz.sizeOf47
 v37:=Tryz.zeroValue47
 t70:=Tryz.underlying220
 a70:=Tryz.isAgg220
 z70:=Tryz.sizeOf220
 v70:=Tryz.zeroValue220
 t72:=Tryz.underlying222
 a72:=Tryz.isAgg222
 z72:=Tryz.sizeOf222
 v72:=Tryz.zeroValue222
 t127:=Tryz.underlying260
 a127:=Tryz.isAgg260
 z127:=Tryz.sizeOf260
 v127:=Tryz.zeroValue260}
theorem aQt:Go.Proofs.Lays.n170 Tryz.prog zV:={
 mixed:=by kernel_rfl
 f170:=Tryz.func133.trans (congrArg some (by kernel_rfl))
 t0:=Tryz.underlying0
 a0:=Tryz.isAgg0
 z0:=Tryz.sizeOf0
 v0:=Tryz.zeroValue0
 t3:=Tryz.underlying3
 a3:=Tryz.isAgg3
 z3:=Tryz.sizeOf3
 v3:=Tryz.zeroValue3
 t37:=Tryz.underlying47
 a37:=Tryz.isAgg47
 z37:=Tryz.sizeOf47
 v37:=Tryz.zeroValue47
 t70:=Tryz.underlying220
 a70:=Tryz.isAgg220
 z70:=Tryz.sizeOf220
 v70:=Tryz.zeroValue220
 t72:=Tryz.underlying222
 a72:=Tryz.isAgg222
 z72:=Tryz.sizeOf222
 v72:=Tryz.zeroValue222}
theorem MV:Builder.Extra Tryz.prog zV:={
 sizeBuilder:=by kernel_rfl
 liesBuilder:=by kernel_rfl
 t5:=Tryz.underlying5
 a5:=Tryz.isAgg5
 z5:=Tryz.sizeOf5
 v5:=Tryz.zeroValue5
 infoByte:=by kernel_rfl
 cellsByte:=by kernel_rfl
 sizeByte:=by kernel_rfl
 neB5:=by decide}
def Bld (w:World) (B b:Nat) (l:List UInt8):Prop:=aTu 222 5 B b (nS l) w
theorem aAm (B b:Nat) (l:List UInt8) (c:UInt8) (w:World) (h:Bld w B b l) (hlen:l.length+1<=140737488355328) (hB:B<=w.heap.size):
  Calls Tryz.prog 134 #[.pointer (some ⟨b,0,none⟩),.int .u8 (c.toNat:Int)] w fun e w'=>e=.returned .nilIface/\Bld w' B b (l++[c])/\Below B w w'/\Lib.OthersKept 5 (some b) w w':=by
 refine(Any.Builder_WriteByte_k aQr MV B b (nS l) (c.toNat:Int) w h (by simpa [nS] using hlen) hB).mono ?_;rintro e w' ⟨rfl,h1,h2,h3⟩;refine⟨rfl,.inr ?_,h2,h3⟩;have e:nS (l++[c])=nS l++[Value.int .u8 (c.toNat:Int)]:=by simp[nS]
 rw[e];exact h1
theorem aAn (B b:Nat) (l:List UInt8) (w:World) (h:Bld w B b l) (hB:B<=w.heap.size):
  Calls Tryz.prog 135 #[.pointer (some ⟨b,0,none⟩)] w fun e w'=>e=.returned (.string (mkS l))/\Bld w' B b l/\Below B w w'/\Lib.OthersKept 5 (some b) w w':=
 aTv aQs MV B b l w h hB
theorem EW (B b:Nat) (l:List UInt8) (w:World) (h:Bld w B b l):
  Calls Tryz.prog 133 #[.pointer (some ⟨b,0,none⟩)] w fun e w'=>e=.returned (.int .i64 (l.length:Int))/\w'=w:=by
 refine(Any.Builder_Len_f aQt B b (nS l) w h).mono ?_;rintro e w' ⟨rfl,rfl⟩;refine⟨?_,rfl⟩;simp[nS]
end Go.Proofs.YtmcogmmncfihhaaGreatDoor
namespace Go.Proofs.YtmcogmmncfihhaaGreatDoor
def ahd (a b:Int×Int):Prop:=a.1<b.1\/(a.1=b.1/\a.2<b.2)
instance (a b:Int×Int):Decidable (ahd a b):=inferInstanceAs (Decidable (_\/_))
theorem FC {a b c:Int×Int} (h1:¬ahd b a) (h2:¬ahd c b):¬ahd c a:=by unfold ahd at*;omega
theorem FD {a b:Int×Int} (h:ahd a b):¬ahd b a:=by unfold ahd at*;omega
def mR (l:List (Int×Int)) (i j:Nat):List (Int×Int):=(l.set i (l.getD j (0,0))).set j (l.getD i (0,0))
theorem xG (l:List (Int×Int)) (i j:Nat):(mR l i j).length=l.length:=by simp[mR]
theorem aAz {l:List (Int×Int)} {i j:Nat} (hi:i<l.length) (hj:j<l.length) (k:Nat):(mR l i j).getD k (0,0)=if k=j then l.getD i (0,0) else if k=i then l.getD j (0,0) else l.getD k (0,0):=by
 unfold mR;rw[aV]
 by_cases h1:k=j
 ·subst h1;rw[if_pos rfl,FS (by simpa using hj)];rfl
 ·rw[if_neg h1,qU (fun e=>h1 e.symm)]
  by_cases h2:k=i
  ·subst h2;rw[if_pos rfl,FS hi];rfl
  ·rw[if_neg h2,qU (fun e=>h2 e.symm)];rfl
def nN (l:List (Int×Int)):Prop:=∀j,0<j->j<l.length->¬ahd (l.getD j (0,0)) (l.getD ((j-1)/2) (0,0))
def pA (l:List (Int×Int)) (i:Nat):Prop:=(∀j,0<j->j<l.length->j≠i->¬ahd (l.getD j (0,0)) (l.getD ((j-1)/2) (0,0)))/\
 (0<i->∀j,0<j->j<l.length->(j-1)/2=i->¬ahd (l.getD j (0,0)) (l.getD ((i-1)/2) (0,0)))
def sD (l:List (Int×Int)) (i:Nat):Prop:=(∀j,0<j->j<l.length->(j-1)/2≠i->¬ahd (l.getD j (0,0)) (l.getD ((j-1)/2) (0,0)))/\
 (0<i->∀j,0<j->j<l.length->(j-1)/2=i->¬ahd (l.getD j (0,0)) (l.getD ((i-1)/2) (0,0)))
theorem pA.start {l:List (Int×Int)} (h:nN l) (x:Int×Int):pA (l++[x]) l.length:=by
 have hg:∀k,k<l.length->(l++[x]).getD k (0,0)=l.getD k (0,0):=fun k hk=>by rw[aV,List.getElem?_append_left hk,aV]
 refine⟨fun j h0 hj hne=>?_,fun h0 j _ hj he=>?_⟩
 ·rw[aL,fK] at hj;rw[hg j (by omega),hg _ (by omega)];exact h j h0 (by omega)
 ·rw[aL,fK] at hj;omega
theorem pA.top {l:List (Int×Int)} (h:pA l 0):nN l:=fun j h0 hj=>h.1 j h0 hj (by omega)
theorem pA.step {l:List (Int×Int)} {i:Nat} (h:pA l i) (h0:0<i) (hi:i<l.length) (ha:ahd (l.getD i (0,0)) (l.getD ((i-1)/2) (0,0))):pA (mR l i ((i-1)/2)) ((i-1)/2):=by
 have hu:(i-1)/2<l.length:=by omega
 have hne:i≠(i-1)/2:=by omega
 have g:=aAz hi hu;generalize hup:(i-1)/2=u at*
 refine⟨fun j hj0 hj hju=>?_,fun hu0 j hj0 hj he=>?_⟩
 ·rw[xG] at hj;rw[g,g,if_neg hju]
  by_cases h1:j=i
  ·subst h1;rw[if_pos rfl,hup,if_pos rfl];exact FD ha
  ·rw[if_neg h1]
   by_cases h2:(j-1)/2=u
   ·rw[if_pos h2];have:=h.1 j hj0 hj h1;rw[h2] at this;exact FC (FD ha) this
   ·rw[if_neg h2]
    by_cases h3:(j-1)/2=i
    ·rw[if_pos h3];have:=h.2 h0 j hj0 hj h3;rw[hup] at this;exact this
    ·rw[if_neg h3];exact h.1 j hj0 hj h1
 ·rw[xG] at hj;have hup2:(u-1)/2≠u/\(u-1)/2≠i:=by omega
  rw[g,g,if_neg hup2.1,if_neg hup2.2,if_neg (show j≠u by omega)];have k1:=h.1 u hu0 hu (fun e=>hne e.symm)
  by_cases h1:j=i
  ·rw[if_pos h1];exact k1
  ·rw[if_neg h1];have:=h.1 j hj0 hj h1;rw[he] at this;exact FC k1 this
theorem nN.least {l:List (Int×Int)} (h:nN l):∀j,j<l.length->¬ahd (l.getD j (0,0)) (l.getD 0 (0,0)):=by
 intro j
 induction j using Nat.strongRecOn with
 |ind j ih=>
  intro hj;rcases Nat.eq_zero_or_pos j with rfl|h0
  ·unfold ahd;omega
  ·exact FC (ih ((j-1)/2) (by omega) (by omega)) (h j h0 hj)
theorem sD.start {l:List (Int×Int)} (h:nN l) (h0:0<l.length):sD ((l.set 0 (l.getD (l.length-1) (0,0))).take (l.length-1)) 0:=by
 refine⟨fun j hj0 hj he=>?_,fun h=>by omega⟩;rw[List.length_take,List.length_set] at hj;have g:∀k,0<k->k<l.length-1->((l.set 0 (l.getD (l.length-1) (0,0))).take (l.length-1)).getD k (0,0)=l.getD k (0,0):=fun k hk0 hk=>by
  rw[aV,List.getElem?_take,if_pos hk,qU (by omega),aV]
 rw[g j hj0 (by omega),g _ (by omega) (by omega)];exact h j hj0 (by omega)
theorem sD.step {l:List (Int×Int)} {i f:Nat} (h:sD l i) (hf0:0<f) (hf:f<l.length) (hfi:(f-1)/2=i) (ha:ahd (l.getD f (0,0)) (l.getD i (0,0)))
  (hl:∀j,0<j->j<l.length->(j-1)/2=i->¬ahd (l.getD j (0,0)) (l.getD f (0,0))):sD (mR l i f) f:=by
 have hi:i<l.length:=by omega
 have hne:i≠f:=by omega
 have g:=aAz hi hf;refine⟨fun j hj0 hj he=>?_,fun _ j hj0 hj he=>?_⟩
 ·rw[xG] at hj;rw[g,g,if_neg he]
  by_cases h1:j=f
  ·subst h1;rw[if_pos rfl,if_pos hfi];exact FD ha
  ·rw[if_neg h1]
   by_cases h2:j=i
   ·subst h2;rw[if_pos rfl,if_neg (by omega)];exact h.2 hj0 f hf0 hf hfi
   ·rw[if_neg h2]
    by_cases h3:(j-1)/2=i
    ·rw[if_pos h3];exact hl j hj0 hj h3
    ·rw[if_neg h3];exact h.1 j hj0 hj h3
 ·rw[xG] at hj;rw[g,g,hfi,if_neg hne,if_pos rfl,if_neg (show j≠f by omega),if_neg (show j≠i by omega)];have:=h.1 j hj0 hj (by omega);rw[he] at this;exact this
def oD (r:bQ):List (Int×Int):=r.map (fun p=>(p.1,(p.2.root:Int)))
end Go.Proofs.YtmcogmmncfihhaaGreatDoor
