/-
  Texts put together (part 1): the walks and the plain laws on which the statement stands.
-/
import Derived.Below
import Derived.Test.YtihbnmlinkbnkaaGreatDoorRows
import Derived.WalkKit
import Derived.WalkSpells
import Derived.WalkLawsBesides
import Derived.Deep.QuietTactic
import Derived.BigQuiet
import Derived.Deep.LoopGhost
import Derived.Lib.Strings
import Derived.Deep.RegionHeld
import Derived.Deep.RegionWith
import Derived.Deep.DeepCutAuto
set_option maxRecDepth 100000
set_option maxHeartbeats 12800000
set_option linter.unusedVariables false
set_option linter.unusedSimpArgs false
open Go.Proofs.Tryz
open Go.Proofs.Tryz renaming prog->pG
open Array renaming getElem?_eq_some_iff->fE
open BitVec renaming ofNat->pZ,toNat_shiftLeft->IR
open Bool renaming and_eq_true->DF
open Go renaming Operand->iF,Program->fO,cell_of_row->yI,heap_alloc_new->NP,heap_setCell_same->aK8
open Go.AllReadyH renaming cons->DG,nil->WI
open Go.Ending renaming returned->NS
open Go.Oper renaming wp->nC
open Go.Value renaming int->bQ
open Go.World.ownsRow renaming alloc->WK,kept->yJ,lt->aK9
open List renaming ext_getElem?->lH,getElem?_eq_getElem->aN,replicate->aX
open Nat renaming le_mul_of_pos_right->AO,le_refl->aD,le_trans->aR,lt_of_lt_of_le->fB,lt_or_ge->cF,mod_eq_of_lt->jT,shiftLeft_eq->IS,zero_le->aO
namespace Go.Proofs.YtihbnmlinkbnkaaGreatDoor
section
universe u
theorem aE {p:Prop} [Decidable p] (h:¬p):decide p=false:=decide_eq_false h
theorem aG {p:Prop} [Decidable p] (h:p):decide p=true:=decide_eq_true h
theorem aA {c:Prop} {h:Decidable c} (d:¬c) {α:Sort u} {t e:α}:(ite c t e)=e:=if_neg d
theorem aB {c:Prop} {h:Decidable c} (d:c) {α:Sort u} {t e:α}:(ite c t e)=t:=if_pos d
theorem cB {α:Type u} [BEq α] [LawfulBEq α] {a b:α}:(a==b)=false↔a≠b:=beq_eq_false_iff_ne
end
section
open Go.RowKit
theorem hid {p:Prop} (h:p):Hid p:=h
def Rd (w:World) (v:Value) (n:Nat) (d:List Value):Prop:=
 ∃a cap,v=.slice a n cap/\n<=cap/\cap<=maxLen/\
  (d=[]\/∃b off,a=some ⟨b,off,none⟩/\b<w.heap.size/\∀j,j<d.length->w.cell? ⟨b,off+j,none⟩=some (d.getD j undef))
def RdI (w:World) (v:Value) (l:List Int):Prop:=Rd w v l.length (l.map (bQ .i64))
theorem pJ {W w1:World} (d:Below W.heap.size W w1):(∀b o,b<W.heap.size->w1.cell? ⟨b,o,none⟩=W.cell? ⟨b,o,none⟩)/\(∀b o,b<W.heap.size->w1.frozen? ⟨b,o,none⟩=W.frozen? ⟨b,o,none⟩):=
 ⟨fun b o h=>d.cell (p:=⟨b,o,none⟩) h,fun b o h=>d.frozen (p:=⟨b,o,none⟩) h⟩
theorem Rd.below {w w':World} {v:Value} {n:Nat} {A:List Value} (h:Rd w v n A) (F:Below w.heap.size w w'):Rd w' v n A:=by
 obtain⟨a,cap,rfl,G,H,d⟩:=h;refine⟨a,cap,rfl,G,H,?_⟩;rcases d with d|⟨b,off,rfl,I,J⟩
 ·exact .inl d
 ·exact .inr ⟨b,off,rfl,fB I F.size,fun j L=>by grind [pJ,Rd]⟩
theorem RdI.below {w w':World} {v:Value} {l:List Int} (h:RdI w v l) (d:Below w.heap.size w w'):RdI w' v l:=Rd.below h d
theorem RdI.open {w:World} {v:Value} {l:List Int} (h:RdI w v l):
  ∃a cap,v=.slice a l.length cap/\l.length<=cap/\cap<=maxLen/\
   (0<l.length->∃b off,a=some ⟨b,off,none⟩/\b<w.heap.size/\∀j x,l[j]? =some x->w.cell? ⟨b,off+j,none⟩=some (.int .i64 x)):=by
 obtain⟨a,cap,rfl,A,F,d⟩:=h;refine⟨a,cap,rfl,A,F,fun G=>?_⟩;rcases d with d|⟨b,off,rfl,H,I⟩
 ·have:=congrArg List.length d;simp at this;simp[this] at G
 grind
theorem eG {l:List Int} {k:Nat} (h:k<l.length):∃x,l[k]? =some x:=⟨_,aN h⟩
theorem Rd.of_own {w:World} {F e G n:Nat} {v:Value} {d:List Value} (h:w.ownsRow F e G v n d):Rd w v n d:=by
 obtain⟨L,h⟩:=h;rcases h with⟨rfl,rfl⟩|⟨g,cap,H,rfl,M,A,I,J,O,U⟩
 ·grind [Rd]
 ·refine⟨_,cap,rfl,I,J,.inr ⟨g,0,rfl,(fE.1 A).1,fun j V=>?_⟩⟩;rw[Nat.zero_add,yI w g j H e (0,0) A]
  grind
theorem RdI.of_own {w:World} {d e n:Nat} {v:Value} {l:List Int} (h:w.ownsRow d e 1 v n (l.map (bQ .i64))):RdI w v l:=by
 have A:n=l.length:=by have:=h.1;simp at this;omega
 grind [Rd.of_own,RdI]
theorem IX {w w':World} {B d e A n:Nat} {v:Value} {F:List Value} (h:w.ownsRow d e A v n F) (H:Below B w w') (I:w.heap.size<=B):w'.ownsRow d e A v n F:=by
 refine⟨h.1,?_⟩;rcases h.2 with J|⟨g,cap,L,rfl,M,G,rest⟩
 ·exact .inl J
 ·refine .inr ⟨g,cap,L,rfl,M,?_,rest⟩;rw[H.block g (fB (fE.1 G).1 I)];exact G
theorem DR {w:World} {d A e F n:Nat} {v:Value} {G:List Value} (h:w.ownsRow d e F v n G) (H:A<=d):w.ownsRow A e F v n G:=by
 refine⟨h.1,?_⟩;rcases h.2 with I|⟨g,cap,J,rfl,L,rest⟩
 ·exact .inl I
 ·exact .inr ⟨g,cap,J,rfl,aR H L,rest⟩
def Arr (w:World) (b:Nat) (e:TypeId) (l:List Value):Prop:=w.heap[b]? =some (.cells l.toArray e (0,0))
theorem Arr.lt {w:World} {b:Nat} {e:TypeId} {l:List Value} (h:Arr w b e l):b<w.heap.size:=by grind [Arr]
theorem Arr.cell {w:World} {b:Nat} {e:TypeId} {l:List Value} (h:Arr w b e l) {i:Nat} {v:Value} (hi:l[i]? =some v):w.cell? ⟨b,i,none⟩=some v:=by
 rw[yI w b i _ e (0,0) h];simpa using hi
theorem Arr.free {w:World} {b:Nat} {e:TypeId} {l:List Value} (h:Arr w b e l) (i:Nat):w.frozen? ⟨b,i,none⟩=false:=frozen_of_row w b i _ e h
theorem Arr.set {w:World} {b:Nat} {e:TypeId} {l:List Value} (h:Arr w b e l) (i:Nat) (v:Value):Arr (w.setCell ⟨b,i,none⟩ v) b e (l.set i v):=by
 unfold Arr;rw[aK8 w b i _ e v h];simp
theorem Arr.other {w:World} {b:Nat} {e:TypeId} {l:List Value} (h:Arr w b e l) (p:Addr) (d:p.block≠b) (v:Value):Arr (w.setCell p v) b e l:=by
 unfold Arr;rw[heap_setCell_other w p b v (fun e=>d e.symm)];exact h
theorem Arr.below {w w':World} {B b:Nat} {e:TypeId} {l:List Value} (h:Arr w b e l) (d:Below B w w') (A:b<B):Arr w' b e l:=by
 unfold Arr;rw[d.block b A];exact h
theorem Arr.alloc {w:World} {b:Nat} {e:TypeId} {l:List Value} (h:Arr w b e l) (o:Obj):Arr (w.alloc o) b e l:=by
 unfold Arr;rw[Below.heap_alloc w o b h.lt];exact h
theorem Arr.drewN {w:World} {b:Nat} {e:TypeId} {l:List Value} (h:Arr w b e l) (n:Nat):Arr (w.drewN n) b e l:=h
theorem Arr.grown {w w':World} {b:Nat} {e:TypeId} {l:List Value} {row:Option Nat} (h:Arr w b e l) (d:w.grownBy w' row) (A:some b≠row):Arr w' b e l:=by
 unfold Arr;rw[d.block b h.lt A];exact h
theorem Arr.new (w:World) (e:TypeId) (l:List Value):Arr (w.alloc (.cells l.toArray e)) w.heap.size e l:=NP w _
def tab (n:Nat) (f:Nat->Int):List Value:=(List.range n).map (fun d=>bQ .i64 (f d))
theorem lM (n:Nat) (f:Nat->Int) (i:Nat) (h:i<n):(tab n f)[i]? =some (.int .i64 (f i)):=by simp[tab,h]
theorem uE (n:Nat) (f f':Nat->Int) (i:Nat) (v:Int) (h:∀d,d<n->f' d=if d=i then v else f d):(tab n f).set i (.int .i64 v)=tab n f':=by
 apply lH
 grind [tab,lM]
structure ElT (P:fO) (t e:TypeId) (bytes:Nat) (z:Value):Prop where
 under:P.underlying t=some (.slice e)
 info:∃i,P.info? e=some i/\i.zero=some z/\i.size=1/\i.bytes=bytes
 cells:z.cells=#[z]
 pos:1<=bytes
theorem ElT.mk' {P:fO} {t e:TypeId} {d:Nat} {z:Value} (h:(P.info? e).map (fun i=>(i.zero,i.size,i.bytes))=some (some z,1,d)) (A:P.underlying t=some (.slice e)) (F:z.cells=#[z]) (G:1<=d):ElT P t e d z:=by
 obtain⟨H,hi,I,J,L⟩:=info_parts h;exact⟨A,⟨H,hi,I,J,L⟩,F,G⟩
theorem rJ {w w':World} {d e A n:Nat} {v:Value} {F:List Value} (G:w.ownsRow d e A v n F) (H:w.grownBy w' v.ownBlock) (I:d<=w.heap.size):Below d w w':=
 (Below.refl d w).grown H I (fun k J=>(G.lt k J).1)
theorem aL7 {P:fO} {G:Array Oper} {rest:List Oper} {o:Oper} {a:Act} {Q:Exit->Act->World->Prop} {w:World} {t e A:Nat} {z:Value} (E:ElT P t e A z) (I:o.guard=none) (s x:iF)
  (J:o.op=.call {callee:=.builtin .append,args:=#[s,x],argTypes:=#[t,t]}) (base:Nat) (v:Value) (n:Nat) (xs:List Value) (hs:a.eval s=v) (hown:w.ownsRow base e 1 v n xs)
  (g:Nat) (u:Value) (hx:a.eval x=.slice (some ⟨g,0,none⟩) 1 1) (hc:w.cell? ⟨g,0,none⟩=some u) (h1:u.oneCell'=true) (hroom:(n+1)*A<=140737488355328) (hbase:base<=w.heap.size)
  (h:∀d w',w'.ownsRow base e 1 d (n+1) (xs++[u])->Below base w w'->w.grownBy w' v.ownBlock->wpList P G Q rest (a.put o.dst d) w'):wpList P G Q (o::rest) a w:=by
 obtain⟨i,hi,L,M,O⟩:=E.info;have U:z.cells.size=1:=by rw[E.cells];rfl
 have V:=E.pos;have hn:n+1<=140737488355328:=aR (AO _ V) hroom;refine wpList_append_own w I s x t J base e i z 1 A E.under hi L M O U (by decide) v n xs hs hown ⟨g,0,none⟩ 1 1 [u] hx rfl ?_ (by simpa using h1) (by simp only[maxLen];omega) hroom hbase (fun d w' Z H _=>h d w' Z (rJ hown H hbase) H);intro j u' F
 cases j with
 |zero=>simp at F;subst F;simpa [Addr.add] using hc
 |succ j=>simp at F
def Ow (w:World) (B:Nat) (e:TypeId) (v:Value) (d:List Value):Prop:=w.ownsRow B e 1 v d.length d
theorem Ow.nil (w:World) (B:Nat) (e:TypeId):Ow w B e (.slice none 0 0) []:=World.ownsRow_nil _ _ _ _
theorem Ow.alloc {w:World} {B:Nat} {e:TypeId} {v:Value} {d:List Value} (h:Ow w B e v d) (o:Obj):Ow (w.alloc o) B e v d:=WK h o
theorem Ow.below {w w':World} {B C:Nat} {e:TypeId} {v:Value} {d:List Value} (h:Ow w B e v d) (A:Below C w w') (F:w.heap.size<=C):Ow w' B e v d:=IX h A F
theorem Ow.base {w:World} {B B':Nat} {e:TypeId} {v:Value} {d:List Value} (h:Ow w B e v d) (A:B'<=B):Ow w B' e v d:=DR h A
theorem Ow.rd {w:World} {B:Nat} {e:TypeId} {v:Value} {d:List Value} (h:Ow w B e v d):Rd w v d.length d:=Rd.of_own h
theorem Ow.drewN {w:World} {B:Nat} {e:TypeId} {v:Value} {d:List Value} (h:Ow w B e v d) (n:Nat):Ow (w.drewN n) B e v d:=h
theorem Ow.kept {w w':World} {B:Nat} {e:TypeId} {v:Value} {d:List Value} {row:Option Nat} (h:Ow w B e v d) (A:w.grownBy w' row) (F:v.ownBlock=none\/v.ownBlock≠row):Ow w' B e v d:=yJ h A F
theorem Ow.lt {w:World} {B:Nat} {e:TypeId} {v:Value} {d:List Value} (h:Ow w B e v d):∀k,v.ownBlock=some k->B<=k/\k<w.heap.size:=aK9 h
theorem tM {P:fO} {A:Array Oper} {rest:List Oper} {o:Oper} {a:Act} {Q:Exit->Act->World->Prop} {w:World} {t e F:Nat} {z:Value} (E:ElT P t e F z) (G:o.guard=none) (s x:iF)
  (H:o.op=.call {callee:=.builtin .append,args:=#[s,x],argTypes:=#[t,t]}) (base:Nat) (v:Value) (xs:List Value) (hs:a.eval s=v) (hown:Ow w base e v xs)
  (g:Nat) (u:Value) (hx:a.eval x=.slice (some ⟨g,0,none⟩) 1 1) (hc:w.cell? ⟨g,0,none⟩=some u) (h1:u.oneCell'=true) (hroom:(xs.length+1)*F<=140737488355328) (hbase:base<=w.heap.size)
  (h:∀d w',Ow w' base e d (xs++[u])->Below base w w'->w.grownBy w' v.ownBlock->wpList P A Q rest (a.put o.dst d) w'):wpList P A Q (o::rest) a w:=
 aL7 E G s x H base v xs.length xs hs hown g u hx hc h1 hroom hbase (fun d w' I J L=>h d w' (by unfold Ow;rw[List.length_append];exact I) J L)
def OwI (w:World) (B:Nat) (v:Value) (l:List Int):Prop:=Ow w B 3 v (l.map (bQ .i64))
theorem OwI.nil (w:World) (B:Nat):OwI w B (.slice none 0 0) []:=Ow.nil _ _ _
theorem OwI.alloc {w:World} {B:Nat} {v:Value} {l:List Int} (h:OwI w B v l) (o:Obj):OwI (w.alloc o) B v l:=Ow.alloc h o
theorem OwI.below {w w':World} {B C:Nat} {v:Value} {l:List Int} (h:OwI w B v l) (d:Below C w w') (A:w.heap.size<=C):OwI w' B v l:=Ow.below h d A
theorem OwI.base {w:World} {B B':Nat} {v:Value} {l:List Int} (h:OwI w B v l) (d:B'<=B):OwI w B' v l:=Ow.base h d
theorem OwI.rd {w:World} {B:Nat} {v:Value} {l:List Int} (h:OwI w B v l):RdI w v l:=by grind [RdI,Ow.rd,List.length_map,OwI]
theorem jL:ElT pG 26 3 8 (.int .i64 0):=ElT.mk' (by kernel_rfl) underlying26 rfl (by decide)
theorem gK {A:Array Oper} {rest:List Oper} {o:Oper} {a:Act} {Q:Exit->Act->World->Prop} {w:World} (F:o.guard=none) (s x:iF)
  (G:o.op=.call {callee:=.builtin .append,args:=#[s,x],argTypes:=#[26,26]}) (base:Nat) (v:Value) (l:List Int) (hs:a.eval s=v) (hown:OwI w base v l)
  (g:Nat) (n:Int) (hx:a.eval x=.slice (some ⟨g,0,none⟩) 1 1) (hc:w.cell? ⟨g,0,none⟩=some (.int .i64 n)) (hroom:(l.length+1)*8<=140737488355328) (hbase:base<=w.heap.size)
  (h:∀d w',OwI w' base d (l++[n])->Below base w w'->w.grownBy w' v.ownBlock->wpList pG A Q rest (a.put o.dst d) w'):wpList pG A Q (o::rest) a w:=
 tM jL F s x G base v _ hs hown g _ hx hc rfl (by grind) hbase (fun d w' H I J=>h d w' (by unfold OwI;rw[List.map_append];exact H) I J)
theorem fW (s:ByteArray) (j:Nat) (h:j<s.size):s.data.toList[j]? =some s[j]:=by
 rw[aN (by simpa using h)];rfl
def gW (z:Value) (n:Nat):Array Value:=(aX n z).toArray
theorem Arr.made (w:World) (e:TypeId) (z:Value) (n:Nat):Arr (w.alloc (.cells (gW z n) e)) w.heap.size e (aX n z):=NP w _
theorem mkA {P:fO} {d:Array Oper} {rest:List Oper} {o:Oper} {a:Act} {Q:Exit->Act->World->Prop} {w:World} {t e A:Nat} {z:Value} (E:ElT P t e A z) (G:o.guard=none) (l c:iF)
  (H:o.op=.makeSlice t l c) (n:Nat) (I:a.eval l=.int .i64 (n:Int)) (J:a.eval c=.int .i64 (n:Int)) (L:n*A<=140737488355328)
  (h:wpList P d Q rest (a.put o.dst (.slice (some ⟨w.heap.size,0,none⟩) n n)) (w.alloc (.cells (gW z n) e))):wpList P d Q (o::rest) a w:=by
 refine wpList_plain G fun K M=>?_
 obtain⟨i,hi,O,U,h3⟩:=E.info;have V:=E.pos;have hn:n<=140737488355328:=aR (AO _ V) L;have Z:(i.bytes:Int)*(n:Int)<=281474976710656:=by grind
 have F:=run_make (P:=P) w t e i z E.under hi O .i64 .i64 (n:Int) (n:Int) (by omega) (Int.le_refl _) Z (by omega);rw[U,Nat.mul_one,Int.toNat_natCast,E.cells,show madeCells #[z] n=gW z n from by rw[gW,<-toList_madeCells_one]] at F;unfold nC;simp[execOp,H,I,J,F,Result.andThen];exact M _ _ h
theorem JB (n:Nat):aX n (bQ .i64 0)=tab n (fun _=>0):=by
 apply lH
 grind [tab]
theorem Arr.own {w:World} {b B:Nat} {e:TypeId} {l:List Value} (h:Arr w b e l) (d:B<=b) (A:l.length<=maxLen):Ow w B e (.slice (some ⟨b,0,none⟩) l.length l.length) l:=
 ⟨by simp,.inr ⟨b,l.length,l.toArray,rfl,d,h,aD _,A,by simp,by simp⟩⟩
theorem aMb {P:fO} {a:Act} {w:World} {Q:Exit->Act->World->Prop} {c T:Code} (l:Nat) (J:Nat->Act->World->Prop) (I:findLabel c l=some (Code.skip.seq T))
  (H:∀g a w,J g a w->T.wp P (Exit.jump l (fun G w'=>∃d,d<g/\J d G w') Q) a w)
  (first:Hid (∀g a w,J g a w->T.wp P (Exit.jump l (fun a w=>∃g,J g a w) Q) a w)->c.wp P (Exit.jump l (fun a w=>∃g,J g a w) Q) a w):(Code.scope c).wp P Q a w:=by
 refine wp_scope_jumps l (fun a w=>∃g,J g a w) (fun a w=>leastOf (fun g=>J g a w)) I (first (hid fun g a w A=>Code.wp_mono ?_ (H g a w A))) (fun a w h=>?_)
 ·intro e G w' F
  cases e with
  |goto L=>
   obtain⟨rfl,d,_,A⟩:=F;exact⟨rfl,d,A⟩
  |_=>exact F
 ·apply wp_seq_k;intro K M;apply wp_skip;refine M _ _ (Code.wp_mono ?_ (H _ a w (leastOf_spec h).1));intro e G w' F
  cases e with
  |goto L=>
   obtain⟨rfl,d,O,A⟩:=F;exact⟨rfl,⟨d,A⟩,Nat.lt_of_le_of_lt ((leastOf_spec ⟨d,A⟩).2 _ A) O⟩
  |_=>exact F
def mkS (l:List UInt8):ByteArray:=⟨l.toArray⟩
@[simp] theorem dP (l:List UInt8):(mkS l).data.toList=l:=rfl
@[simp] theorem cS (l:List UInt8):(mkS l).size=l.length:=by simp[mkS,ByteArray.size]
theorem qB (s:ByteArray):mkS s.data.toList=s:=by cases s;simp[mkS]
theorem PB {s:ByteArray} {l:List UInt8} (h:s.data.toList=l):s=mkS l:=by rw[<-h,qB]
theorem sI (l m:List UInt8):mkS l++mkS m=mkS (l++m):=PB (by simp)
def fG (l:List UInt8):List Value:=l.map (fun b=>bQ .u8 (b.toNat:Int))
@[simp] theorem vO (l:List UInt8):(fG l).length=l.length:=by simp[fG]
theorem IY (l m:List UInt8):fG (l++m)=fG l++fG m:=by simp[fG]
theorem IZ {l:List UInt8} {k:Nat} {b:UInt8} (h:l[k]? =some b):(fG l)[k]? =some (.int .u8 (b.toNat:Int)):=by simp[fG,h]
theorem YG (l:List UInt8) (k:Nat) (b:UInt8):(fG l).set k (.int .u8 (b.toNat:Int))=fG (l.set k b):=by simp[fG]
def RdB (w:World) (v:Value) (l:List UInt8):Prop:=Rd w v l.length (fG l)
def OwB (w:World) (B:Nat) (v:Value) (l:List UInt8):Prop:=Ow w B 5 v (fG l)
theorem OwB.rd {w:World} {B:Nat} {v:Value} {l:List UInt8} (h:OwB w B v l):RdB w v l:=by grind [RdB,Ow.rd,vO,OwB]
theorem mP {w:World} {v:Value} {l:List UInt8} (h:RdB w v l):(convert 48 9 v).run pG w=.ok (.string (mkS l)) w:=by
 obtain⟨a,cap,rfl,I,J,d⟩:=h;have A:∀(l:List UInt8),strOfNums (l.map (fun b=>(b.toNat:Int)))=mkS l:=fun l=>by
  simp[strOfNums,mkS,List.map_map,Function.comp_def]
 rcases d with d|⟨b,off,rfl,L,F⟩
 ·have G:l=[]:=by cases l with|nil=>rfl|cons x l=>simp[fG] at d
  subst G
  cases a with
  |none=>exact run_convert_bytes_nil w _ _ underlying48 underlying5 0 cap _ underlying9
  |some a=>
   rw[run_convert_bytes_string w _ _ _ _ _ _ underlying48 underlying5 underlying9];rw[run_bytesToString w a _ cap [] (by simpa using run_loadCells_list (P:=pG) w a [] (fun j u H=>by simp at H))];rfl
 ·rw[run_convert_bytes_arg w _ _ underlying48 underlying5 b off l.length cap (l.map (fun b=>(b.toNat:Int))) (by simp) (fun i hi=>by
   rw[F i (by simpa using hi)];simp[fG,hi]) _ underlying9,A]
theorem yU:ElT pG 48 5 1 (.int .u8 0):=ElT.mk' (by kernel_rfl) underlying48 rfl (by decide)
theorem Arr.rdB {w:World} {b:Nat} {e:TypeId} {l:List UInt8} {n:Nat} (h:Arr w b e (fG l)) (d:l.length=n) (A:n<=maxLen):RdB w (.slice (some ⟨b,0,none⟩) n n) l:=by
 subst d;have:=(h.own (B:=0) (aO _) (by simpa using A)).rd
 grind [RdB,Arr,fG]
theorem iW (s:ByteArray) (a b:Nat):s.extract a b=mkS ((s.data.toList.drop a).take (b-a)):=PB (Lib.extract_data s a b)
theorem JA (s:ByteArray) (q:Nat) (h:q<s.size):s.extract q (q+1)=mkS [s.data.toList.getD q 0]:=by
 rw[iW,show q+1-q=1 by omega];have d:q<s.data.toList.length:=by simpa using h
 rw[List.drop_eq_getElem_cons d]
 grind
def qO {α:Type} (n:Nat) (z:α) (l:List α):List α:=l++aX (n-l.length) z
theorem YH {α:Type} (n:Nat) (z:α) (l:List α) (h:n<=l.length):qO n z l=l:=by simp[qO,Nat.sub_eq_zero_of_le h]
theorem aL8 {α:Type} (n:Nat) (z:α) (l:List α) (h:l.length<=n):(qO n z l).length=n:=by simp[qO];omega
theorem aL9 {α:Type} (n:Nat) (z x:α) (l:List α) (h:l.length<n):(qO n z l).set l.length x=qO n z (l++[x]):=by
 obtain⟨m,d⟩:∃m,n-l.length=m+1:=⟨n-l.length-1,by omega⟩
 grind [qO]
theorem aMa {α:Type} (n:Nat) (z:α) (l:List α) (k:Nat) (h:k<n) (d:l.length<=n):∃x,(qO n z l)[k]? =some x:=
 ⟨_,aN (by grind [aL8,qO])⟩
theorem bX (w:World) (x:Value) (t:TypeId):(w.alloc (.cells #[x] t)).cell? ⟨w.heap.size,0,none⟩=some x:=by simp
theorem uF (w:World) (e:TypeId) (d:List Value) (n:Nat) (A:d.length=n) (F:n<=maxLen):Rd (w.alloc (.cells d.toArray e)) (.slice (some ⟨w.heap.size,0,none⟩) n n) n d:=by
 subst A;exact((Arr.new w e d).own (B:=0) (aO _) F).rd
theorem eI {k:IntKind} {a b:Int} (h:a=b):NS (.int k a)=.returned (.int k b):=by rw[h]
theorem sJ {a b:Bool} (h:a=b):NS (.bool a)=.returned (.bool b):=by rw[h]
theorem yV {a b:ByteArray} (h:a=b):NS (.string a)=.returned (.string b):=by rw[h]
end
section
def wH (x:BitVec 32):BitVec 32:=if x.msb then(x<<<1)^^^79764919#32 else x<<<1
def wI (x:BitVec 32) (b:Bool):BitVec 32:=if x.msb != b then(x<<<1)^^^79764919#32 else x<<<1
def mB:Nat->BitVec 32->BitVec 32
 |0,x=>x
 |k+1,x=>wH (mB k x)
theorem aCd (x y:BitVec 32):wH (x^^^y)=wH x^^^wH y:=by grind [wH]
theorem RQ (k:Nat) (x y:BitVec 32):mB k (x^^^y)=mB k x^^^mB k y:=by
 induction k with
 |zero=>rfl
 |succ k d=>unfold mB;rw[d,aCd]
def nL (i:Nat):BitVec 32:=mB 8 (pZ 32 i<<<24)
def rP (x:BitVec 32) (b:Nat):Nat->BitVec 32
 |0=>x
 |k+1=>wI (rP x b k) (b.testBit (7-k))
theorem aTe:∀b:Fin 256,∀k:Fin 8,wI (0#32) (b.val.testBit (7-k.val))^^^(pZ 32 b.val<<<(24+k.val+1))=wH (pZ 32 b.val<<<(24+k.val)):=by decide+kernel
theorem aTf (x:BitVec 32) (b:Bool):wI x b=wH x^^^wI (0#32) b:=by grind [wI,wH]
theorem aTg (x:BitVec 32) (b:Nat) (d:b<256):∀k,k<=8->rP x b k^^^(pZ 32 b<<<(24+k))=mB k (x^^^(pZ 32 b<<<24)):=by
 intro k
 induction k with
 |zero=>intro _;rfl
 |succ k A=>
  intro F;have h:=A (by omega);unfold mB rP;rw[<-h,aCd,aTf,BitVec.xor_assoc]
  congr 1
  exact aTe ⟨b,d⟩ ⟨k,by omega⟩
theorem aTh:∀b:Fin 256,pZ 32 b.val<<<32=0#32:=by decide+kernel
theorem aTi (x:BitVec 32) (b:Nat) (d:b<256):rP x b 8=mB 8 (x^^^(pZ 32 b<<<24)):=by grind [aTg,aTh,rP,mB]
theorem aTj:∀k (x:BitVec 32),x.toNat*2^k<4294967296->(mB k x).toNat=x.toNat*2^k:=by
 intro k
 induction k with
 |zero=>intro x _;simp[mB]
 |succ k d=>
  intro x A;rw[Nat.pow_succ,<-Nat.mul_assoc] at A ⊢;have h:=d x (by omega);unfold mB wH;have F:(mB k x).msb=false:=by grind
  rw[F,aA (by decide),IR,h,IS];rw[jT (by simp;omega)]
theorem aTk (x:BitVec 32):x=(x&&&0xffffff#32)^^^((x>>>24)<<<24):=by
 apply BitVec.eq_of_getLsbD_eq;intro i hi;simp only[BitVec.getLsbD_xor,BitVec.getLsbD_and,BitVec.getLsbD_shiftLeft,BitVec.getLsbD_ushiftRight]
 by_cases h:i<24
 ·have:(0xffffff#32).getLsbD i=true:=by
   rcases(show ∃j:Fin 24,j.val=i from⟨⟨i,h⟩,rfl⟩) with⟨j,rfl⟩;exact(by decide+kernel:∀j:Fin 24,(0xffffff#32).getLsbD j.val=true) j
  simp[h,this]
 ·have:(0xffffff#32).getLsbD i=false:=by
   rcases(show ∃j:Fin 8,j.val+24=i from⟨⟨i-24,by omega⟩,by simp;omega⟩) with⟨j,rfl⟩;exact(by decide+kernel:∀j:Fin 8,(0xffffff#32).getLsbD (j.val+24)=false) j
  grind
theorem aTl (c:BitVec 32) (b:Nat) (A:b<256):rP c b 8=(c<<<8)^^^nL ((c>>>24).toNat^^^b):=by
 rw[aTi c b A];have F:=aTk c;have G:mB 8 (c&&&0xffffff#32)=c<<<8:=by
  apply BitVec.eq_of_toNat_eq;have d:(c&&&0xffffff#32).toNat=c.toNat%16777216:=by
   rw[BitVec.toNat_and];exact Nat.and_two_pow_sub_one_eq_mod c.toNat 24
  rw[aTj 8 _ (by rw[d];omega),d,IR,IS];omega
 grind [pZ,BitVec.eq_of_toNat_eq,BitVec.toNat_ushiftRight,Nat.shiftRight_eq_div_pow,Nat.xor_lt_two_pow,BitVec.toNat_ofNat,BitVec.toNat_xor,jT,nL,BitVec.shiftLeft_xor_distrib,RQ,BitVec.xor_assoc,rP]
def nM (c:BitVec 32) (s:List UInt8):BitVec 32:=s.foldl (fun c b=>rP c b.toNat 8) c
def cH (s:List UInt8):BitVec 32:= ~~~ nM (0xffffffff#32) s
theorem aTm (c:BitVec 32) (s:List UInt8) (b:UInt8):nM c (s++[b])=rP (nM c s) b.toNat 8:=by simp[nM,rP]
end
section
open Go
theorem fV {P:fO} {A:Array Oper} {Q:Exit->Act->World->Prop} {md:Region.Mode} {S:World->Prop} {i:Nat} {F:Oper} {v:Value} {I:Nat} {G:Array Bool} {a:Act} {w:World}
  (d c:Nat) (_:A.size+d-(I+1+c)=i) (hi:A[i]? =some F) (H:(Region.noSelect A&&Region.free md A G i&&(Region.ready md A G).contains i)=true)
  (J:∀c a w,Q (.panic c) (a.put F.dst v) w->Q (.panic c) a w) (L:YieldsIf P A S F v a) (M:S w)
  (h:wpAnyH P md A Q S I (G.setIfInBounds i true) (a.put F.dst v) w):wpAnyH P md A Q S (I+1) G a w:=by
 rw[DF,DF] at H;exact wpAnyH_take hi H.1.1 H.1.2 H.2 J L M h
theorem dJ {P:fO} {d:Array Oper} {Q:Exit->Act->World->Prop} {md:Region.Mode} {S:World->Prop} {i:Nat} {o:Oper} {G:Nat} {A:Array Bool} {a:Act} {w:World}
  (H:Region.ready md d A=[i]) (I:d[i]? =some o)
  (h:∀F:Act->World->Prop,Shut (∀a w,S w->(S w->wpAnyH P md d Q S G (A.setIfInBounds i true) a w)->F a w)->if Region.wanted o (yielded d a.tmps)=true then nC P o a w F Q else F (a.put o.dst undef) w):wpAnyH P md d Q S (G+1) A a w:=
 wpAnyH_ready H (by simp) (DG I h WI)
end
section
open Go.RowKit
theorem aW {a b c:World} (h:Below a.heap.size a b) (k:Below b.heap.size b c):Below a.heap.size a c:=h.trans (k.mono h.size)
theorem bD {a b:World} (h:Below a.heap.size a b) (o:Obj):Below a.heap.size a (b.alloc o):=h.alloc h.size o
def cK (c n:Int):Int:=(if c<0 then-(c+1) else c)%n
theorem lN (c n:Int) (h:1<=n):0<=cK c n/\cK c n<n:=⟨Int.emod_nonneg _ (by omega),Int.emod_lt_of_pos _ (by omega)⟩
theorem BE (n:Nat) (k:Int) (d:0<=k):∃m:Nat,(if k<(n:Int) then k else(n:Int))=(m:Int)/\(m:Int)<=k/\m<=n:=by
 by_cases h:k<(n:Int)
 ·obtain⟨m,rfl⟩:=Int.eq_ofNat_of_zero_le d
  grind
 grind
end
section
def iX (f:Nat->Int) (i:Nat) (x:Int):Nat->Int:=fun k=>if k=i then x else f k
def iS (f:Nat->Int) (a b t:Nat):Nat->Int:=fun k=>if a<=k/\k<a+t then f (k-a+b) else if b<=k/\k<b+t then f (k-b+a) else f k
def cW (f:Nat->Int) (a m b:Nat):Nat->Int:=fun k=>if a<=k/\k<a+(b-m) then f (k+(m-a)) else if a+(b-m)<=k/\k<b then f (k-(b-m)) else f k
theorem aMh (f:Nat->Int) (a b:Nat):iS f a b 0=f:=by
 funext k;unfold iS;rw[aA (by omega),aA (by omega)]
theorem aMi (f:Nat->Int) (a b t:Nat) (h:a+t<b):iS f a b (t+1)=iX (iX (iS f a b t) (a+t) (iS f a b t (b+t))) (b+t) (iS f a b t (a+t)):=by
 have H:iS f a b t (b+t)=f (b+t):=by unfold iS;rw[aA (by omega),aA (by omega)]
 have I:iS f a b t (a+t)=f (a+t):=by unfold iS;rw[aA (by omega),aA (by omega)]
 rw[H,I]
 funext k
 unfold iX
 by_cases d:k=b+t
 ·subst d;rw[aB rfl];unfold iS;rw[aA (by omega),aB (by omega)];congr 1;omega
 ·rw[aA d]
  by_cases A:k=a+t
  ·subst A;rw[aB rfl];unfold iS;rw[aB (by omega)];congr 1;omega
  ·rw[aA A];unfold iS
   by_cases F:a<=k/\k<a+t
   ·rw[aB F,aB (by omega)]
   ·rw[aA F,aA (by omega)]
    by_cases G:b<=k/\k<b+t
    ·rw[aB G,aB (by omega)]
    ·rw[aA G,aA (by omega)]
theorem aMj (f:Nat->Int) (m i:Nat) (h:i<=m):cW f (m-i) m (m+i)=iS f (m-i) m i:=by
 funext k
 unfold cW iS;rw[show m+i-m=i by omega,show m-(m-i)=i by omega]
 by_cases d:m-i<=k/\k<m-i+i
 ·rw[aB d,aB d];congr 1;omega
 ·rw[aA d,aA d]
  by_cases A:m<=k/\k<m+i
  ·rw[aB (by omega),aB A];congr 1;omega
  ·rw[aA (by omega),aA A]
theorem aMk (f:Nat->Int) (m i j:Nat) (h:i<=m) (G:j<i) (_hj:0<j):cW f (m-i) m (m+j)=cW (iS f (m-i) m j) (m-(i-j)) m (m+j):=by
 funext k
 unfold cW;rw[show m+j-m=j by omega,show m-(m-i)=i by omega,show m-(m-(i-j))=i-j by omega]
 by_cases d:m-i<=k/\k<m-i+j
 ·rw[aB d,aA (by omega),aA (by omega)];unfold iS;rw[aB d];congr 1;omega
 ·rw[aA d]
  by_cases A:m-i+j<=k/\k<m+j
  ·rw[aB A]
   by_cases F:m-(i-j)<=k/\k<m-(i-j)+j
   ·rw[aB F];unfold iS;rw[aA (by omega),aB (by omega)];congr 1;omega
   ·rw[aA F,aB (by omega)];unfold iS;rw[aA (by omega),aA (by omega)]
  ·rw[aA A,aA (by omega),aA (by omega)];unfold iS;rw[aA (by omega),aA (by omega)]
theorem aMl (f:Nat->Int) (m i j:Nat) (h:i<=m) (G:i<j) (_hi:0<i):cW f (m-i) m (m+j)=cW (iS f (m-i) (m+j-i) i) (m-i) m (m+(j-i)):=by
 funext k
 unfold cW;rw[show m+j-m=j by omega,show m-(m-i)=i by omega,show m+(j-i)-m=j-i by omega]
 by_cases d:m-i<=k/\k<m-i+j
 ·rw[aB d]
  by_cases A:m-i<=k/\k<m-i+(j-i)
  ·rw[aB A];unfold iS;rw[aA (by omega),aA (by omega)]
  ·rw[aA A,aB (by omega)];unfold iS;rw[aB (by omega)];congr 1;omega
 ·rw[aA d]
  by_cases F:m-i+j<=k/\k<m+j
  ·rw[aB F,aA (by omega),aA (by omega)];unfold iS;rw[aA (by omega),aB (by omega)];congr 1;omega
  ·rw[aA F,aA (by omega),aA (by omega)];unfold iS;rw[aA (by omega),aA (by omega)]
def lO (a b:Nat) (f g:Nat->Int):Prop:=(∀k,a<=k->k<b->∃d,a<=d/\d<b/\g k=f d)/\(∀k,¬(a<=k/\k<b)->g k=f k)
theorem lO.refl (a b:Nat) (f:Nat->Int):lO a b f f:=⟨fun k d A=>⟨k,d,A,rfl⟩,fun _ _=>rfl⟩
theorem lO.trans {a b:Nat} {f g h:Nat->Int} (p:lO a b f g) (q:lO a b g h):lO a b f h:=
 ⟨fun k A F=>by
  obtain⟨G,H,I,J⟩:=q.1 k A F;obtain⟨L,M,O,U⟩:=p.1 G H I;exact⟨L,M,O,by rw[J,U]⟩,fun k d=>by rw[q.2 k d,p.2 k d]⟩
theorem lO.wide {a b d A:Nat} {f g:Nat->Int} (p:lO a b f g) (J:d<=a) (L:b<=A):lO d A f g:=
 ⟨fun k F G=>by
  by_cases h:a<=k/\k<b
  ·obtain⟨H,M,O,I⟩:=p.1 k h.1 h.2;exact⟨H,by omega,by omega,I⟩
  ·exact⟨k,F,G,p.2 k h⟩,fun k U=>p.2 k (by omega)⟩
theorem lO.rot (f:Nat->Int) (a m b:Nat) (A:a<=m) (F:m<=b):lO a b f (cW f a m b):=by
 refine⟨fun k G H=>?_,fun k I=>?_⟩
 ·unfold cW
  by_cases d:a<=k/\k<a+(b-m)
  ·rw[aB d];exact⟨k+(m-a),by omega,by omega,rfl⟩
  ·rw[aA d,aB (by omega)];exact⟨k-(b-m),by omega,by omega,rfl⟩
 ·unfold cW;rw[aA (by omega),aA (by omega)]
section
variable (lt:Int->Int->Prop)
def jM (f:Nat->Int) (a b:Nat):Prop:=∀i j,a<=i->i<j->j<b->lt (f i) (f j)
structure vR:Prop where
 tr:∀x y z,lt x y->lt y z->lt x z
 tot:∀x y,x≠y->lt x y\/lt y x
 irr:∀x,¬lt x x
variable {lt}
theorem jM.mono {f:Nat->Int} {a b d A:Nat} (h:jM lt f a b) (G:a<=d) (H:A<=b):jM lt f d A:=
 fun i j I F J=>h i j (by omega) F (by omega)
theorem jM.congr {f g:Nat->Int} {a b:Nat} (h:jM lt f a b) (e:∀k,a<=k->k<b->g k=f k):jM lt g a b:=
 fun i j d F A=>by rw[e i d (by omega),e j (by omega) A];exact h i j d F A
theorem jM.tiny (f:Nat->Int) (a b:Nat) (h:b<=a+1):jM lt f a b:=fun i j d A F=>by omega
theorem jM.join {f:Nat->Int} {a m b:Nat} (A:jM lt f a m) (F:jM lt f m b) (G:∀i j,a<=i->i<m->m<=j->j<b->lt (f i) (f j)):jM lt f a b:=by
 intro i j p q r;rcases cF i m with hi|hi
 ·rcases cF j m with d|d
  ·exact A i j p q d
  ·exact G i j p hi d r
 ·exact F i j hi q r
structure oS (lt:Int->Int->Prop) (f:Nat->Int) (a m b:Nat):Prop where
 am:a<m
 mb:m<b
 s1:jM lt f a m
 s2:jM lt f m b
 ne:∀i j,a<=i->i<m->m<=j->j<b->f i<f j
structure nZ (lt:Int->Int->Prop) (f g:Nat->Int) (a b:Nat):Prop where
 frm:lO a b f g
 srt:jM lt g a b
theorem aMm {f:Nat->Int} {a b i:Nat} (P:oS lt f a (a+1) b) (J:a+1<=i) (L:i<=b)
  (M:∀k,a+1<=k->k<i->lt (f k) (f a)) (O:∀k,i<=k->k<b->lt (f a) (f k)):nZ lt f (cW f a (a+1) i) a b:=by
 refine⟨(lO.rot f a (a+1) i (by omega) J).wide (aD _) L,?_⟩;have e:∀k,cW f a (a+1) i k=if a<=k/\k<i-1 then f (k+1) else if k=i-1 then f a else f k:=by
  intro k;unfold cW
  by_cases A:a<=k/\k<i-1
  ·rw[aB (by omega),aB A];congr 1;omega
  ·rw[aA (by omega),aA A]
   by_cases F:k=i-1
   ·rw[aB (by omega),aB F];congr 1;omega
   ·rw[aA (by omega),aA F]
 intro p q V U G;rw[e p,e q]
 by_cases H:a<=p/\p<i-1
 ·rw[aB H]
  by_cases d:a<=q/\q<i-1
  ·rw[aB d];exact P.s2 _ _ (by omega) (by omega) (by omega)
  ·rw[aA d]
   by_cases I:q=i-1
   ·rw[aB I];exact M _ (by omega) (by omega)
   ·rw[aA I];exact P.s2 _ _ (by omega) (by omega) (by omega)
 ·rw[aA H]
  by_cases d:p=i-1
  ·rw[aB d,aA (by omega),aA (by omega)];exact O _ (by omega) G
  ·rw[aA d,aA (by omega),aA (by omega)];exact P.s2 _ _ (by omega) U G
theorem aMn {f:Nat->Int} {a m i:Nat} (P:oS lt f a m (m+1)) (L:a<=i) (M:i<=m)
  (O:∀k,a<=k->k<i->lt (f k) (f m)) (U:∀k,i<=k->k<m->lt (f m) (f k)):nZ lt f (cW f i m (m+1)) a (m+1):=by
 refine⟨(lO.rot f i m (m+1) M (by omega)).wide L (aD _),?_⟩;have e:∀k,cW f i m (m+1) k=if k=i then f m else if i<k/\k<=m then f (k-1) else f k:=by
  intro k;unfold cW
  by_cases A:k=i
  ·rw[aB (by omega),aB A];congr 1;omega
  ·rw[aA (by omega),aA A]
   by_cases F:i<k/\k<=m
   ·rw[aB (by omega),aB F];congr 1;omega
   ·rw[aA (by omega),aA F]
 intro p q d V Z;rw[e p,e q]
 by_cases G:p=i
 ·rw[aB G,aA (by omega),aB (by omega)];exact U _ (by omega) (by omega)
 ·rw[aA G]
  by_cases H:i<p/\p<=m
  ·rw[aB H,aA (by omega),aB (by omega)];exact P.s1 _ _ (by omega) (by omega) (by omega)
  ·rw[aA H]
   by_cases I:q=i
   ·rw[aB I];exact O _ d (by omega)
   ·rw[aA I]
    by_cases J:i<q/\q<=m
    ·rw[aB J];exact P.s1 _ _ d (by omega) (by omega)
    ·rw[aA J];exact P.s1 _ _ d V (by omega)
theorem aMo (S:vR lt) {f:Nat->Int} {a m b A lo hi d:Nat} (P:oS lt f a m b) (a1:A=(a+b)/2)
  (a2:(A<m/\lo+b=A+m/\hi=A)\/(m<=A/\lo=a/\hi=m)) (a3:lo<=d) (a4:d<=hi)
  (J:∀c,lo<=c->c<d->lt (f c) (f (A+m-1-c))) (L:∀c,d<=c->c<hi->lt (f (A+m-1-c)) (f c)):
  a<=d/\d<=m/\m<=A+m-d/\A+m-d<=b/\
  (∀i j,a<=i->i<d->A+m-d<=j->j<b->lt (f i) (f j))/\
  (∀i j,m<=i->i<A+m-d->d<=j->j<m->lt (f i) (f j)):=by
 have a5:=P.am;have a6:=P.mb;have M:a<=d:=by omega
 have O:d<=m:=by omega
 have b3:d<=A:=by omega
 have U:A+m-d<=b:=by omega
 refine⟨M,O,by omega,U,?_,?_⟩
 ·intro i j H V Z I
  --d>lo,or the second part's rest is empty
  have a7:lo<d:=by omega
  have F:=J (d-1) (by omega) (by omega);have e:A+m-1-(d-1)=A+m-d:=by omega
  rw[e] at F;have G:lt (f i) (f (A+m-d)):=by
   rcases cF i (d-1) with h|h
   ·exact S.tr _ _ _ (P.s1 i (d-1) H h (by omega)) F
   ·have:i=d-1:=by omega
    subst this;exact F
  rcases cF (A+m-d) j with h|h
  ·exact S.tr _ _ _ G (P.s2 _ j (by omega) h I)
  ·have:j=A+m-d:=by omega
   subst this;exact G
 ·intro i j H V Z I;have a0:d<hi:=by omega
  have F:=L d (by omega) a0;have e:A+m-1-d=A+m-d-1:=by omega
  rw[e] at F;have G:lt (f i) (f d):=by
   rcases cF i (A+m-d-1) with h|h
   ·exact S.tr _ _ _ (P.s2 i (A+m-d-1) H h (by omega)) F
   ·have:i=A+m-d-1:=by omega
    subst this;exact F
  rcases cF d j with h|h
  ·exact S.tr _ _ _ G (P.s1 d j (by omega) h I)
  ·have:j=d:=by omega
   subst this;exact G
theorem aMp {f:Nat->Int} {a m b A d:Nat} (P:oS lt f a m b) (L:a<=d) (M:d<=m) (Z:d<=A) (O:A+m-d<=b)
  (U:∀i j,a<=i->i<d->A+m-d<=j->j<b->lt (f i) (f j))
  (V:∀i j,m<=i->i<A+m-d->d<=j->j<m->lt (f i) (f j)):
  let g:=cW f d m (A+m-d)
  lO a b f g/\jM lt g a d/\jM lt g d A/\jM lt g A (A+m-d)/\jM lt g (A+m-d) b/\
  (∀i j,a<=i->i<d->d<=j->j<A->g i<g j)/\(∀i j,A<=i->i<A+m-d->A+m-d<=j->j<b->g i<g j)/\
  (∀i j,a<=i->i<A->A<=j->j<b->lt (g i) (g j)):=by
 intro g;have a0:=P.am;have a1:=P.mb;have I:∀k,a<=k->k<d->g k=f k:=fun k p q=>by show cW _ _ _ _ _=_;unfold cW;rw[aA (by omega),aA (by omega)]
 have J:∀k,d<=k->k<A->g k=f (k+(m-d)):=fun k p q=>by show cW _ _ _ _ _=_;unfold cW;rw[aB (by omega)]
 have G:∀k,A<=k->k<A+m-d->g k=f (k-(A-d)):=fun k p q=>by
  show cW _ _ _ _ _=_;unfold cW;rw[aA (by omega),aB (by omega)];congr 1;omega
 have H:∀k,A+m-d<=k->k<b->g k=f k:=fun k p q=>by show cW _ _ _ _ _=_;unfold cW;rw[aA (by omega),aA (by omega)]
 refine⟨(lO.rot f d m (A+m-d) M (by omega)).wide L O,?_,?_,?_,?_,?_,?_,?_⟩
 ·intro i j p q r;rw[I i p (by omega),I j (by omega) r];exact P.s1 i j p q (by omega)
 ·intro i j p q r;rw[J i p (by omega),J j (by omega) r];exact P.s2 _ _ (by omega) (by omega) (by omega)
 ·intro i j p q r;rw[G i p (by omega),G j (by omega) r];exact P.s1 _ _ (by omega) (by omega) (by omega)
 ·intro i j p q r;rw[H i p (by omega),H j (by omega) r];exact P.s2 _ _ (by omega) (by omega) (by omega)
 ·intro i j p q r s;rw[I i p q,J j r s];exact P.ne _ _ p (by omega) (by omega) (by omega)
 ·intro i j p q r s;rw[G i p q,H j r s];exact P.ne _ _ (by omega) (by omega) (by omega) s
 ·intro i j p q r s;rcases cF i d with hi|hi
  ·rw[I i p hi];rcases cF j (A+m-d) with F|F
   ·rw[G j r F];exact P.s1 _ _ p (by omega) (by omega)
   ·rw[H j F s];exact U _ _ p hi F s
  ·rw[J i hi q];rcases cF j (A+m-d) with F|F
   ·rw[G j r F];exact V _ _ (by omega) (by omega) (by omega) (by omega)
   ·rw[H j F s];exact P.s2 _ _ (by omega) (by omega) s
theorem aMq (S:vR lt) {f:Nat->Int} {a b h:Nat} (P:oS lt f a (a+1) b) (A:h<b) (t:lt (f h) (f a)):∀k,a+1<=k->k<h+1->lt (f k) (f a):=by
 intro k F G;rcases cF k h with d|d
 ·exact S.tr _ _ _ (P.s2 k h F d A) t
 ·have:k=h:=by omega
  subst this;exact t
theorem aMr (S:vR lt) {f:Nat->Int} {a b h:Nat} (P:oS lt f a (a+1) b) (d:a+1<=h) (G:h<b) (t:¬lt (f h) (f a)):∀k,h<=k->k<b->lt (f a) (f k):=by
 have A:lt (f a) (f h):=(S.tot (f a) (f h) (by have:=P.ne a h (by omega) (by omega) d G;omega)).resolve_right t;intro k I H;rcases cF h k with F|F
 ·exact S.tr _ _ _ A (P.s2 h k d F H)
 ·have:k=h:=by omega
  subst this;exact A
theorem aMs (S:vR lt) {f:Nat->Int} {a m h:Nat} (P:oS lt f a m (m+1)) (G:a<=h) (d:h<m) (t:¬lt (f m) (f h)):∀k,a<=k->k<h+1->lt (f k) (f m):=by
 have A:lt (f h) (f m):=(S.tot (f h) (f m) (by have:=P.ne h m G d (by omega) (by omega);omega)).resolve_right t;intro k H I;rcases cF k h with F|F
 ·exact S.tr _ _ _ (P.s1 k h H F d) A
 ·have:k=h:=by omega
  subst this;exact A
theorem aMt (S:vR lt) {f:Nat->Int} {a m h:Nat} (P:oS lt f a m (m+1)) (A:a<=h) (t:lt (f m) (f h)):∀k,h<=k->k<m->lt (f m) (f k):=by
 intro k G F;rcases cF h k with d|d
 ·exact S.tr _ _ _ t (P.s1 h k A d F)
 ·have:k=h:=by omega
  subst this;exact t
theorem aMu (S:vR lt) {f:Nat->Int} {a m b n c lo:Nat} (P:oS lt f a m b) (H:a<=lo) (I:lo<=c) (d:c<m) (A:m<=n-1-c) (J:n-1-lo<b) (L:c+1<=n) (t:¬lt (f (n-1-c)) (f c)):
  ∀k,lo<=k->k<c+1->lt (f k) (f (n-1-k)):=by
 have F:lt (f c) (f (n-1-c)):=(S.tot (f c) (f (n-1-c)) (by have:=P.ne c (n-1-c) (by omega) d A (by omega);omega)).resolve_right t;intro k M O;rcases cF k c with G|G
 ·exact S.tr _ _ _ (P.s1 k c (by omega) G d) (S.tr _ _ _ F (P.s2 (n-1-c) (n-1-k) A (by omega) (by omega)))
 ·have:k=c:=by omega
  subst this;exact F
theorem aMv (S:vR lt) {f:Nat->Int} {a m b n c hi:Nat} (P:oS lt f a m b) (A:a<=c) (J:c<m) (G:n-1-c<b) (L:hi<=m) (H:∀k,k<hi->m<=n-1-k) (t:lt (f (n-1-c)) (f c)):
  ∀k,c<=k->k<hi->lt (f (n-1-k)) (f k):=by
 intro k M I;rcases cF c k with d|d
 ·have:=H k I;rcases cF (n-1-k) (n-1-c) with F|F
  ·exact S.tr _ _ _ (P.s2 (n-1-k) (n-1-c) this F G) (S.tr _ _ _ t (P.s1 c k A d (by omega)))
  ·have e:n-1-k=n-1-c:=by omega
   rw[e];exact S.tr _ _ _ t (P.s1 c k A d (by omega))
 ·have:k=c:=by omega
  subst this;exact t
theorem YP {f g h k:Nat->Int} {a d b:Nat} (G:lO a b f g) (H:a<=d) (I:d<=b) (F:nZ lt g h a d) (A:nZ lt h k d b)
  (J:∀i j,a<=i->i<d->d<=j->j<b->lt (g i) (g j)):nZ lt f k a b:=by
 refine⟨G.trans ((F.frm.wide (aD _) I).trans (A.frm.wide H (aD _))),?_⟩;refine jM.join (m:=d) (F.srt.congr fun x p q=>A.frm.2 x (by omega)) A.srt ?_;intro i j p q r s;rw[A.frm.2 i (by omega)];obtain⟨i',L,M,O⟩:=F.frm.1 i p q;obtain⟨U,V,Z,q3⟩:=A.frm.1 j r s;rw[O,q3,F.frm.2 U (by omega)];exact J _ _ L M V Z
end
end
section
open Go.RowKit
def Dat (w:World) (g cap n:Nat) (f:Nat->Int):Prop:=
 ∃d:Array Value,w.heap[g]? =some (.cells d 3 (0,0))/\d.size=cap/\n<=cap/\∀k,k<n->d[k]? =some (.int .i64 (f k))
theorem Dat.lt {w:World} {g cap n:Nat} {f:Nat->Int} (h:Dat w g cap n f):g<w.heap.size:=by grind [Dat]
theorem Dat.cell {w:World} {g cap n:Nat} {f:Nat->Int} (h:Dat w g cap n f) {k:Nat} (d:k<n):w.cell? ⟨g,k,none⟩=some (.int .i64 (f k)):=by
 obtain⟨F,h,_,_,A⟩:=h;rw[yI w g k _ _ (0,0) h];exact A k d
theorem Dat.free {w:World} {g cap n:Nat} {f:Nat->Int} (h:Dat w g cap n f) (k:Nat):w.frozen? ⟨g,k,none⟩=false:=by
 obtain⟨d,h,_⟩:=h;exact frozen_of_row w g k _ _ h
theorem Dat.set {w:World} {g cap n:Nat} {f:Nat->Int} (h:Dat w g cap n f) (k:Nat) (x:Int):Dat (w.setCell ⟨g,k,none⟩ (.int .i64 x)) g cap n (iX f k x):=by
 obtain⟨d,h,A,F,G⟩:=h;refine⟨d.setIfInBounds k (.int .i64 x),aK8 w g k _ _ _ h,by simpa using A,F,fun j H=>?_⟩
 grind [iX,Dat]
theorem Dat.grown {w w':World} {g cap n:Nat} {f:Nat->Int} {row:Option Nat} (h:Dat w g cap n f) (d:w.grownBy w' row) (A:some g≠row):Dat w' g cap n f:=by
 have F:=h.lt;obtain⟨G,h,H⟩:=h;exact⟨G,by rw[d.block g F A];exact h,H⟩
theorem Dat.below {w w':World} {g cap n B:Nat} {f:Nat->Int} (h:Dat w g cap n f) (d:Below B w w') (A:g<B):Dat w' g cap n f:=by
 obtain⟨F,h,G⟩:=h;exact⟨F,by rw[d.block g A];exact h,G⟩
theorem Dat.congr {w:World} {g cap n:Nat} {f f':Nat->Int} (h:Dat w g cap n f) (e:∀k,k<n->f' k=f k):Dat w g cap n f':=by grind [Dat]
theorem Dat.drewN {w:World} {g cap n:Nat} {f:Nat->Int} (h:Dat w g cap n f) (k:Nat):Dat (w.drewN k) g cap n f:=h
theorem Dat.drew {w:World} {g cap n:Nat} {f:Nat->Int} (h:Dat w g cap n f):Dat w.drew g cap n f:=h
theorem yX (w:World) (row:Option Nat):w.grownBy w row:=⟨rfl,rfl,rfl,aD _,fun _ _ _=>rfl⟩
theorem eU {a b c:World} {row:Option Nat} (h:a.grownBy b row) (k:b.grownBy c row):a.grownBy c row:=
 ⟨k.os.trans h.os,k.tape.trans h.tape,k.output.trans h.output,aR h.size k.size,fun i hi d=>(k.block i (fB hi h.size) d).trans (h.block i hi d)⟩
theorem vS {a b:World} {row:Option Nat} (h:Below a.heap.size a b):a.grownBy b row:=⟨h.os,h.tape,h.output,h.size,fun i hi _=>h.block i hi⟩
theorem gD (a:World) (g k:Nat) (v:Value):a.grownBy (a.setCell ⟨g,k,none⟩ v) (some g):=
 ⟨rfl,rfl,rfl,by simp,fun i _ d=>Below.heap_setCell _ _ _ _ (fun e=>d (by rw[e]))⟩
theorem qP {a b:World} {row:Option Nat} (h:a.grownBy b row):a.grownBy b.drew row:=⟨h.os,h.tape,h.output,h.size,h.block⟩
theorem aMw {a b:World} {row:Option Nat} (h:a.grownBy b row) (n:Nat):a.grownBy (b.drewN n) row:=⟨h.os,h.tape,h.output,h.size,h.block⟩
theorem YQ {a b:World} {g B:Nat} (h:a.grownBy b (some g)) (d:B<=g) (A:B<=a.heap.size):Below B a b:=
 ⟨h.os,h.tape,h.output,h.size,fun i hi=>h.block i (by omega) (fun e=>by grind)⟩
theorem PN (g cap n a b t:Nat) (f:Nat->Int) (M:Value) (w:World) (O:Dat w g cap n f) (hn:n<=1000000) (_hcap:cap<=maxLen) (a0:a+t<=b) (a1:b+t<=n):
  Calls pG 311 #[.slice (some ⟨g,0,none⟩) n cap,.int .i64 (a:Int),.int .i64 (b:Int),.int .i64 (t:Int),M] w fun e w'=>
   e=.returned (.tuple #[])/\Dat w' g cap n (iS f a b t)/\w.grownBy w' (some g):=by
 unfold maxLen at _hcap;go_enter func311,ntmps311;go_wp2
 go_loopg [10] t (fun U i wr=>∃k:Nat,k<=t/\U=t-k/\i=.int .i64 k/\Dat wr g cap n (iS f a b k)/\w.grownBy wr (some g))
 case atStart=>exact⟨0,aO _,rfl,rfl,by rw[aMh];exact O,yX _ _⟩
 case round=>
  obtain⟨k,hk,A,rfl,d,H⟩:=hrel;have V:=hid A;clear A
  by_cases a2:k<t
  ·have Z:=d.cell (k:=a+k) (by omega);have c2:=d.cell (k:=b+k) (by omega);have f1:=d.free (a+k);have f2:=d.free (b+k);have a3:a+k≠b+k:=by omega
   obtain⟨x,F⟩:∃x,x=iS f a b k (a+k):=⟨_,rfl⟩;obtain⟨y,G⟩:∃y,y=iS f a b k (b+k):=⟨_,rfl⟩;rw[<-F] at Z;rw[<-G] at c2;have I:=hid F;have J:=hid G;clear F G;go_wp2
   go_region
   all_goals go_wp2
   have A:=V.out
   go_roundg (t-(k+1))
   case measure=>omega
   case rel=>
    refine⟨k+1,by omega,rfl,by go_num,?_,qP (eU (eU H (gD _ _ _ _)) (gD _ _ _ _))⟩;have:=(d.set (a+k) y).set (b+k) x;rw[I.out,J.out,<-aMi f a b k (by omega)] at this;rw[I.out,J.out];exact this.drew
  ·have L:k=t:=by omega
   have HK:=hid L;clear L;go_wp2
   go_end0
   exact⟨rfl,by rw[<-HK.out];exact d,H⟩
theorem aMx (g cap n a m b:Nat) (f:Nat->Int) (G:Value) (w:World) (hd:Dat w g cap n f) (L:n<=1000000) (H:cap<=maxLen) (a2:a<m) (a3:m<b) (a4:b<=n):
  Calls pG 310 #[.slice (some ⟨g,0,none⟩) n cap,.int .i64 (a:Int),.int .i64 (m:Int),.int .i64 (b:Int),G] w fun e w'=>
   e=.returned (.tuple #[])/\Dat w' g cap n (cW f a m b)/\w.grownBy w' (some g):=by
 have a0:=H;unfold maxLen at a0;go_enter func310,ntmps310;go_wp2
 go_loopg [10,11] (b-a) (fun gh i j wr=>∃(p q:Nat) (h:Nat->Int),0<p/\0<q/\p<=m/\m+q<=n/\gh=p+q/\i=.int .i64 p/\j=.int .i64 q/\Dat wr g cap n h/\Hid (cW h (m-p) m (m+q)=cW f a m b)/\w.grownBy wr (some g))
 case atStart=>
  refine⟨m-a,b-m,f,by omega,by omega,by omega,by omega,by omega,congrArg _ (by omega),congrArg _ (by omega),hd,hid ?_,yX _ _⟩;rw[show m-(m-a)=a by omega,show m+(b-m)=b by omega]
 case round=>
  obtain⟨p,q,h,V,Z,I,a1,J,rfl,rfl,M,O,U⟩:=hrel;have HG:=hid J;clear J;rcases Nat.lt_trichotomy p q with d|d|d
  ·have t1:((p:Int) != (q:Int))=true:=by rw[bne_iff_ne];omega
   have t2:decide (q<p)=false:=by simp;omega
   go_wp2_with fail;rw[show((m:Int)-(p:Int))=((m-p:Nat):Int) from by omega,show((m:Int)+(q:Int)-(p:Int))=((m+q-p:Nat):Int) from by omega];refine(PN g cap n _ _ _ h G _ M L H (by omega) (by omega)).mono ?_;rintro e w1 ⟨rfl,A,F⟩;go_wp2;have J:=HG.out
   go_roundg (p+(q-p))
   case measure=>omega
   case rel=>exact⟨p,q-p,_,V,by omega,I,by omega,rfl,rfl,congrArg _ (by omega),A,hid (by rw[<-aMl h m p q I d V];exact O.out),eU U F⟩
  ·subst d;have t1:((p:Int) != (p:Int))=false:=by simp
   go_wp2_with fail;rw[show((m:Int)-(p:Int))=((m-p:Nat):Int) from by omega];refine(PN g cap n _ _ _ h G _ M L H (by omega) (by omega)).mono ?_;rintro e w1 ⟨rfl,A,F⟩;go_wp2
   go_end0
   exact⟨rfl,by rw[<-O.out,aMj h m p I];exact A,eU U F⟩
  ·have t1:((p:Int) != (q:Int))=true:=by rw[bne_iff_ne];omega
   have t2:decide (q<p)=true:=by simp;omega
   go_wp2_with fail;rw[show((m:Int)-(p:Int))=((m-p:Nat):Int) from by omega];refine(PN g cap n _ _ _ h G _ M L H (by omega) (by omega)).mono ?_;rintro e w1 ⟨rfl,A,F⟩;go_wp2;have J:=HG.out
   go_roundg ((p-q)+q)
   case measure=>omega
   case rel=>exact⟨p-q,q,_,by omega,Z,by omega,a1,rfl,congrArg _ (by omega),rfl,A,hid (by rw[<-aMk h m p q I d Z];exact O.out),eU U F⟩
def tN (w0:World) (g n bx:Nat) (d:Int->Int->Bool):Prop:=
 ∀W,w0.grownBy W (some g)->∀x y:Int,0<=x->x<(n:Int)->0<=y->y<(n:Int)->
  Calls pG 272 #[.int .i64 x,.int .i64 y,.pointer (some ⟨bx,0,none⟩)] W fun e A=>∃c:Int,e=.returned (.int .i64 c)/\decide (c<0)=d x y/\Below W.heap.size W A
theorem tN.later {w0 w1:World} {g n bx:Nat} {d:Int->Int->Bool} (h:tN w0 g n bx d) (A:w0.grownBy w1 (some g)):tN w1 g n bx d:=by grind [eU,tN]
def qQ (bx:Nat):Value:=.func (.func 272) #[] #[.pointer (some ⟨bx,0,none⟩)]
def InR (n:Nat) (f:Nat->Int):Prop:=∀k,k<n->0<=f k/\f k<(n:Int)
theorem InR.from {n a b:Nat} {f g:Nat->Int} (h:InR n f) (d:b<=n) (p:lO a b f g):InR n g:=fun k A=>by
 by_cases F:a<=k/\k<b
 ·grind [InR,lO]
 grind [InR,lO]
end
end Go.Proofs.YtihbnmlinkbnkaaGreatDoor
