/-
  Texts put together (part 1): the walks and the plain laws on which the statement stands.
-/
import Derived.Below
import Derived.Test.YtfckbfofgeilgaaGreatDoorRows
import Derived.WalkKit
import Derived.WalkSpells
import Derived.WalkLawsBesides
import Derived.Deep.QuietTactic
import Derived.BigQuiet
import Derived.Deep.LoopGhost
import Derived.Lib.Strings
set_option maxRecDepth 100000
set_option maxHeartbeats 12800000
set_option linter.unusedVariables false
set_option linter.unusedSimpArgs false
open Go.Proofs.Tryz
open Go.Proofs.Tryz renaming prog->pG
open Array renaming getElem?_eq_some_iff->fE
open Classical renaming byContradiction->aLh
open Go renaming Operand->iF,Program->fO
open Go.Ending renaming returned->NS
open Go.Value renaming int->bQ
open Go.World.ownsRow renaming alloc->WK,kept->yJ,lt->aK9
open Int renaming toNat_natCast->fL
open List renaming append_assoc->bU,cons_append->fF,countP_le_length->DI,ext_getElem?->lH,getD->jD,getElem?_eq_getElem->aN,getElem?_eq_none->fZ,length_append->aL,length_cons->aU,length_map->aS,mem_cons->jQ,mem_filter->NT,mem_range->qM,range->eT,range_succ->wU,replicate->aX,take_append_drop->kH
open List.Pairwise renaming imp_of_mem->aLc
open List.Perm renaming refl->GZ
open Nat renaming add_assoc->fU,eq_zero_or_pos->jE,le_mul_of_pos_right->AO,le_refl->aD,le_trans->aR,lt_of_lt_of_le->fB,lt_or_ge->cF,mod_add_div->WO,strongRecOn->NU,zero_le->aO
open UInt8 renaming ofNat->eA,toNat_ofNat'->nD
namespace Go.Proofs.YtfckbfofgeilgaaGreatDoor
section
universe u
theorem aE {p:Prop} [Decidable p] (h:¬p):decide p=false:=decide_eq_false h
theorem aG {p:Prop} [Decidable p] (h:p):decide p=true:=decide_eq_true h
theorem aA {c:Prop} {h:Decidable c} (d:¬c) {α:Sort u} {t e:α}:(ite c t e)=e:=if_neg d
theorem aB {c:Prop} {h:Decidable c} (d:c) {α:Sort u} {t e:α}:(ite c t e)=t:=if_pos d
theorem cB {α:Type u} [BEq α] [LawfulBEq α] {a b:α}:(a==b)=false↔a≠b:=beq_eq_false_iff_ne
end
section
open Go.RowKit
theorem hid {p:Prop} (h:p):Hid p:=h
def Rd (w:World) (v:Value) (n:Nat) (d:List Value):Prop:=
 ∃a cap,v=.slice a n cap/\n<=cap/\cap<=maxLen/\
  (d=[]\/∃b off,a=some ⟨b,off,none⟩/\b<w.heap.size/\∀j,j<d.length->w.cell? ⟨b,off+j,none⟩=some (d.getD j undef))
def RdI (w:World) (v:Value) (l:List Int):Prop:=Rd w v l.length (l.map (bQ .i64))
theorem pJ {W d:World} (e:Below W.heap.size W d):(∀b o,b<W.heap.size->d.cell? ⟨b,o,none⟩=W.cell? ⟨b,o,none⟩)/\(∀b o,b<W.heap.size->d.frozen? ⟨b,o,none⟩=W.frozen? ⟨b,o,none⟩):=
 ⟨fun b o h=>e.cell (p:=⟨b,o,none⟩) h,fun b o h=>e.frozen (p:=⟨b,o,none⟩) h⟩
theorem Rd.below {w w':World} {v:Value} {n:Nat} {e:List Value} (h:Rd w v n e) (A:Below w.heap.size w w'):Rd w' v n e:=by
 obtain⟨a,cap,rfl,D,F,d⟩:=h;refine⟨a,cap,rfl,D,F,?_⟩;rcases d with d|⟨b,off,rfl,G,I⟩
 ·exact .inl d
 ·exact .inr ⟨b,off,rfl,fB G A.size,fun j J=>by grind [pJ,Rd]⟩
theorem RdI.below {w w':World} {v:Value} {l:List Int} (h:RdI w v l) (d:Below w.heap.size w w'):RdI w' v l:=Rd.below h d
theorem RdI.open {w:World} {v:Value} {l:List Int} (h:RdI w v l):
  ∃a cap,v=.slice a l.length cap/\l.length<=cap/\cap<=maxLen/\
   (0<l.length->∃b off,a=some ⟨b,off,none⟩/\b<w.heap.size/\∀j x,l[j]? =some x->w.cell? ⟨b,off+j,none⟩=some (.int .i64 x)):=by
 obtain⟨a,cap,rfl,e,A,d⟩:=h;refine⟨a,cap,rfl,e,A,fun D=>?_⟩;rcases d with d|⟨b,off,rfl,F,G⟩
 ·have:=congrArg List.length d;simp at this;simp[this] at D
 grind
theorem eG {l:List Int} {k:Nat} (h:k<l.length):∃x,l[k]? =some x:=⟨_,aN h⟩
theorem Rd.of_own {w:World} {base e size n:Nat} {v:Value} {d:List Value} (h:w.ownsRow base e size v n d):Rd w v n d:=by
 obtain⟨I,h⟩:=h;rcases h with⟨rfl,rfl⟩|⟨g,cap,D,rfl,J,A,F,G,L,M⟩
 ·grind [Rd]
 ·refine⟨_,cap,rfl,F,G,.inr ⟨g,0,rfl,(fE.1 A).1,fun j O=>?_⟩⟩;rw[Nat.zero_add,cell_of_row w g j D e (0,0) A]
  grind
theorem RdI.of_own {w:World} {base e n:Nat} {v:Value} {l:List Int} (h:w.ownsRow base e 1 v n (l.map (bQ .i64))):RdI w v l:=by
 have d:n=l.length:=by have:=h.1;simp at this;omega
 grind [Rd.of_own,RdI]
theorem IX {w w':World} {B base e size n:Nat} {v:Value} {d:List Value} (h:w.ownsRow base e size v n d) (D:Below B w w') (F:w.heap.size<=B):w'.ownsRow base e size v n d:=by
 refine⟨h.1,?_⟩;rcases h.2 with G|⟨g,cap,I,rfl,J,A,rest⟩
 ·exact .inl G
 ·refine .inr ⟨g,cap,I,rfl,J,?_,rest⟩;rw[D.block g (fB (fE.1 A).1 F)];exact A
theorem DR {w:World} {base d e size n:Nat} {v:Value} {A:List Value} (h:w.ownsRow base e size v n A) (D:d<=base):w.ownsRow d e size v n A:=by
 refine⟨h.1,?_⟩;rcases h.2 with F|⟨g,cap,G,rfl,I,rest⟩
 ·exact .inl F
 ·exact .inr ⟨g,cap,G,rfl,aR D I,rest⟩
def Arr (w:World) (b:Nat) (e:TypeId) (l:List Value):Prop:=w.heap[b]? =some (.cells l.toArray e (0,0))
theorem Arr.lt {w:World} {b:Nat} {e:TypeId} {l:List Value} (h:Arr w b e l):b<w.heap.size:=by grind [Arr]
theorem Arr.cell {w:World} {b:Nat} {e:TypeId} {l:List Value} (h:Arr w b e l) {i:Nat} {v:Value} (d:l[i]? =some v):w.cell? ⟨b,i,none⟩=some v:=by
 rw[cell_of_row w b i _ e (0,0) h];simpa using d
theorem Arr.free {w:World} {b:Nat} {e:TypeId} {l:List Value} (h:Arr w b e l) (i:Nat):w.frozen? ⟨b,i,none⟩=false:=frozen_of_row w b i _ e h
theorem Arr.set {w:World} {b:Nat} {e:TypeId} {l:List Value} (h:Arr w b e l) (i:Nat) (v:Value):Arr (w.setCell ⟨b,i,none⟩ v) b e (l.set i v):=by
 unfold Arr;rw[heap_setCell_same w b i _ e v h];simp
theorem Arr.other {w:World} {b:Nat} {e:TypeId} {l:List Value} (h:Arr w b e l) (p:Addr) (d:p.block≠b) (v:Value):Arr (w.setCell p v) b e l:=by
 unfold Arr;rw[heap_setCell_other w p b v (fun e=>d e.symm)];exact h
theorem Arr.below {w w':World} {B b:Nat} {e:TypeId} {l:List Value} (h:Arr w b e l) (d:Below B w w') (A:b<B):Arr w' b e l:=by
 unfold Arr;rw[d.block b A];exact h
theorem Arr.alloc {w:World} {b:Nat} {e:TypeId} {l:List Value} (h:Arr w b e l) (o:Obj):Arr (w.alloc o) b e l:=by
 unfold Arr;rw[Below.heap_alloc w o b h.lt];exact h
theorem Arr.drewN {w:World} {b:Nat} {e:TypeId} {l:List Value} (h:Arr w b e l) (n:Nat):Arr (w.drewN n) b e l:=h
theorem Arr.grown {w w':World} {b:Nat} {e:TypeId} {l:List Value} {row:Option Nat} (h:Arr w b e l) (d:w.grownBy w' row) (A:some b≠row):Arr w' b e l:=by
 unfold Arr;rw[d.block b h.lt A];exact h
theorem Arr.new (w:World) (e:TypeId) (l:List Value):Arr (w.alloc (.cells l.toArray e)) w.heap.size e l:=heap_alloc_new w _
def tab (n:Nat) (f:Nat->Int):List Value:=(eT n).map (fun d=>bQ .i64 (f d))
theorem lM (n:Nat) (f:Nat->Int) (i:Nat) (h:i<n):(tab n f)[i]? =some (.int .i64 (f i)):=by simp[tab,h]
theorem uE (n:Nat) (f e:Nat->Int) (i:Nat) (v:Int) (h:∀d,d<n->e d=if d=i then v else f d):(tab n f).set i (.int .i64 v)=tab n e:=by
 apply lH
 grind [tab,lM]
structure ElT (P:fO) (t e:TypeId) (bytes:Nat) (z:Value):Prop where
 under:P.underlying t=some (.slice e)
 info:∃i,P.info? e=some i/\i.zero=some z/\i.size=1/\i.bytes=bytes
 cells:z.cells=#[z]
 pos:1<=bytes
theorem ElT.mk' {P:fO} {t e:TypeId} {d:Nat} {z:Value} (h:(P.info? e).map (fun i=>(i.zero,i.size,i.bytes))=some (some z,1,d)) (A:P.underlying t=some (.slice e)) (D:z.cells=#[z]) (F:1<=d):ElT P t e d z:=by
 obtain⟨G,I,J,L,M⟩:=info_parts h;exact⟨A,⟨G,I,J,L,M⟩,D,F⟩
theorem rJ {w w':World} {base e size n:Nat} {v:Value} {d:List Value} (A:w.ownsRow base e size v n d) (D:w.grownBy w' v.ownBlock) (F:base<=w.heap.size):Below base w w':=
 (Below.refl base w).grown D F (fun k G=>(A.lt k G).1)
theorem aL7 {P:fO} {F:Array Oper} {rest:List Oper} {o:Oper} {a:Act} {Q:Exit->Act->World->Prop} {w:World} {t e A:Nat} {z:Value} (E:ElT P t e A z) (I:o.guard=none) (s x:iF)
  (J:o.op=.call {callee:=.builtin .append,args:=#[s,x],argTypes:=#[t,t]}) (base:Nat) (v:Value) (n:Nat) (xs:List Value) (hs:a.eval s=v) (hown:w.ownsRow base e 1 v n xs)
  (g:Nat) (u:Value) (hx:a.eval x=.slice (some ⟨g,0,none⟩) 1 1) (hc:w.cell? ⟨g,0,none⟩=some u) (h1:u.oneCell'=true) (hroom:(n+1)*A<=140737488355328) (hbase:base<=w.heap.size)
  (h:∀d w',w'.ownsRow base e 1 d (n+1) (xs++[u])->Below base w w'->w.grownBy w' v.ownBlock->wpList P F Q rest (a.put o.dst d) w'):wpList P F Q (o::rest) a w:=by
 obtain⟨i,L,M,O,R⟩:=E.info;have U:z.cells.size=1:=by rw[E.cells];rfl
 have V:=E.pos;have Z:n+1<=140737488355328:=aR (AO _ V) hroom;refine wpList_append_own w I s x t J base e i z 1 A E.under L M O R U (by decide) v n xs hs hown ⟨g,0,none⟩ 1 1 [u] hx rfl ?_ (by simpa using h1) (by simp only[maxLen];omega) hroom hbase (fun d w' Y G _=>h d w' Y (rJ hown G hbase) G);intro j u' D
 cases j with
 |zero=>simp at D;subst D;simpa [Addr.add] using hc
 |succ j=>simp at D
def Ow (w:World) (B:Nat) (e:TypeId) (v:Value) (d:List Value):Prop:=w.ownsRow B e 1 v d.length d
theorem Ow.nil (w:World) (B:Nat) (e:TypeId):Ow w B e (.slice none 0 0) []:=World.ownsRow_nil _ _ _ _
theorem Ow.alloc {w:World} {B:Nat} {e:TypeId} {v:Value} {d:List Value} (h:Ow w B e v d) (o:Obj):Ow (w.alloc o) B e v d:=WK h o
theorem Ow.below {w w':World} {B C:Nat} {e:TypeId} {v:Value} {d:List Value} (h:Ow w B e v d) (A:Below C w w') (D:w.heap.size<=C):Ow w' B e v d:=IX h A D
theorem Ow.base {w:World} {B d:Nat} {e:TypeId} {v:Value} {A:List Value} (h:Ow w B e v A) (D:d<=B):Ow w d e v A:=DR h D
theorem Ow.rd {w:World} {B:Nat} {e:TypeId} {v:Value} {d:List Value} (h:Ow w B e v d):Rd w v d.length d:=Rd.of_own h
theorem Ow.drewN {w:World} {B:Nat} {e:TypeId} {v:Value} {d:List Value} (h:Ow w B e v d) (n:Nat):Ow (w.drewN n) B e v d:=h
theorem Ow.kept {w w':World} {B:Nat} {e:TypeId} {v:Value} {d:List Value} {row:Option Nat} (h:Ow w B e v d) (A:w.grownBy w' row) (D:v.ownBlock=none\/v.ownBlock≠row):Ow w' B e v d:=yJ h A D
theorem Ow.lt {w:World} {B:Nat} {e:TypeId} {v:Value} {d:List Value} (h:Ow w B e v d):∀k,v.ownBlock=some k->B<=k/\k<w.heap.size:=aK9 h
theorem tM {P:fO} {A:Array Oper} {rest:List Oper} {o:Oper} {a:Act} {Q:Exit->Act->World->Prop} {w:World} {t e D:Nat} {z:Value} (E:ElT P t e D z) (F:o.guard=none) (s x:iF)
  (G:o.op=.call {callee:=.builtin .append,args:=#[s,x],argTypes:=#[t,t]}) (base:Nat) (v:Value) (xs:List Value) (hs:a.eval s=v) (hown:Ow w base e v xs)
  (g:Nat) (u:Value) (hx:a.eval x=.slice (some ⟨g,0,none⟩) 1 1) (hc:w.cell? ⟨g,0,none⟩=some u) (h1:u.oneCell'=true) (hroom:(xs.length+1)*D<=140737488355328) (hbase:base<=w.heap.size)
  (h:∀d w',Ow w' base e d (xs++[u])->Below base w w'->w.grownBy w' v.ownBlock->wpList P A Q rest (a.put o.dst d) w'):wpList P A Q (o::rest) a w:=
 aL7 E F s x G base v xs.length xs hs hown g u hx hc h1 hroom hbase (fun d w' I J L=>h d w' (by unfold Ow;rw[aL];exact I) J L)
def OwI (w:World) (B:Nat) (v:Value) (l:List Int):Prop:=Ow w B 3 v (l.map (bQ .i64))
theorem OwI.nil (w:World) (B:Nat):OwI w B (.slice none 0 0) []:=Ow.nil _ _ _
theorem OwI.alloc {w:World} {B:Nat} {v:Value} {l:List Int} (h:OwI w B v l) (o:Obj):OwI (w.alloc o) B v l:=Ow.alloc h o
theorem OwI.below {w w':World} {B C:Nat} {v:Value} {l:List Int} (h:OwI w B v l) (d:Below C w w') (e:w.heap.size<=C):OwI w' B v l:=Ow.below h d e
theorem OwI.base {w:World} {B d:Nat} {v:Value} {l:List Int} (h:OwI w B v l) (e:d<=B):OwI w d v l:=Ow.base h e
theorem OwI.rd {w:World} {B:Nat} {v:Value} {l:List Int} (h:OwI w B v l):RdI w v l:=by grind [RdI,Ow.rd,aS,OwI]
theorem jL:ElT pG 53 3 8 (.int .i64 0):=ElT.mk' (by kernel_rfl) underlying53 rfl (by decide)
theorem gK {e:Array Oper} {rest:List Oper} {o:Oper} {a:Act} {Q:Exit->Act->World->Prop} {w:World} (A:o.guard=none) (s x:iF)
  (D:o.op=.call {callee:=.builtin .append,args:=#[s,x],argTypes:=#[53,53]}) (base:Nat) (v:Value) (l:List Int) (hs:a.eval s=v) (hown:OwI w base v l)
  (g:Nat) (n:Int) (hx:a.eval x=.slice (some ⟨g,0,none⟩) 1 1) (hc:w.cell? ⟨g,0,none⟩=some (.int .i64 n)) (hroom:(l.length+1)*8<=140737488355328) (hbase:base<=w.heap.size)
  (h:∀d w',OwI w' base d (l++[n])->Below base w w'->w.grownBy w' v.ownBlock->wpList pG e Q rest (a.put o.dst d) w'):wpList pG e Q (o::rest) a w:=
 tM jL A s x D base v _ hs hown g _ hx hc rfl (by grind) hbase (fun d w' F G I=>h d w' (by unfold OwI;rw[List.map_append];exact F) G I)
theorem fW (s:ByteArray) (j:Nat) (h:j<s.size):s.data.toList[j]? =some s[j]:=by
 rw[aN (by simpa using h)];rfl
def gW (z:Value) (n:Nat):Array Value:=(aX n z).toArray
theorem Arr.made (w:World) (e:TypeId) (z:Value) (n:Nat):Arr (w.alloc (.cells (gW z n) e)) w.heap.size e (aX n z):=heap_alloc_new w _
theorem mkA {P:fO} {d:Array Oper} {rest:List Oper} {o:Oper} {a:Act} {Q:Exit->Act->World->Prop} {w:World} {t e A:Nat} {z:Value} (E:ElT P t e A z) (F:o.guard=none) (l c:iF)
  (G:o.op=.makeSlice t l c) (n:Nat) (I:a.eval l=.int .i64 (n:Int)) (J:a.eval c=.int .i64 (n:Int)) (L:n*A<=140737488355328)
  (h:wpList P d Q rest (a.put o.dst (.slice (some ⟨w.heap.size,0,none⟩) n n)) (w.alloc (.cells (gW z n) e))):wpList P d Q (o::rest) a w:=by
 refine wpList_plain F fun K M=>?_
 obtain⟨i,O,R,U,Z⟩:=E.info;have V:=E.pos;have hn:n<=140737488355328:=aR (AO _ V) L;have Y:(i.bytes:Int)*(n:Int)<=281474976710656:=by grind
 have D:=run_make (P:=P) w t e i z E.under O R .i64 .i64 (n:Int) (n:Int) (by omega) (Int.le_refl _) Y (by omega);rw[U,Nat.mul_one,fL,E.cells,show madeCells #[z] n=gW z n from by rw[gW,<-toList_madeCells_one]] at D;unfold Oper.wp;simp[execOp,G,I,J,D,Result.andThen];exact M _ _ h
theorem Arr.own {w:World} {b B:Nat} {e:TypeId} {l:List Value} (h:Arr w b e l) (d:B<=b) (A:l.length<=maxLen):Ow w B e (.slice (some ⟨b,0,none⟩) l.length l.length) l:=
 ⟨by simp,.inr ⟨b,l.length,l.toArray,rfl,d,h,aD _,A,by simp,by simp⟩⟩
def mkS (l:List UInt8):ByteArray:=⟨l.toArray⟩
@[simp] theorem dP (l:List UInt8):(mkS l).data.toList=l:=rfl
@[simp] theorem cS (l:List UInt8):(mkS l).size=l.length:=by simp[mkS,ByteArray.size]
theorem qB (s:ByteArray):mkS s.data.toList=s:=by cases s;simp[mkS]
theorem PB {s:ByteArray} {l:List UInt8} (h:s.data.toList=l):s=mkS l:=by rw[<-h,qB]
theorem sI (l m:List UInt8):mkS l++mkS m=mkS (l++m):=PB (by simp)
def fG (l:List UInt8):List Value:=l.map (fun b=>bQ .u8 (b.toNat:Int))
@[simp] theorem vO (l:List UInt8):(fG l).length=l.length:=by simp[fG]
theorem IY (l m:List UInt8):fG (l++m)=fG l++fG m:=by simp[fG]
theorem IZ {l:List UInt8} {k:Nat} {b:UInt8} (h:l[k]? =some b):(fG l)[k]? =some (.int .u8 (b.toNat:Int)):=by simp[fG,h]
theorem YG (l:List UInt8) (k:Nat) (b:UInt8):(fG l).set k (.int .u8 (b.toNat:Int))=fG (l.set k b):=by simp[fG]
def RdB (w:World) (v:Value) (l:List UInt8):Prop:=Rd w v l.length (fG l)
def OwB (w:World) (B:Nat) (v:Value) (l:List UInt8):Prop:=Ow w B 5 v (fG l)
theorem OwB.rd {w:World} {B:Nat} {v:Value} {l:List UInt8} (h:OwB w B v l):RdB w v l:=by grind [RdB,Ow.rd,vO,OwB]
theorem mP {w:World} {v:Value} {l:List UInt8} (h:RdB w v l):(convert 84 9 v).run pG w=.ok (.string (mkS l)) w:=by
 obtain⟨a,cap,rfl,I,J,d⟩:=h;have A:∀(l:List UInt8),strOfNums (l.map (fun b=>(b.toNat:Int)))=mkS l:=fun l=>by
  simp[strOfNums,mkS,List.map_map,Function.comp_def]
 rcases d with d|⟨b,off,rfl,L,D⟩
 ·have F:l=[]:=by cases l with|nil=>rfl|cons x l=>simp[fG] at d
  subst F
  cases a with
  |none=>exact run_convert_bytes_nil w _ _ underlying84 underlying5 0 cap _ underlying9
  |some a=>
   rw[run_convert_bytes_string w _ _ _ _ _ _ underlying84 underlying5 underlying9];rw[run_bytesToString w a _ cap [] (by simpa using run_loadCells_list (P:=pG) w a [] (fun j u G=>by simp at G))];rfl
 ·rw[run_convert_bytes_arg w _ _ underlying84 underlying5 b off l.length cap (l.map (fun b=>(b.toNat:Int))) (by simp) (fun i e=>by
   rw[D i (by simpa using e)];simp[fG,e]) _ underlying9,A]
theorem yU:ElT pG 84 5 1 (.int .u8 0):=ElT.mk' (by kernel_rfl) underlying84 rfl (by decide)
theorem Arr.rdB {w:World} {b:Nat} {e:TypeId} {l:List UInt8} {n:Nat} (h:Arr w b e (fG l)) (d:l.length=n) (A:n<=maxLen):RdB w (.slice (some ⟨b,0,none⟩) n n) l:=by
 subst d;have:=(h.own (B:=0) (aO _) (by simpa using A)).rd
 grind [RdB,Arr,fG]
theorem iW (s:ByteArray) (a b:Nat):s.extract a b=mkS ((s.data.toList.drop a).take (b-a)):=PB (Lib.extract_data s a b)
theorem JA (s:ByteArray) (q:Nat) (h:q<s.size):s.extract q (q+1)=mkS [s.data.toList.getD q 0]:=by
 rw[iW,show q+1-q=1 by omega];have d:q<s.data.toList.length:=by simpa using h
 rw[List.drop_eq_getElem_cons d]
 grind
def qO {α:Type} (n:Nat) (z:α) (l:List α):List α:=l++aX (n-l.length) z
theorem YH {α:Type} (n:Nat) (z:α) (l:List α) (h:n<=l.length):qO n z l=l:=by simp[qO,Nat.sub_eq_zero_of_le h]
theorem aL8 {α:Type} (n:Nat) (z:α) (l:List α) (h:l.length<=n):(qO n z l).length=n:=by simp[qO];omega
theorem aL9 {α:Type} (n:Nat) (z x:α) (l:List α) (h:l.length<n):(qO n z l).set l.length x=qO n z (l++[x]):=by
 obtain⟨m,d⟩:∃m,n-l.length=m+1:=⟨n-l.length-1,by omega⟩
 grind [qO]
theorem aMa {α:Type} (n:Nat) (z:α) (l:List α) (k:Nat) (h:k<n) (d:l.length<=n):∃x,(qO n z l)[k]? =some x:=
 ⟨_,aN (by grind [aL8,qO])⟩
theorem bX (w:World) (x:Value) (t:TypeId):(w.alloc (.cells #[x] t)).cell? ⟨w.heap.size,0,none⟩=some x:=by simp
theorem uF (w:World) (e:TypeId) (d:List Value) (n:Nat) (A:d.length=n) (D:n<=maxLen):Rd (w.alloc (.cells d.toArray e)) (.slice (some ⟨w.heap.size,0,none⟩) n n) n d:=by
 subst A;exact((Arr.new w e d).own (B:=0) (aO _) D).rd
theorem eI {k:IntKind} {a b:Int} (h:a=b):NS (.int k a)=.returned (.int k b):=by rw[h]
theorem sJ {a b:Bool} (h:a=b):NS (.bool a)=.returned (.bool b):=by rw[h]
theorem yV {a b:ByteArray} (h:a=b):NS (.string a)=.returned (.string b):=by rw[h]
end
section
def iR (p:Int->Bool):List Int->Int
 |[]=> -1
 |x::l=>if p x then 0 else if iR p l<0 then-1 else iR p l+1
theorem JC (p:Int->Bool):∀l,-1<=iR p l/\iR p l<(l.length:Int)/\(iR p l<0↔∀x∈l,p x=false):=by
 intro l
 induction l with
 |nil=>simp[iR]
 |cons x l d=>
  unfold iR;obtain⟨e,A,D⟩:=d
  by_cases F:p x=true
  ·grind
  ·grind
theorem JD {p:Int->Bool}:∀{l:List Int} {k:Nat},(∀x∈l.take k,p x=false)->(d:k<l.length)->p l[k]=true->iR p l=(k:Int):=by
 intro l
 induction l with
 |nil=>intro k _ d;simp at d
 |cons x l D=>
  intro k h d A;unfold iR
  cases k with
  |zero=>rw[aB (by simpa using A)];rfl
  |succ k=>
   have G:=h x (by simp);rw[aA (by grind)];have e:=D (k:=k) (fun y F=>h y (by simp[F])) (by simpa using d) (by simpa using A);rw[e,aA (by omega)];omega
theorem sK {p:Int->Bool} {l:List Int} (h:∀x∈l,p x=false):iR p l= -1:=by
 obtain⟨d,_,e⟩:=JC p l
 grind
def dZ (s:List UInt8) (c:Nat):Bool:=s.any (fun b=>b.toNat==c)
theorem PC (s:List UInt8) (b:UInt8):dZ s b.toNat=true↔b∈s:=by grind [dZ,List.any_eq_true,UInt8.toNat_inj]
def kL (s:List UInt8) (m:Nat):List UInt8:=((eT m).filter (dZ s)).map eA
def bY (s:List UInt8):List UInt8:=kL s 256
theorem PD (s:List UInt8) (m:Nat):kL s (m+1)=kL s m++if dZ s m then[eA m] else[]:=by grind [kL,wU,dZ]
theorem YI (s:List UInt8) (m:Nat):(kL s m).length<=m:=by grind [kL,dZ]
theorem DS (s:List UInt8) (b:UInt8):b∈bY s↔b∈s:=by
 unfold bY kL;rw[List.mem_map];constructor
 ·rintro⟨c,d,rfl⟩;rw[NT,qM] at d;have e:(eA c).toNat=c:=by rw[nD];omega
  grind [PC,bY]
 ·intro h;refine⟨b.toNat,?_,by simp⟩;rw[NT,qM];exact⟨b.toNat_lt,(PC s b).2 h⟩
theorem JE (s:List UInt8):(bY s).Nodup:=by
 unfold bY kL List.Nodup;rw[List.pairwise_map];refine aLc ?_ (List.pairwise_lt_range.sublist List.filter_sublist)
 grind [UInt8.toNat,nD,bY]
theorem YJ {s t:List UInt8} (h:∀b,b∈s↔b∈t):bY s=bY t:=by
 have e:dZ s=dZ t:=by grind [dZ,bY]
 grind [bY,kL]
theorem YK (s:List UInt8):bY (bY s)=bY s:=YJ (fun b=>DS s b)
theorem JF {s:List UInt8} (h:s≠[]):bY s≠[]:=by
 cases s with
 |nil=>exact absurd rfl h
 |cons b s=>
  intro e;have:=(DS (b::s) b).2 (by simp);rw[e] at this;simp at this
def gC (a:List UInt8) (i:Nat):List UInt8:=(a.drop i).take 1++a.take i++a.drop (i+1)
theorem yW (a:List UInt8) (i:Nat):(gC a i).Perm a:=by grind [gC,List.drop_drop,kH,bU,List.Perm.append_right,List.perm_append_comm]
theorem BF (a:List UInt8) (i:Nat):(gC a i).length=a.length:=(yW a i).length_eq
def plc (a:List UInt8) (c:UInt8):Nat:=a.findIdx (fun b=>b==c)
theorem vP {a:List UInt8} {c:UInt8} (h:c∈a):plc a c<a.length:=by grind [plc]
theorem JG {a:List UInt8} {c:UInt8} (h:c∈a):a[plc a c]? =some c:=by grind [vP,plc]
theorem YL {a:List UInt8} {c:UInt8} {i:Nat} (h:i<plc a c) (d:i<a.length):a[i]≠c:=by grind [plc]
theorem aMc {a:List UInt8} {c:UInt8} {i:Nat} (d:i<a.length) (h:a[i]=c) (e:∀j,(A:j<i)->a[j]'(by omega)≠c):plc a c=i:=by grind [plc,JG,vP,YL]
theorem PE {a:List UInt8} (d:a.Nodup) {i:Nat} (e:i<a.length):plc a a[i]=i:=by grind [aMc,List.pairwise_iff_getElem,plc]
def dL:List UInt8->List UInt8->List Int
 |_,[]=>[]
 |a,c::s=>((plc a c:Nat):Int)::dL (gC a (plc a c)) s
def fH:List UInt8->List UInt8->List UInt8
 |a,[]=>a
 |a,c::s=>fH (gC a (plc a c)) s
theorem vQ:∀(s a:List UInt8),(dL a s).length=s.length:=by
 intro s
 induction s with
 |nil=>intro a;rfl
 |cons c s d=>intro a;simp[dL,d]
theorem JH:∀(s a:List UInt8),(fH a s).Perm a:=by
 intro s
 induction s with
 |nil=>intro a;exact GZ _
 |cons c s d=>intro a;exact(d _).trans (yW a _)
theorem JI (c:UInt8):∀(s a:List UInt8),dL a (s++[c])=dL a s++[((plc (fH a s) c:Nat):Int)]:=by
 intro s
 induction s with
 |nil=>intro a;rfl
 |cons d s e=>intro a;simp only[fF,dL,fH,e]
theorem PF (c:UInt8):∀(s a:List UInt8),fH a (s++[c])=gC (fH a s) (plc (fH a s) c):=by
 intro s
 induction s with
 |nil=>intro a;rfl
 |cons d s e=>intro a;simp only[fF,fH,e]
theorem BH:∀(s a:List UInt8),(∀b∈s,b∈a)->∀x∈dL a s,0<=x/\x<(a.length:Int):=by
 intro s
 induction s with
 |nil=>intro a _ x d;simp[dL] at d
 |cons c s e=>
  intro a h x d;rw[dL,jQ] at d;rcases d with rfl|d
  ·have:=vP (h c (by simp));omega
  ·have:=e (gC a (plc a c)) (fun b A=>(yW a _).mem_iff.2 (h b (by simp[A]))) x d;rwa[BF] at this
def unL:List UInt8->List Int->List UInt8
 |_,[]=>[]
 |a,i::l=>a.getD i.toNat 0::unL (gC a i.toNat) l
def unA:List UInt8->List Int->List UInt8
 |a,[]=>a
 |a,i::l=>unA (gC a i.toNat) l
theorem sL:∀(l:List Int) (a:List UInt8),(unL a l).length=l.length:=by
 intro l
 induction l with
 |nil=>intro a;rfl
 |cons c l d=>intro a;simp[unL,d]
theorem YM:∀(l:List Int) (a:List UInt8),(unA a l).Perm a:=by
 intro l
 induction l with
 |nil=>intro a;exact GZ _
 |cons c l d=>intro a;exact(d _).trans (yW a _)
theorem PH (i:Int):∀(l:List Int) (a:List UInt8),unL a (l++[i])=unL a l++[(unA a l).getD i.toNat 0]:=by
 intro l
 induction l with
 |nil=>intro a;rfl
 |cons d l e=>intro a;simp only[fF,unL,unA,e]
theorem PI (i:Int):∀(l:List Int) (a:List UInt8),unA a (l++[i])=gC (unA a l) i.toNat:=by
 intro l
 induction l with
 |nil=>intro a;rfl
 |cons d l e=>intro a;simp only[fF,unA,e]
theorem YN:∀(s a:List UInt8),(∀b∈s,b∈a)->unL a (dL a s)=s:=by
 intro s
 induction s with
 |nil=>intro a _;rfl
 |cons c s d=>
  intro a h;have e:=JG (h c (by simp));simp only[dL,unL,fL];rw[jD,e,d _ (fun b A=>(yW a _).mem_iff.2 (h b (by simp[A])))];rfl
theorem PJ:∀(l:List Int) (a:List UInt8),(∀x∈l,0<=x/\x<(a.length:Int))->∀b∈unL a l,b∈a:=by
 intro l
 induction l with
 |nil=>intro a _ b d;simp[unL] at d
 |cons i l e=>
  intro a h b d;rw[unL,jQ] at d;rcases d with rfl|d
  ·have:=h i (by simp)
   grind
  ·grind [yW,BF,unL]
def xF:Nat->Nat->List Int
 |0,_=>[]
 |f+1,n=>if n=0 then[] else(if n%2=1 then 0 else 1)::xF f ((n-1)/2)
def dig (n:Nat):List Int:=xF n n
theorem aMd:∀(f n g:Nat),n<=f->n<=g->xF f n=xF g n:=by
 intro f
 induction f with
 |zero=>
  intro n g d e;have:n=0:=by omega
  subst this
  cases g with
  |zero=>rfl
  |succ g=>simp[xF]
 |succ f A=>
  intro n g d e
  cases g with
  |zero=>
   have:n=0:=by omega
   subst this;simp[xF]
  |succ g=>
   unfold xF
   by_cases D:n=0
   ·grind
   ·grind
theorem uG:dig 0=[]:=rfl
theorem JJ {n:Nat} (h:0<n):dig n=(if n%2=1 then 0 else 1)::dig ((n-1)/2):=by
 unfold dig;obtain⟨m,rfl⟩:∃m,n=m+1:=⟨n-1,by omega⟩
 grind [xF,aMd,dig]
theorem JK:∀(n:Nat),∀x∈dig n,x=0\/x=1:=by
 intro n
 induction n using NU with
 |ind n d=>
  intro x e;rcases jE n with h|h
  ·grind [uG,dig]
  ·grind [JJ,dig]
theorem JL:∀(n:Nat),(dig n).length<=n/\(0<n->0<(dig n).length):=by
 intro n
 induction n using NU with
 |ind n d=>
  rcases jE n with h|h
  ·subst h;simp[uG]
  ·rw[JJ h,aU]
   grind
def num:List Int->Nat
 |[]=>0
 |d::l=>(d.toNat+1)+2*num l
theorem YO:∀n,num (dig n)=n:=by
 intro n
 induction n using NU with
 |ind n d=>
  rcases jE n with h|h
  ·subst h;rfl
  ·rw[JJ h,num,d _ (by omega)]
   grind
def dM:Nat->List Int->List Int
 |k,[]=>dig k
 |k,x::l=>if x=0 then dM (k+1) l else dig k++(x+1)::dM 0 l
def zx:Nat->Nat->List Int->List Int
 |n,_,[]=>aX n 0
 |n,p,x::l=>if x<2 then zx (n+p*(x.toNat+1)) (2*p) l else aX n 0++(x-1)::zx 0 1 l
def dT (m:List Int):List Int:=zx 0 1 m
theorem PK:∀(r:List Int) (n p:Nat) (l:List Int),(∀x∈r,x<2)->zx n p (r++l)=zx (n+p*num r) (p*2^r.length) l:=by
 intro r
 induction r with
 |nil=>intro n p l _;simp[num]
 |cons d r e=>
  intro n p l h;rw[fF,zx,aB (h d (by simp)),e _ _ _ (fun x A=>h x (by simp[A])),num,aU,Nat.pow_succ];have D:n+p*(d.toNat+1)+2*p*num r=n+p*(d.toNat+1+2*num r):=by grind
  have F:2*p*2^r.length=p*(2^r.length*2):=by grind
  rw[D,F]
theorem PL (n p:Nat):zx n p []=aX n 0:=rfl
theorem JM {n p:Nat} {x:Int} {l:List Int} (h:¬x<2):zx n p (x::l)=aX n 0++(x-1)::dT l:=by
 rw[zx,aA h];rfl
theorem aMe:∀(l:List Int) (k:Nat),(∀x∈l,0<=x)->dT (dM k l)=aX k 0++l:=by
 intro l
 induction l with
 |nil=>
  intro k _;have:=PK (dig k) 0 1 [] (fun x d=>by grind [JK,dT,dM]);rw[List.append_nil] at this;rw[dM,dT,this,PL,YO];simp
 |cons x l e=>
  intro k h;rw[dM]
  by_cases d:x=0
  ·grind [List.replicate_succ',bU,dT,dM]
  ·have A:=h x (by simp)
   grind [dT,PK,JK,JM,YO,dM]
theorem PM:∀(l:List Int) (k:Nat),(dM k l).length<=k+l.length/\(0<k+l.length->0<(dM k l).length):=by
 intro l
 induction l with
 |nil=>intro k;simpa [dM] using JL k
 |cons x l d=>
  intro k;rw[dM]
  by_cases e:x=0
  ·grind
  ·grind [JL,dM]
theorem aMf:∀(l:List Int) (k:Nat),(∀x∈l,0<=x)->∀y∈dM k l,y=0\/y=1\/∃x∈l,y=x+1/\x≠0:=by
 intro l
 induction l with
 |nil=>intro k _ y d;rcases JK k y d with h|h;exact .inl h;exact .inr (.inl h)
 |cons x l A=>
  intro k h y d;rw[dM] at d;have D:∀k,y∈dM k l->y=0\/y=1\/∃z∈x::l,y=z+1/\z≠0:=by grind
  by_cases e:x=0
  ·grind
  ·rw[aA e,List.mem_append,jQ] at d;rcases d with d|rfl|d
   ·grind [JK,dM]
   ·grind
   grind
def iX (f:Nat->Int) (i:Nat) (x:Int):Nat->Int:=fun k=>if k=i then x else f k
def lO (a b:Nat) (f g:Nat->Int):Prop:=(∀k,a<=k->k<b->∃d,a<=d/\d<b/\g k=f d)/\(∀k,¬(a<=k/\k<b)->g k=f k)
theorem lO.refl (a b:Nat) (f:Nat->Int):lO a b f f:=⟨fun k d e=>⟨k,d,e,rfl⟩,fun _ _=>rfl⟩
theorem lO.trans {a b:Nat} {f g h:Nat->Int} (p:lO a b f g) (q:lO a b g h):lO a b f h:=
 ⟨fun k e A=>by
  obtain⟨D,F,G,I⟩:=q.1 k e A;obtain⟨J,L,M,O⟩:=p.1 D F G;exact⟨J,L,M,by rw[I,O]⟩,fun k d=>by rw[q.2 k d,p.2 k d]⟩
theorem lO.wide {a b d e:Nat} {f g:Nat->Int} (p:lO a b f g) (I:d<=a) (J:b<=e):lO d e f g:=
 ⟨fun k A D=>by
  by_cases h:a<=k/\k<b
  ·obtain⟨F,L,M,G⟩:=p.1 k h.1 h.2;exact⟨F,by omega,by omega,G⟩
  ·exact⟨k,A,D,p.2 k h⟩,fun k O=>p.2 k (by omega)⟩
section
variable (lt:Int->Int->Prop)
def jM (f:Nat->Int) (a b:Nat):Prop:=∀i j,a<=i->i<j->j<b->lt (f i) (f j)
structure vR:Prop where
 tr:∀x y z,lt x y->lt y z->lt x z
 tot:∀x y,x≠y->lt x y\/lt y x
 irr:∀x,¬lt x x
variable {lt}
theorem jM.mono {f:Nat->Int} {a b d e:Nat} (h:jM lt f a b) (D:a<=d) (F:e<=b):jM lt f d e:=
 fun i j G A I=>h i j (by omega) A (by omega)
structure oS (lt:Int->Int->Prop) (f:Nat->Int) (a m b:Nat):Prop where
 am:a<m
 mb:m<b
 s1:jM lt f a m
 s2:jM lt f m b
 ne:∀i j,a<=i->i<m->m<=j->j<b->f i<f j
structure nZ (lt:Int->Int->Prop) (f g:Nat->Int) (a b:Nat):Prop where
 frm:lO a b f g
 srt:jM lt g a b
end
def ltc (s:List UInt8) (c:Nat):Nat:=s.countP (fun b=>decide (b.toNat<c))
def eqc (s:List UInt8) (c:Nat):Nat:=s.countP (fun b=>b.toNat==c)
theorem JN (s:List UInt8) (c:Nat):ltc s (c+1)=ltc s c+eqc s c:=by
 unfold ltc eqc
 induction s with
 |nil=>rfl
 |cons b l d=>
  simp only[List.countP_cons,d]
  by_cases e:b.toNat<c
  ·grind
  ·grind
theorem YZ (s:List UInt8):ltc s 0=0:=by simp[ltc]
theorem ZA (s:List UInt8):ltc s 256=s.length:=by
 unfold ltc;rw[List.countP_eq_length];intro b _;simp;exact b.toNat_lt
theorem ZB (s:List UInt8) (c d:Nat) (h:c<=d):ltc s c<=ltc s d:=by
 induction d with
 |zero=>
   have:c=0:=by omega
   subst this;exact aD _
 |succ d A=>
  rcases cF d c with e|e
  ·grind
  ·grind [JN,ltc]
theorem JO (s:List UInt8) (k c:Nat) (b:UInt8) (h:s[k]? =some b):eqc (s.take (k+1)) c=eqc (s.take k) c+if b.toNat=c then 1 else 0:=by grind [eqc,List.take_add_one]
theorem PO (s:List UInt8) (k c:Nat):eqc (s.take k) c<=eqc s c:=by grind [eqc,List.countP,kH]
def sM (s:List UInt8) (c n:Nat):List Nat:=(eT n).filter (fun i=>(s.getD i 0).toNat==c)
theorem JP (s:List UInt8) (c n:Nat) (b:UInt8) (h:s[n]? =some b):sM s c (n+1)=sM s c n++if b.toNat=c then[n] else[]:=by grind [sM,wU]
theorem PP (s:List UInt8) (c:Nat):∀n,n<=s.length->(sM s c n).length=eqc (s.take n) c
 |0,_=>by simp[sM,eqc]
 |n+1,h=>by
  obtain⟨b,d⟩:∃b,s[n]? =some b:=⟨_,aN (by omega)⟩;rw[JP s c n b d,JO s n c b d,aL,PP s c n (by omega)]
  grind
theorem ZC (s:List UInt8) (c:Nat):∀n,n<=s.length->∀i j,(sM s c n)[i]? =some j↔(j<n/\(∃b,s[j]? =some b/\b.toNat=c)/\i=eqc (s.take j) c)
 |0,_,i,j=>by simp[sM]
 |n+1,h,i,j=>by
  obtain⟨b,d⟩:∃b,s[n]? =some b:=⟨_,aN (by omega)⟩;have e:=PP s c n (by omega);have A:=ZC s c n (by omega) i j;rw[JP s c n b d,List.getElem?_append]
  grind
def pL (s:List UInt8):Nat->List Nat
 |0=>[]
 |m+1=>pL s m++sM s m s.length
def vec (s:List UInt8):List Nat:=pL s 256
theorem JQ (s:List UInt8):∀m,(pL s m).length=ltc s m
 |0=>by simp[pL,YZ]
 |m+1=>by
  rw[pL,aL,JQ s m,PP s m _ (aD _),List.take_length,JN]
theorem yY (s:List UInt8):(vec s).length=s.length:=by rw[vec,JQ,ZA]
def kX (s:List UInt8) (j:Nat):Nat:=ltc s (s.getD j 0).toNat+eqc (s.take j) (s.getD j 0).toNat
theorem PQ (s:List UInt8):∀m i j,(pL s m)[i]? =some j↔(j<s.length/\(s.getD j 0).toNat<m/\i=kX s j)
 |0,i,j=>by simp[pL]
 |m+1,i,j=>by
  have F:=JQ s m;rw[pL,List.getElem?_append];split
  ·rename_i e
   rw[PQ s m i j]
   grind [kX,pL]
  ·rename_i e
   rw[ZC s m _ (aD _)];constructor
   ·grind [kX,pL]
   ·rintro⟨A,G,D⟩;have I:m<=(s.getD j 0).toNat:=by
     rcases cF (s.getD j 0).toNat m with d|d
     ·have:=(PQ s m i j).2 ⟨A,d,D⟩;rw[fZ (by omega)] at this;cases this
     ·exact d
    grind [kX,pL]
theorem yZ (s:List UInt8) (i j:Nat):(vec s)[i]? =some j↔(j<s.length/\i=kX s j):=by
 rw[vec,PQ];constructor
 ·grind
 ·rintro⟨d,e⟩;exact⟨d,(s.getD j 0).toNat_lt,e⟩
theorem ZD (s:List UInt8) (j:Nat) (h:j<s.length):kX s j<s.length:=by
 have:=(yZ s (kX s j) j).2 ⟨h,rfl⟩
 grind [yY,kX]
theorem aNf (s:List UInt8) (j k:Nat) (d:j<s.length) (e:k<s.length) (h:kX s j=kX s k):j=k:=by
 have A:=(yZ s (kX s j) j).2 ⟨d,rfl⟩;have D:=(yZ s (kX s k) k).2 ⟨e,rfl⟩
 grind
def vU (s:List UInt8):List Int:=(vec s).map Int.ofNat
theorem aNg (s:List UInt8) (l:List Int) (F:l.length=s.length) (h:∀j,j<s.length->l[kX s j]? =some (j:Int)):l=vU s:=by
 unfold vU;apply lH;intro i;rcases cF i s.length with d|d
 ·obtain⟨j,e⟩:∃j,(vec s)[i]? =some j:=⟨_,aN (by rw[yY];exact d)⟩;obtain⟨A,D⟩:=(yZ s i j).1 e;rw[List.getElem?_map,e,D,h j A];rfl
 ·rw[fZ (by omega),fZ (by rw[aS,yY];exact d)]
def nxt (s:List UInt8) (i:Nat):Nat:=(vec s).getD i 0
theorem JR (s:List UInt8) (i:Nat) (h:i<s.length):nxt s i<s.length:=by grind [vec,yY,yZ,nxt]
theorem PR (s:List UInt8) (i:Nat) (h:i<s.length):kX s (nxt s i)=i:=by
 obtain⟨j,d⟩:∃j,(vec s)[i]? =some j:=⟨_,aN (by rw[yY];exact h)⟩;have:=((yZ s i j).1 d).2;simp[nxt,jD,d,<-this]
theorem aNh (s:List UInt8) (j:Nat) (h:j<s.length):nxt s (kX s j)=j:=by
 have:=(yZ s (kX s j) j).2 ⟨h,rfl⟩
 grind [nxt,kX]
theorem aNi (s:List UInt8) (i j:Nat) (d:i<s.length) (e:j<s.length) (h:nxt s i=nxt s j):i=j:=by grind [PR,nxt]
def qC (s:List UInt8) (k d:Nat):Int:=if d=0 then 0 else(eqc (s.take k) (d-1):Int)
def nH (s:List UInt8) (c d:Nat):Int:=if d<=c then(ltc s d:Int) else(eqc s (d-1):Int)
def sN (s:List UInt8) (k d:Nat):Int:=(ltc s d:Int)+(eqc (s.take k) d:Int)
theorem aNj (s:List UInt8):qC s 0=fun _=>0:=by funext d;simp[qC,eqc]
theorem aNk (s:List UInt8) (k:Nat) (b:UInt8) (h:s[k]? =some b) (d:Nat):qC s (k+1) d=if d=b.toNat+1 then qC s k (b.toNat+1)+1 else qC s k d:=by grind [qC,JO]
theorem aNl (s:List UInt8):qC s s.length=nH s 0:=by grind [qC,nH,YZ]
theorem aNm (s:List UInt8) (c d:Nat):nH s (c+1) d=if d=c+1 then nH s c (c+1)+nH s c c else nH s c d:=by grind [nH,JN]
theorem aNn (s:List UInt8) (d:Nat) (h:d<257):sN s 0 d=nH s 256 d:=by grind [nH,sN,eqc]
theorem aNo (s:List UInt8) (k:Nat) (b:UInt8) (h:s[k]? =some b) (d:Nat):sN s (k+1) d=if d=b.toNat then sN s k b.toNat+1 else sN s k d:=by grind [sN,JO]
theorem ZE (s:List UInt8) (k:Nat) (b:UInt8) (h:s[k]? =some b):sN s k b.toNat=(kX s k:Int):=by grind [sN,kX]
theorem ZF (s:List UInt8) (c:Nat):eqc s c<=s.length:=DI
theorem aNp (s:List UInt8) (c:Nat):ltc s c<=s.length:=DI
theorem aNq (s:List UInt8) (k d:Nat):0<=qC s k d/\qC s k d<=s.length:=by grind [qC,PO,ZF]
theorem ZG (s:List UInt8) (k d:Nat):0<=nH s k d/\nH s k d<=s.length:=by grind [nH,aNp,ZF]
attribute [irreducible] vec
theorem php:∀(n:Nat) (f:Nat->Nat),(∀k,k<=n->f k<n)->∃a b,a<b/\b<=n/\f a=f b
 |0,f,h=>absurd (h 0 (aD 0)) (Nat.not_lt_zero _)
 |n+1,f,h=>by
  by_cases d:∃k,k<=n/\f k=f (n+1)
  ·obtain⟨k,A,D⟩:=d;exact⟨k,n+1,by omega,aD _,D⟩
  ·have G:∀k,k<=n->f k≠f (n+1):=fun k F e=>d ⟨k,F,e⟩
   have I:=h (n+1) (aD _);obtain⟨a,b,A,D,J⟩:=php n (fun k=>if f (n+1)<f k then f k-1 else f k) (fun k F=>by grind);refine⟨a,b,A,by omega,?_⟩
   grind
def nI (s:List UInt8):Nat->Nat->Nat
 |0,o=>o
 |k+1,o=>nxt s (nI s k o)
theorem xG (s:List UInt8) (o:Nat) (h:o<s.length):∀k,nI s k o<s.length
 |0=>h
 |k+1=>JR s _ (xG s o h k)
def qR (s:List UInt8) (o:Nat):List UInt8:=(eT s.length).map (fun i=>s.getD (nI s (i+1) o) 0)
def oA (s:List UInt8) (o k:Nat):List UInt8:=(eT k).map (fun i=>s.getD (nI s (i+1) o) 0)
theorem ZH (s:List UInt8) (o:Nat):qR s o=oA s o s.length:=rfl
theorem ZI (s:List UInt8) (o k:Nat):oA s o (k+1)=oA s o k++[s.getD (nI s (k+1) o) 0]:=by simp[oA,wU]
theorem xH (s:List UInt8) (o k:Nat):(oA s o k).length=k:=by simp[oA]
theorem JS (s:List UInt8) (o:Nat):(qR s o).length=s.length:=by simp[qR]
def qD (s:List UInt8) (o:Int):Bool:=decide (0<=o)&&decide (o<max (s.length:Int) 1)
def oU (s:List UInt8) (o:Int):List UInt8:=if qD s o then qR s o.toNat else[]
def rK (s:List UInt8) (o:Int):Int:=if qD s o then 0 else 1
theorem aNs (s:List UInt8) (o i:Nat) (h:i<s.length):(qR s o)[i]? =some (s.getD (nI s (i+1) o) 0):=by simp[qR,h]
theorem aNt (s:List UInt8) (a b c:Nat) (h:a<=b):eqc (s.take a) c<=eqc (s.take b) c:=by
 have:=PO (s.take b) a c
 grind
theorem aNu (s:List UInt8) (i:Nat) (h:i+1<s.length):
  (s.getD (nxt s i) 0).toNat<=(s.getD (nxt s (i+1)) 0).toNat/\((s.getD (nxt s i) 0).toNat=(s.getD (nxt s (i+1)) 0).toNat->nxt s i<nxt s (i+1)):=by
 have M:=JR s i (by omega);have I:=JR s (i+1) h;have D:=PR s i (by omega);have F:=PR s (i+1) h;generalize nxt s i=a at*
 generalize nxt s (i+1)=b at*
 unfold kX at D F;obtain⟨y,G⟩:∃y,s[b]? =some y:=⟨_,aN I⟩;have J:s.getD b 0=y:=by simp[G]
 have L:=JO s b y.toNat y G;rw[aB rfl] at L;have O:=PO s (b+1) y.toNat;rw[J] at F ⊢;constructor
 ·rcases cF y.toNat (s.getD a 0).toNat with d|d
  ·have R:=ZB s (y.toNat+1) _ d
   grind [JN,nxt]
  ·exact d
 ·intro e;rw[e] at D;rcases cF a b with A|A
  ·exact A
  ·have:=aNt s b a y.toNat A;omega
section
variable {c:Nat->Nat}
def eqm (c:Nat->Nat) (m a b:Nat):Prop:=∀t,t<m->c (a+t)=c (b+t)
def ltm (c:Nat->Nat) (m a b:Nat):Prop:=∃t,t<m/\(∀u,u<t->c (a+u)=c (b+u))/\c (a+t)<c (b+t)
theorem eqm.refl (m a:Nat):eqm c m a a:=fun _ _=>rfl
theorem eqm.symm {m a b:Nat} (h:eqm c m a b):eqm c m b a:=fun t d=>(h t d).symm
theorem eqm.trans {m a b d:Nat} (h:eqm c m a b) (k:eqm c m b d):eqm c m a d:=by grind [eqm]
theorem ltm.trans {m a b d:Nat} (h:ltm c m a b) (k:ltm c m b d):ltm c m a d:=by grind [ltm]
theorem ltm.not_eqm {m a b:Nat} (h:ltm c m a b):¬eqm c m a b:=by grind [ltm,eqm]
theorem ltm.irrefl {m a:Nat}:¬ltm c m a a:=by simp[eqm.refl,ltm]
theorem ltm.asymm {m a b:Nat} (h:ltm c m a b):¬ltm c m b a:=fun k=>ltm.irrefl (h.trans k)
theorem ltm.eqm {m a b d:Nat} (h:ltm c m a b) (k:eqm c m b d):ltm c m a d:=by grind [ltm,eqm]
theorem eqm.ltm {m a b d:Nat} (h:eqm c m a b) (k:ltm c m b d):ltm c m a d:=by grind [eqm,ltm]
theorem zA (c:Nat->Nat) (a b:Nat):∀m,ltm c m a b\/eqm c m a b\/ltm c m b a:=by
 intro m
 induction m with
 |zero=>exact .inr (.inl (fun t h=>by omega))
 |succ m d=>
  rcases d with⟨t,e,A,D⟩|h|⟨t,e,A,D⟩
  ·grind [ltm,eqm]
  ·grind [ltm,eqm]
  ·grind [ltm,eqm]
theorem ZJ (m k a b:Nat):ltm c (m+k) a b↔ltm c m a b\/(eqm c m a b/\ltm c k (a+m) (b+m)):=by
 constructor
 ·rintro⟨t,e,d,A⟩;rcases cF t m with p|p
  ·grind [ltm,eqm]
  ·refine .inr ⟨fun u D=>d u (by omega),t-m,by omega,fun u D=>?_,?_⟩
   ·have:=d (m+u) (by omega)
    grind
   grind
 ·rintro(⟨t,e,d,A⟩|⟨h,t,e,d,A⟩)
  ·grind [ltm,eqm]
  ·refine⟨m+t,by omega,fun u D=>?_,by grind⟩;rcases cF u m with p|p
   ·exact h u p
   ·have:=d (u-m) (by omega)
    grind
def Cyc (c:Nat->Nat) (n:Nat):Prop:=∀i,c (i+n)=c i
theorem Cyc.mul {n:Nat} (h:Cyc c n) (i q:Nat):c (i+n*q)=c i:=by
 induction q with
 |zero=>rfl
 |succ q d=>rw[Nat.mul_succ,<-fU,h,d]
theorem Cyc.mod {n:Nat} (h:Cyc c n) (i:Nat):c (i%n)=c i:=by
 have:=h.mul (i%n) (i/n)
 grind [WO,Cyc]
theorem Cyc.mod_add {n:Nat} (h:Cyc c n) (i t:Nat):c (i%n+t)=c (i+t):=by
 rw[<-h.mod (i%n+t),<-h.mod (i+t),Nat.mod_add_mod]
theorem Cyc.ltm {n:Nat} (h:Cyc c n) (m a b:Nat):ltm c m (a%n) (b%n)↔ltm c m a b:=by
 unfold Go.Proofs.YtfckbfofgeilgaaGreatDoor.ltm;simp only[h.mod_add]
theorem Cyc.eqm {n:Nat} (h:Cyc c n) (m a b:Nat):eqm c m (a%n) (b%n)↔eqm c m a b:=by
 unfold Go.Proofs.YtfckbfofgeilgaaGreatDoor.eqm;simp only[h.mod_add]
theorem Cyc.all {n:Nat} (h:Cyc c n) (F:0<n) {m a b:Nat} (I:n<=m):(Go.Proofs.YtfckbfofgeilgaaGreatDoor.eqm c m a b↔Go.Proofs.YtfckbfofgeilgaaGreatDoor.eqm c n a b)/\(Go.Proofs.YtfckbfofgeilgaaGreatDoor.ltm c m a b↔Go.Proofs.YtfckbfofgeilgaaGreatDoor.ltm c n a b):=by
 have D:Go.Proofs.YtfckbfofgeilgaaGreatDoor.eqm c n a b->Go.Proofs.YtfckbfofgeilgaaGreatDoor.eqm c m a b:=fun k t _=>by
  have e:∀x,c (x+t)=c (x+t%n):=fun x=>by
   have:=h.mul (x+t%n) (t/n);rw[fU,WO] at this;exact this
  rw[e a,e b];exact k (t%n) (Nat.mod_lt _ F)
 refine⟨⟨fun k t J=>k t (by omega),D⟩,⟨fun k=>?_,fun⟨t,G,d,A⟩=>⟨t,by omega,d,A⟩⟩⟩;rcases zA c a b n with p|p|p
 ·exact p
 ·exact absurd (D p) k.not_eqm
 ·obtain⟨t,G,d,A⟩:=p;exact absurd ⟨t,by omega,d,A⟩ k.asymm
def bef (c:Nat->Nat) (m:Nat) (x y:Int):Prop:=ltm c m x.toNat y.toNat\/(eqm c m x.toNat y.toNat/\x<y)
theorem BJ (c:Nat->Nat) (m:Nat):vR (bef c m):=by
 refine⟨?_,?_,?_⟩
 ·rintro x y z (h|⟨h,d⟩) (k|⟨k,e⟩)
  ·exact .inl (h.trans k)
  ·exact .inl (h.eqm k)
  ·exact .inl (h.ltm k)
  ·exact .inr ⟨h.trans k,by omega⟩
 ·grind [zA,bef]
 grind [ltm.irrefl,bef]
structure Ord (c:Nat->Nat) (n m:Nat) (o:Nat->Int):Prop where
 rng:∀k,k<n->0<=o k/\o k<(n:Int)
 srt:jM (bef c m) o 0 n
theorem Ord.ne {n m:Nat} {o:Nat->Int} (h:Ord c n m o) {i j:Nat} (d:i<n) (A:j<n) (D:i≠j):o i≠o j:=by
 intro e;rcases Nat.lt_or_gt_of_ne D with p|p
 ·have:=h.srt i j (aO _) p A;rw[e] at this;exact(BJ c m).irr _ this
 ·have:=h.srt j i (aO _) p d;rw[e] at this;exact(BJ c m).irr _ this
theorem Ord.onto {n m:Nat} {o:Nat->Int} (h:Ord c n m o) {y:Nat} (A:y<n):∃k,k<n/\o k=(y:Int):=by
 apply aLh;intro D;obtain⟨a,b,F,G,e⟩:=php n (fun k=>if k<n then(o k).toNat else y) (fun k I=>by
  show(if k<n then(o k).toNat else y)<n
  by_cases p:k<n
  ·rw[aB p];have:=h.rng k p;omega
  grind)
 have d:(if a<n then(o a).toNat else y)=(if b<n then(o b).toNat else y):=e;rw[aB (by omega:a<n)] at d;have J:=h.rng a (by omega)
 by_cases p:b<n
 ·rw[aB p] at d;have L:=h.rng b p;exact h.ne (i:=a) (j:=b) (by omega) p (by omega) (by omega)
 grind
theorem Ord.uniq {n m:Nat} {o d:Nat->Int} (h:Ord c n m o) (D:Ord c n m d):∀k,k<n->o k=d k:=by
 intro k
 induction k using NU with
 |ind k F=>
  intro I;apply aLh;intro G;have J:∀{o d:Nat->Int},Ord c n m o->Ord c n m d->(∀j,j<k->o j=d j)->o k≠d k->bef c m (d k) (o k):=by
   intro o d h D F G;have r:=h.rng k I;obtain⟨j,A,e⟩:=D.onto (y:=(o k).toNat) (by omega);have L:d j=o k:=by omega
   rcases Nat.lt_trichotomy j k with p|p|p
   ·exact absurd ((F j p).trans L) (h.ne A I (by omega))
   ·grind
   ·rw[<-L];exact D.srt k j (aO _) p A
  have M:=J h D (fun j A=>F j A (by omega)) G;have O:=J D h (fun j A=>(F j A (by omega)).symm) (fun e=>G e.symm);exact(BJ c m).irr _ ((BJ c m).tr _ _ _ M O)
end
end
end Go.Proofs.YtfckbfofgeilgaaGreatDoor
