/- The walks and the plain laws, part 1. -/
import Derived.Test.YtiifmcicleljjaaGreatDoorRows
import Derived.WalkKit
import Derived.WalkSpells
import Derived.WalkLawsBesides
import Derived.Deep.QuietTactic
import Derived.BigQuiet
import Derived.Deep.LoopGhost
import Derived.Lib.Strings
import Derived.Deep.RegionWith
import Derived.Deep.DeepCutAuto
set_option maxRecDepth 100000
set_option maxHeartbeats 12800000
set_option linter.unusedVariables false
open Array renaming getElem?_eq_some_iff->gQ
open BitVec renaming ofNat->qZ,shiftLeft_xor_distrib->aTd,toNat_ofNat->aCq,toNat_shiftLeft->GP,xor_assoc->tU
open Decidable renaming not_not->dK
open Go renaming Operand->iM,Program->gD,heap_alloc_new->FL
open Go.Ending renaming returned->NI
open Go.Value renaming int->bO
open Go.World.ownsRow renaming alloc->aBy,kept->NH
open Int renaming le_refl->lJ,toNat_natCast->eG
open List renaming Perm->mT,append_assoc->cF,cons_append->gE,countP_append->NN,countP_cons->NL,drop_eq_getElem_cons->oH,drop_eq_nil_of_le->AT,eraseIdx_sublist->NY,ext_getElem?->jA,flatMap_append->pZ,flatMap_cons->sH,foldl_append->NK,getD->fF,getD_eq_getElem?_getD->aV,getElem?_append_left->gS,getElem?_append_right->jY,getElem?_cons_succ->aS,getElem?_drop->gR,getElem?_eq_getElem->aN,getElem?_eq_none->dL,getElem?_eq_some_iff->eU,getElem?_map->dY,getElem?_range->pF,getElem?_replicate->aTg,getElem?_set_ne->qU,getElem?_set_self->FS,getElem?_take->lW,getElem_cons_drop->NM,getElem_mem->gT,length->tM,length_append->aL,length_cons->cR,length_drop->cI,length_eq_zero_iff->mV,length_map->bJ,length_pos_iff->kV,length_set->mW,length_singleton->fK,length_take->aX,map_append->fI,map_cons->pG,map_map->xJ,mem_append->cU,mem_cons->kD,mem_cons_of_mem->jD,mem_cons_self->lY,mem_flatMap->NW,mem_iff_getElem->qA,mem_map->dU,mem_range->jF,mem_singleton->dC,nodup_append->vM,nodup_cons->NX,pairwise_iff_getElem->xO,perm_append_comm->NR,perm_middle->aCf,range->dG,replicate->bB,replicate_append_replicate->aTh,replicate_succ->AE,set_append_right->ON,set_cons_zero->aH,sum_cons->pV,take_add_one->cQ,take_append_drop->jE,take_append_of_le_length->GO,take_left'->vN,take_of_length_le->cS,take_take->AG
open List.Perm renaming cons->GK,refl->xP
open Nat renaming add_sub_cancel->jZ,eq_zero_or_pos->fJ,le_mul_of_pos_right->FM,le_refl->aA,le_trans->aW,lt_of_le_of_lt->xI,lt_of_lt_of_le->dR,lt_trans->AX,lt_trichotomy->pW,min_eq_left->gU,mod_eq_of_lt->kU,mod_lt->jQ,mul_assoc->vH,mul_comm->oG,pow_le_pow_right->jC,pow_pos->xL,pow_succ->nQ,shiftLeft_eq->GQ,sub_self->oI,testBit_lt_two_pow->FR,zero_le->aU
open Option renaming getD_some->vG,map_map->OH,map_some->xW
open UInt8 renaming ofNat->eK,toNat_ofNat'->nP
namespace Go.Proofs.YtiifmcicleljjaaGreatDoor
section
open Go.RowKit
theorem hid {p:Prop} (h:p):Hid p:=h
def Rd (w:World) (v:Value) (n:Nat) (xs:List Value):Prop:=
 ∃a cap,v=.slice a n cap/\n<=cap/\cap<=maxLen/\
  (xs=[]\/∃b off,a=some ⟨b,off,none⟩/\b<w.heap.size/\∀j,j<xs.length->w.cell? ⟨b,off+j,none⟩=some (xs.getD j undef))
def RdI (w:World) (v:Value) (l:List Int):Prop:=Rd w v l.length (l.map (bO .i64))
theorem lP {W d:World} (z:Below W.heap.size W d):(∀b o,b<W.heap.size->d.cell? ⟨b,o,none⟩=W.cell? ⟨b,o,none⟩)/\(∀b o,b<W.heap.size->d.frozen? ⟨b,o,none⟩=W.frozen? ⟨b,o,none⟩):=
 ⟨fun b o h=>z.cell (p:=⟨b,o,none⟩) h,fun b o h=>z.frozen (p:=⟨b,o,none⟩) h⟩
theorem Rd.below {w w':World} {v:Value} {n:Nat} {xs:List Value} (h:Rd w v n xs) (z:Below w.heap.size w w'):Rd w' v n xs:=by
 obtain⟨a,cap,rfl,E,F,d⟩:=h;refine⟨a,cap,rfl,E,F,?_⟩;rcases d with d|⟨b,off,rfl,A,G⟩
 ·exact .inl d
 ·exact .inr ⟨b,off,rfl,dR A z.size,fun j H=>by rw[(lP z).1 _ _ A];exact G j H⟩
theorem RdI.below {w w':World} {v:Value} {l:List Int} (h:RdI w v l) (d:Below w.heap.size w w'):RdI w' v l:=Rd.below h d
theorem RdI.open {w:World} {v:Value} {l:List Int} (h:RdI w v l):
  ∃a cap,v=.slice a l.length cap/\l.length<=cap/\cap<=maxLen/\
   (0<l.length->∃b off,a=some ⟨b,off,none⟩/\b<w.heap.size/\∀j x,l[j]? =some x->w.cell? ⟨b,off+j,none⟩=some (.int .i64 x)):=by
 obtain⟨a,cap,rfl,A,E,d⟩:=h;refine⟨a,cap,rfl,A,E,fun F=>?_⟩;rcases d with d|⟨b,off,rfl,G,H⟩
 ·have:=congrArg tM d;simp at this;simp[this] at F
 ·refine⟨b,off,rfl,G,fun j x I=>?_⟩;obtain⟨z,J⟩:=eU.1 I;have:=H j (by simpa using z);rw[this];simp[aN z,J]
theorem dH {l:List Int} {k:Nat} (h:k<l.length):∃x,l[k]? =some x:=⟨_,aN h⟩
theorem Rd.of_own {w:World} {F e G n:Nat} {v:Value} {xs:List Value} (h:w.ownsRow F e G v n xs):Rd w v n xs:=by
 obtain⟨z,h⟩:=h;rcases h with⟨rfl,rfl⟩|⟨g,cap,A,rfl,L,E,H,I,M,J⟩
 ·refine⟨none,0,rfl,aA _,by simp[maxLen],.inl ?_⟩
  cases xs with
  |nil=>rfl
  |cons x l=>simp at z
 ·refine⟨_,cap,rfl,H,I,.inr ⟨g,0,rfl,(gQ.1 E).1,fun j d=>?_⟩⟩;rw[Nat.zero_add,cell_of_row w g j A e (0,0) E];have:xs[j]? =A[j]? :=by
   rw[<-J,lW,if_pos (by rw[<-z];exact d)];simp
  rw[<-this,aN d];simp[fF,d]
theorem RdI.of_own {w:World} {d e n:Nat} {v:Value} {l:List Int} (h:w.ownsRow d e 1 v n (l.map (bO .i64))):RdI w v l:=by
 have z:n=l.length:=by have:=h.1;simp at this;omega
 subst z;exact Rd.of_own h
theorem GZ {w w':World} {B d e z n:Nat} {v:Value} {xs:List Value} (h:w.ownsRow d e z v n xs) (E:Below B w w') (F:w.heap.size<=B):w'.ownsRow d e z v n xs:=by
 refine⟨h.1,?_⟩;rcases h.2 with G|⟨g,cap,H,rfl,I,A,rest⟩
 ·exact .inl G
 ·refine .inr ⟨g,cap,H,rfl,I,?_,rest⟩;rw[E.block g (dR (gQ.1 A).1 F)];exact A
theorem IA {w:World} {d z e A n:Nat} {v:Value} {xs:List Value} (h:w.ownsRow d e A v n xs) (E:z<=d):w.ownsRow z e A v n xs:=by
 refine⟨h.1,?_⟩;rcases h.2 with F|⟨g,cap,G,rfl,H,rest⟩
 ·exact .inl F
 ·exact .inr ⟨g,cap,G,rfl,aW E H,rest⟩
def Arr (w:World) (b:Nat) (e:TypeId) (l:List Value):Prop:=w.heap[b]? =some (.cells l.toArray e (0,0))
theorem Arr.lt {w:World} {b:Nat} {e:TypeId} {l:List Value} (h:Arr w b e l):b<w.heap.size:=(gQ.1 h).1
theorem Arr.cell {w:World} {b:Nat} {e:TypeId} {l:List Value} (h:Arr w b e l) {i:Nat} {v:Value} (hi:l[i]? =some v):w.cell? ⟨b,i,none⟩=some v:=by
 rw[cell_of_row w b i _ e (0,0) h];simpa using hi
theorem Arr.free {w:World} {b:Nat} {e:TypeId} {l:List Value} (h:Arr w b e l) (i:Nat):w.frozen? ⟨b,i,none⟩=false:=frozen_of_row w b i _ e h
theorem Arr.set {w:World} {b:Nat} {e:TypeId} {l:List Value} (h:Arr w b e l) (i:Nat) (v:Value):Arr (w.setCell ⟨b,i,none⟩ v) b e (l.set i v):=by
 unfold Arr;rw[heap_setCell_same w b i _ e v h];simp
theorem Arr.other {w:World} {b:Nat} {e:TypeId} {l:List Value} (h:Arr w b e l) (p:Addr) (d:p.block≠b) (v:Value):Arr (w.setCell p v) b e l:=by
 unfold Arr;rw[heap_setCell_other w p b v (fun e=>d e.symm)];exact h
theorem Arr.below {w w':World} {B b:Nat} {e:TypeId} {l:List Value} (h:Arr w b e l) (d:Below B w w') (z:b<B):Arr w' b e l:=by
 unfold Arr;rw[d.block b z];exact h
theorem Arr.alloc {w:World} {b:Nat} {e:TypeId} {l:List Value} (h:Arr w b e l) (o:Obj):Arr (w.alloc o) b e l:=by
 unfold Arr;rw[Below.heap_alloc w o b h.lt];exact h
theorem Arr.drewN {w:World} {b:Nat} {e:TypeId} {l:List Value} (h:Arr w b e l) (n:Nat):Arr (w.drewN n) b e l:=h
theorem Arr.grown {w w':World} {b:Nat} {e:TypeId} {l:List Value} {row:Option Nat} (h:Arr w b e l) (d:w.grownBy w' row) (z:some b≠row):Arr w' b e l:=by
 unfold Arr;rw[d.block b h.lt z];exact h
theorem Arr.new (w:World) (e:TypeId) (l:List Value):Arr (w.alloc (.cells l.toArray e)) w.heap.size e l:=FL w _
def tab (n:Nat) (f:Nat->Int):List Value:=(dG n).map (fun d=>bO .i64 (f d))
theorem iS (n:Nat) (f:Nat->Int) (i:Nat) (h:i<n):(tab n f)[i]? =some (.int .i64 (f i)):=by simp[tab,h]
theorem qD (n:Nat) (f f':Nat->Int) (i:Nat) (v:Int) (h:∀d,d<n->f' d=if d=i then v else f d):(tab n f).set i (.int .i64 v)=tab n f':=by
 apply jA;intro j
 by_cases z:j<n
 ·by_cases A:i=j
  ·subst A;simp[tab,z,h i z]
  ·rw[qU A,iS n f j z,iS n f' j z,h j z,if_neg (fun e=>A e.symm)]
 ·rw[dL (by simp[tab];omega),dL (by simp[tab];omega)]
structure ElT (P:gD) (t e:TypeId) (bytes:Nat) (z:Value):Prop where
 under:P.underlying t=some (.slice e)
 info:∃i,P.info? e=some i/\i.zero=some z/\i.size=1/\i.bytes=bytes
 cells:z.cells=#[z]
 pos:1<=bytes
theorem ElT.mk' {P:gD} {t e:TypeId} {d:Nat} {z:Value} (h:(P.info? e).map (fun i=>(i.zero,i.size,i.bytes))=some (some z,1,d)) (A:P.underlying t=some (.slice e)) (E:z.cells=#[z]) (F:1<=d):ElT P t e d z:=by
 obtain⟨G,hi,H,I,J⟩:=info_parts h;exact⟨A,⟨G,hi,H,I,J⟩,E,F⟩
theorem rC {w w':World} {d e z n:Nat} {v:Value} {xs:List Value} (A:w.ownsRow d e z v n xs) (E:w.grownBy w' v.ownBlock) (F:d<=w.heap.size):Below d w w':=
 (Below.refl d w).grown E F (fun k G=>(A.lt k G).1)
theorem aDa {P:gD} {G:Array Oper} {rest:List Oper} {o:Oper} {a:Act} {Q:Exit->Act->World->Prop} {w:World} {t e A:Nat} {z:Value} (E:ElT P t e A z) (I:o.guard=none) (s x:iM)
  (J:o.op=.call {callee:=.builtin .append,args:=#[s,x],argTypes:=#[t,t]}) (base:Nat) (v:Value) (n:Nat) (xs:List Value) (hs:a.eval s=v) (hown:w.ownsRow base e 1 v n xs)
  (g:Nat) (u:Value) (hx:a.eval x=.slice (some ⟨g,0,none⟩) 1 1) (hc:w.cell? ⟨g,0,none⟩=some u) (h1:u.oneCell'=true) (hroom:(n+1)*A<=140737488355328) (hbase:base<=w.heap.size)
  (h:∀d w',w'.ownsRow base e 1 d (n+1) (xs++[u])->Below base w w'->w.grownBy w' v.ownBlock->wpList P G Q rest (a.put o.dst d) w'):wpList P G Q (o::rest) a w:=by
 obtain⟨i,hi,L,M,O⟩:=E.info;have T:z.cells.size=1:=by rw[E.cells];rfl
 have U:=E.pos;have Y:n+1<=140737488355328:=aW (FM _ U) hroom;refine wpList_append_own w I s x t J base e i z 1 A E.under hi L M O T (by decide) v n xs hs hown ⟨g,0,none⟩ 1 1 [u] hx rfl ?_ (by simpa using h1) (by simp only[maxLen];omega) hroom hbase (fun d w' V H _=>h d w' V (rC hown H hbase) H);intro j Z F
 cases j with
 |zero=>simp at F;subst F;simpa [Addr.add] using hc
 |succ j=>simp at F
def Ow (w:World) (B:Nat) (e:TypeId) (v:Value) (xs:List Value):Prop:=w.ownsRow B e 1 v xs.length xs
theorem Ow.nil (w:World) (B:Nat) (e:TypeId):Ow w B e (.slice none 0 0) []:=World.ownsRow_nil _ _ _ _
theorem Ow.alloc {w:World} {B:Nat} {e:TypeId} {v:Value} {xs:List Value} (h:Ow w B e v xs) (o:Obj):Ow (w.alloc o) B e v xs:=aBy h o
theorem Ow.below {w w':World} {B C:Nat} {e:TypeId} {v:Value} {xs:List Value} (h:Ow w B e v xs) (d:Below C w w') (z:w.heap.size<=C):Ow w' B e v xs:=GZ h d z
theorem Ow.base {w:World} {B B':Nat} {e:TypeId} {v:Value} {xs:List Value} (h:Ow w B e v xs) (d:B'<=B):Ow w B' e v xs:=IA h d
theorem Ow.rd {w:World} {B:Nat} {e:TypeId} {v:Value} {xs:List Value} (h:Ow w B e v xs):Rd w v xs.length xs:=Rd.of_own h
theorem Ow.drewN {w:World} {B:Nat} {e:TypeId} {v:Value} {xs:List Value} (h:Ow w B e v xs) (n:Nat):Ow (w.drewN n) B e v xs:=h
theorem Ow.kept {w w':World} {B:Nat} {e:TypeId} {v:Value} {xs:List Value} {row:Option Nat} (h:Ow w B e v xs) (d:w.grownBy w' row) (z:v.ownBlock=none\/v.ownBlock≠row):Ow w' B e v xs:=NH h d z
theorem Ow.lt {w:World} {B:Nat} {e:TypeId} {v:Value} {xs:List Value} (h:Ow w B e v xs):∀k,v.ownBlock=some k->B<=k/\k<w.heap.size:=World.ownsRow.lt h
theorem rD {P:gD} {A:Array Oper} {rest:List Oper} {o:Oper} {a:Act} {Q:Exit->Act->World->Prop} {w:World} {t e F:Nat} {z:Value} (E:ElT P t e F z) (G:o.guard=none) (s x:iM)
  (H:o.op=.call {callee:=.builtin .append,args:=#[s,x],argTypes:=#[t,t]}) (base:Nat) (v:Value) (xs:List Value) (hs:a.eval s=v) (hown:Ow w base e v xs)
  (g:Nat) (u:Value) (hx:a.eval x=.slice (some ⟨g,0,none⟩) 1 1) (hc:w.cell? ⟨g,0,none⟩=some u) (h1:u.oneCell'=true) (hroom:(xs.length+1)*F<=140737488355328) (hbase:base<=w.heap.size)
  (h:∀d w',Ow w' base e d (xs++[u])->Below base w w'->w.grownBy w' v.ownBlock->wpList P A Q rest (a.put o.dst d) w'):wpList P A Q (o::rest) a w:=
 aDa E G s x H base v xs.length xs hs hown g u hx hc h1 hroom hbase (fun d w' I J L=>h d w' (by unfold Ow;rw[aL];exact I) J L)
def OwI (w:World) (B:Nat) (v:Value) (l:List Int):Prop:=Ow w B 3 v (l.map (bO .i64))
theorem OwI.nil (w:World) (B:Nat):OwI w B (.slice none 0 0) []:=Ow.nil _ _ _
theorem OwI.alloc {w:World} {B:Nat} {v:Value} {l:List Int} (h:OwI w B v l) (o:Obj):OwI (w.alloc o) B v l:=Ow.alloc h o
theorem OwI.below {w w':World} {B C:Nat} {v:Value} {l:List Int} (h:OwI w B v l) (d:Below C w w') (z:w.heap.size<=C):OwI w' B v l:=Ow.below h d z
theorem OwI.base {w:World} {B B':Nat} {v:Value} {l:List Int} (h:OwI w B v l) (d:B'<=B):OwI w B' v l:=Ow.base h d
theorem OwI.rd {w:World} {B:Nat} {v:Value} {l:List Int} (h:OwI w B v l):RdI w v l:=by
 unfold RdI;have:=Ow.rd h;rwa[bJ] at this
theorem gL:ElT Tryz.prog 27 3 8 (.int .i64 0):=ElT.mk' (by kernel_rfl) Tryz.underlying27 rfl (by decide)
theorem eN {z:Array Oper} {rest:List Oper} {o:Oper} {a:Act} {Q:Exit->Act->World->Prop} {w:World} (A:o.guard=none) (s x:iM)
  (E:o.op=.call {callee:=.builtin .append,args:=#[s,x],argTypes:=#[27,27]}) (base:Nat) (v:Value) (l:List Int) (hs:a.eval s=v) (hown:OwI w base v l)
  (g:Nat) (n:Int) (hx:a.eval x=.slice (some ⟨g,0,none⟩) 1 1) (hc:w.cell? ⟨g,0,none⟩=some (.int .i64 n)) (hroom:(l.length+1)*8<=140737488355328) (hbase:base<=w.heap.size)
  (h:∀d w',OwI w' base d (l++[n])->Below base w w'->w.grownBy w' v.ownBlock->wpList Tryz.prog z Q rest (a.put o.dst d) w'):wpList Tryz.prog z Q (o::rest) a w:=
 rD gL A s x E base v _ hs hown g _ hx hc rfl (by simpa using hroom) hbase (fun d w' F G H=>h d w' (by unfold OwI;rw[fI];exact F) G H)
theorem eW (s:ByteArray) (j:Nat) (h:j<s.size):s.data.toList[j]? =some s[j]:=by
 rw[aN (by simpa using h)];rfl
def fB (z:Value) (n:Nat):Array Value:=(bB n z).toArray
theorem Arr.made (w:World) (e:TypeId) (z:Value) (n:Nat):Arr (w.alloc (.cells (fB z n) e)) w.heap.size e (bB n z):=FL w _
theorem mkA {P:gD} {d:Array Oper} {rest:List Oper} {o:Oper} {a:Act} {Q:Exit->Act->World->Prop} {w:World} {t e A:Nat} {z:Value} (E:ElT P t e A z) (G:o.guard=none) (l c:iM)
  (H:o.op=.makeSlice t l c) (n:Nat) (I:a.eval l=.int .i64 (n:Int)) (J:a.eval c=.int .i64 (n:Int)) (L:n*A<=140737488355328)
  (h:wpList P d Q rest (a.put o.dst (.slice (some ⟨w.heap.size,0,none⟩) n n)) (w.alloc (.cells (fB z n) e))):wpList P d Q (o::rest) a w:=by
 refine wpList_plain G fun K M=>?_
 obtain⟨i,hi,O,T,U⟩:=E.info;have V:=E.pos;have Z:n<=140737488355328:=aW (FM _ V) L;have Y:(i.bytes:Int)*(n:Int)<=281474976710656:=by
  rw[U,<-Int.natCast_mul,oG];omega
 have F:=run_make (P:=P) w t e i z E.under hi O .i64 .i64 (n:Int) (n:Int) (by omega) (lJ _) Y (by omega);rw[T,Nat.mul_one,eG,E.cells,show madeCells #[z] n=fB z n from by rw[fB,<-toList_madeCells_one]] at F;unfold Oper.wp;simp[execOp,H,I,J,F,Result.andThen];exact M _ _ h
theorem BF (n:Nat):bB n (bO .i64 0)=tab n (fun _=>0):=by
 apply jA;intro j
 by_cases d:j<n<;>simp[tab,d]
theorem Arr.own {w:World} {b B:Nat} {e:TypeId} {l:List Value} (h:Arr w b e l) (d:B<=b) (z:l.length<=maxLen):Ow w B e (.slice (some ⟨b,0,none⟩) l.length l.length) l:=
 ⟨by simp,.inr ⟨b,l.length,l.toArray,rfl,d,h,aA _,z,by simp,by simp⟩⟩
theorem aDb {P:gD} {a:Act} {w:World} {Q:Exit->Act->World->Prop} {c T:Code} (l:Nat) (J:Nat->Act->World->Prop) (G:findLabel c l=some (Code.skip.seq T))
  (F:∀g a w,J g a w->T.wp P (Exit.jump l (fun E w'=>∃d,d<g/\J d E w') Q) a w)
  (first:Hid (∀g a w,J g a w->T.wp P (Exit.jump l (fun a w=>∃g,J g a w) Q) a w)->c.wp P (Exit.jump l (fun a w=>∃g,J g a w) Q) a w):(Code.scope c).wp P Q a w:=by
 refine wp_scope_jumps l (fun a w=>∃g,J g a w) (fun a w=>leastOf (fun g=>J g a w)) G (first (hid fun g a w z=>Code.wp_mono ?_ (F g a w z))) (fun a w h=>?_)
 ·intro e E w' A
  cases e with
  |goto H=>
   obtain⟨rfl,d,_,z⟩:=A;exact⟨rfl,d,z⟩
  |_=>exact A
 ·apply wp_seq_k;intro K I;apply wp_skip;refine I _ _ (Code.wp_mono ?_ (F _ a w (leastOf_spec h).1));intro e E w' A
  cases e with
  |goto H=>
   obtain⟨rfl,d,L,z⟩:=A;exact⟨rfl,⟨d,z⟩,xI ((leastOf_spec ⟨d,z⟩).2 _ z) L⟩
  |_=>exact A
def mkS (l:List UInt8):ByteArray:=⟨l.toArray⟩
@[simp] theorem fW (l:List UInt8):(mkS l).data.toList=l:=rfl
@[simp] theorem cP (l:List UInt8):(mkS l).size=l.length:=by simp[mkS,ByteArray.size]
theorem pL (s:ByteArray):mkS s.data.toList=s:=by cases s;simp[mkS]
theorem IB {s:ByteArray} {l:List UInt8} (h:s.data.toList=l):s=mkS l:=by rw[<-h,pL]
theorem pM (l m:List UInt8):mkS l++mkS m=mkS (l++m):=IB (by simp)
def eO (l:List UInt8):List Value:=l.map (fun b=>bO .u8 (b.toNat:Int))
@[simp] theorem rE (l:List UInt8):(eO l).length=l.length:=by simp[eO]
theorem IC (l m:List UInt8):eO (l++m)=eO l++eO m:=by simp[eO]
theorem BH {l:List UInt8} {k:Nat} {b:UInt8} (h:l[k]? =some b):(eO l)[k]? =some (.int .u8 (b.toNat:Int)):=by simp[eO,h]
theorem OR (l:List UInt8) (k:Nat) (b:UInt8):(eO l).set k (.int .u8 (b.toNat:Int))=eO (l.set k b):=by simp[eO,List.map_set]
def RdB (w:World) (v:Value) (l:List UInt8):Prop:=Rd w v l.length (eO l)
def OwB (w:World) (B:Nat) (v:Value) (l:List UInt8):Prop:=Ow w B 5 v (eO l)
theorem OwB.rd {w:World} {B:Nat} {v:Value} {l:List UInt8} (h:OwB w B v l):RdB w v l:=by
 unfold RdB;have:=Ow.rd h;rwa[rE] at this
theorem lQ {w:World} {v:Value} {l:List UInt8} (h:RdB w v l):(convert 45 9 v).run Tryz.prog w=.ok (.string (mkS l)) w:=by
 obtain⟨a,cap,rfl,G,H,d⟩:=h;have z:∀(l:List UInt8),strOfNums (l.map (fun b=>(b.toNat:Int)))=mkS l:=fun l=>by
  simp[strOfNums,mkS,xJ,Function.comp_def]
 rcases d with d|⟨b,off,rfl,I,A⟩
 ·have E:l=[]:=by cases l with|nil=>rfl|cons x l=>simp[eO] at d
  subst E
  cases a with
  |none=>exact run_convert_bytes_nil w _ _ Tryz.underlying45 Tryz.underlying5 0 cap _ Tryz.underlying9
  |some a=>
   rw[run_convert_bytes_string w _ _ _ _ _ _ Tryz.underlying45 Tryz.underlying5 Tryz.underlying9];rw[run_bytesToString w a _ cap [] (by simpa using run_loadCells_list (P:=Tryz.prog) w a [] (fun j u F=>by simp at F))];rfl
 ·rw[run_convert_bytes_arg w _ _ Tryz.underlying45 Tryz.underlying5 b off l.length cap (l.map (fun b=>(b.toNat:Int))) (by simp) (fun i hi=>by
   rw[A i (by simpa using hi)];simp[eO,hi]) _ Tryz.underlying9,z]
theorem vQ:ElT Tryz.prog 45 5 1 (.int .u8 0):=ElT.mk' (by kernel_rfl) Tryz.underlying45 rfl (by decide)
theorem Arr.rdB {w:World} {b:Nat} {e:TypeId} {l:List UInt8} {n:Nat} (h:Arr w b e (eO l)) (d:l.length=n) (z:n<=maxLen):RdB w (.slice (some ⟨b,0,none⟩) n n) l:=by
 subst d;have:=(h.own (B:=0) (aU _) (by simpa using z)).rd;unfold RdB;simpa using this
theorem nT (s:ByteArray) (a b:Nat):s.extract a b=mkS ((s.data.toList.drop a).take (b-a)):=IB (Lib.extract_data s a b)
theorem BI (s:ByteArray) (q:Nat) (h:q<s.size):s.extract q (q+1)=mkS [s.data.toList.getD q 0]:=by
 rw[nT,show q+1-q=1 by omega];have d:q<s.data.toList.length:=by simpa using h
 rw[oH d];simp[fF,aN d]
def nA {α:Type} (n:Nat) (z:α) (l:List α):List α:=l++bB (n-l.length) z
theorem OS {α:Type} (n:Nat) (z:α) (l:List α) (h:n<=l.length):nA n z l=l:=by simp[nA,Nat.sub_eq_zero_of_le h]
theorem aDc {α:Type} (n:Nat) (z:α) (l:List α) (h:l.length<=n):(nA n z l).length=n:=by simp[nA];omega
theorem aDd {α:Type} (n:Nat) (z x:α) (l:List α) (h:l.length<n):(nA n z l).set l.length x=nA n z (l++[x]):=by
 obtain⟨m,d⟩:∃m,n-l.length=m+1:=⟨n-l.length-1,by omega⟩;have A:n-(l++[x]).length=m:=by simp;omega
 simp only[nA,d,A,AE];simp
theorem aDe {α:Type} (n:Nat) (z:α) (l:List α) (k:Nat) (h:k<n) (d:l.length<=n):∃x,(nA n z l)[k]? =some x:=
 ⟨_,aN (by rw[aDc n z l d];exact h)⟩
theorem bS (w:World) (x:Value) (t:TypeId):(w.alloc (.cells #[x] t)).cell? ⟨w.heap.size,0,none⟩=some x:=by
 rw[World.cell?_alloc_at _ _ _ _ rfl];rfl
theorem xY (w:World) (e:TypeId) (xs:List Value) (n:Nat) (d:xs.length=n) (z:n<=maxLen):Rd (w.alloc (.cells xs.toArray e)) (.slice (some ⟨w.heap.size,0,none⟩) n n) n xs:=by
 subst d;exact((Arr.new w e xs).own (B:=0) (aU _) z).rd
theorem fX {k:IntKind} {a b:Int} (h:a=b):NI (.int k a)=.returned (.int k b):=by rw[h]
theorem sN {a b:Bool} (h:a=b):NI (.bool a)=.returned (.bool b):=by rw[h]
theorem tY {a b:ByteArray} (h:a=b):NI (.string a)=.returned (.string b):=by rw[h]
end
section
def dI (s:List UInt8) (i:Nat):Bool:=(s.getD (i/8) 0).toNat.testBit (7-i%8)
def tZ (l:List Bool):Nat:=(dG 8).foldl (fun n k=>2*n+(l.getD k false).toNat) 0
def uA (l:List Bool):UInt8:=eK (tZ l)
def aD (l:List Bool):List UInt8:=(dG ((l.length+7)/8)).map (fun j=>uA (l.drop (8*j)))
theorem gY (l:List Bool):(aD l).length=(l.length+7)/8:=by simp[aD]
theorem aDf (l:List Bool):tZ l<256:=by
 unfold tZ;simp only[dG,dG.loop,List.foldl];have h:∀b:Bool,b.toNat<=1:=fun b=>by cases b<;>decide
 have:=h (l.getD 0 false);have:=h (l.getD 1 false);have:=h (l.getD 2 false);have:=h (l.getD 3 false);have:=h (l.getD 4 false);have:=h (l.getD 5 false);have:=h (l.getD 6 false);have:=h (l.getD 7 false);omega
theorem aDg:∀d z A E F G H I:Bool,∀k:Fin 8,(2*(2*(2*(2*(2*(2*(2*(2*0+d.toNat)+z.toNat)+A.toNat)+E.toNat)+F.toNat)+G.toNat)+H.toNat)+I.toNat).testBit (7-k.val)=[d,z,A,E,F,G,H,I][k]:=by decide+kernel
theorem aDh (l:List Bool) (k:Nat) (d:k<8):(tZ l).testBit (7-k)=l.getD k false:=by
 unfold tZ;simp only[dG,dG.loop,List.foldl];have:=aDg (l.getD 0 false) (l.getD 1 false) (l.getD 2 false) (l.getD 3 false) (l.getD 4 false) (l.getD 5 false) (l.getD 6 false) (l.getD 7 false) ⟨k,d⟩;rw[this];rcases(show k=0\/k=1\/k=2\/k=3\/k=4\/k=5\/k=6\/k=7 by omega) with rfl|rfl|rfl|rfl|rfl|rfl|rfl|rfl<;>rfl
theorem aDi (l:List Bool):(uA l).toNat=tZ l:=by
 unfold uA;rw[nP];exact kU (aDf l)
theorem sO (l:List Bool) (i:Nat):dI (aD l) i=l.getD i false:=by
 unfold dI
 by_cases h:i/8<(l.length+7)/8
 ·have e:(aD l).getD (i/8) 0=uA (l.drop (8*(i/8))):=by
   unfold aD;rw[aV,dY,pF h];rfl
  rw[e,aDi,aDh _ _ (jQ _ (by decide)),aV,gR,aV]
  congr 2;omega
 ·have e:(aD l).getD (i/8) 0=0:=by
   rw[aV,dL (by rw[gY];omega)];rfl
  rw[e,aV,dL (by omega)];simp
theorem aDj {a b:UInt8} (h:∀k,k<8->a.toNat.testBit (7-k)=b.toNat.testBit (7-k)):a=b:=by
 apply UInt8.toNat_inj.1;apply Nat.eq_of_testBit_eq;intro i
 by_cases hi:i<8
 ·have:=h (7-i) (by omega);rw[show 7-(7-i)=i by omega] at this;exact this
 ·have d:a.toNat<2^i:=dR a.toNat_lt (jC (by decide) (by omega));have z:b.toNat<2^i:=dR b.toNat_lt (jC (by decide) (by omega));rw[FR d,FR z]
theorem OU {s t:List UInt8} (d:s.length=t.length) (h:∀i,i<8*s.length->dI s i=dI t i):s=t:=by
 apply List.ext_getElem d;intro j z A;apply aDj;intro k E;have:=h (8*j+k) (by omega);unfold dI at this;rw[show(8*j+k)/8=j by omega,show(8*j+k)%8=k by omega] at this
 simpa [fF,z,A] using this
def kW (s:List UInt8):List Bool:=(dG (8*s.length)).map (dI s)
theorem xZ (s:List UInt8):(kW s).length=8*s.length:=by simp[kW]
theorem sP (s:List UInt8) (i:Nat):(kW s)[i]? =if i<8*s.length then some (dI s i) else none:=by
 unfold kW;rw[dY]
 by_cases h:i<8*s.length
 ·rw[if_pos h,pF h];rfl
 ·rw[if_neg h,dL (by simpa using h)];rfl
theorem OV {s:List UInt8} {j:Nat} (d:j<s.length) (x:UInt8) (i:Nat):dI (s.set j x) i=if i/8=j then x.toNat.testBit (7-i%8) else dI s i:=by
 unfold dI
 by_cases h:i/8=j
 ·rw[if_pos h,aV,h,FS d];rfl
 ·rw[if_neg h,aV,qU (fun e=>h e.symm),aV]
theorem OW (s t:List UInt8) (i:Nat):dI (s++t) i=if i<8*s.length then dI s i else dI t (i-8*s.length):=by
 unfold dI
 by_cases h:i<8*s.length
 ·rw[if_pos h,aV,gS (by omega),aV]
 ·rw[if_neg h,aV,jY (by omega),aV];rw[show i/8-s.length=(i-8*s.length)/8 by omega,show(i-8*s.length)%8=i%8 by omega]
theorem orB:∀x:Fin 256,∀k:Fin 8,∀q:Fin 8,(x.val|||(128>>>k.val)).testBit (7-q.val)=(x.val.testBit (7-q.val)||decide (q=k)):=by decide+kernel
theorem aDk {l:List Bool} (h:l.length%8=0) (b:Bool):aD (l++[b])=aD l++[if b then 128 else 0]:=by
 have z:(aD l).length=l.length/8:=by rw[gY];omega
 apply OU
 ·rw[gY];simp[gY];omega
 ·intro i hi;rw[gY] at hi;simp at hi;rw[sO,OW,z]
  by_cases d:i<8*(l.length/8)
  ·rw[if_pos d,sO,aV,gS (by omega),aV]
  ·rw[if_neg d];obtain⟨k,rfl⟩:∃k,i=l.length+k:=⟨i-l.length,by omega⟩;have A:k<8:=by omega
   rw[aV,jY (by omega),show l.length+k-l.length=k by omega,show l.length+k-8*(l.length/8)=k by omega];unfold dI;rw[show k/8=0 by omega,show k%8=k by omega];rcases(show k=0\/k=1\/k=2\/k=3\/k=4\/k=5\/k=6\/k=7 by omega) with rfl|rfl|rfl|rfl|rfl|rfl|rfl|rfl<;>cases b<;>rfl
theorem OX {l:List Bool} (h:l.length%8≠0) (b:Bool):aD (l++[b])=(aD l).set ((aD l).length-1) (eK (((aD l).getD ((aD l).length-1) 0).toNat|||(if b then 128>>>(l.length%8) else 0))):=by
 have F:(aD l).length=l.length/8+1:=by rw[gY];omega
 apply OU
 ·rw[gY];simp[gY];omega
 ·intro i hi;rw[gY] at hi;simp at hi;rw[sO,OV (by omega),F,jZ];have z:dI (aD l) i=l.getD i false:=sO l i
  by_cases d:i/8=l.length/8
  ·rw[if_pos d];have A:((aD l).getD (l.length/8) 0).toNat<256:=UInt8.toNat_lt _;have E:((aD l).getD (l.length/8) 0).toNat.testBit (7-i%8)=l.getD i false:=by rw[<-z];unfold dI;rw[d]
   have hor:∀y,y<256->(eK (((aD l).getD (l.length/8) 0).toNat|||y)).toNat=(((aD l).getD (l.length/8) 0).toNat|||y):=fun y G=>by
    rw[nP];exact kU (Nat.or_lt_two_pow (n:=8) A G)
   cases b with
   |false=>
    rw[if_neg (by decide),hor _ (by decide),Nat.or_zero,E]
    by_cases hi2:i<l.length
    ·rw[aV,gS hi2,aV]
    ·rw[aV,jY (by omega),aV,dL (l:=l) (by omega)];rcases fJ (i-l.length) with e|e
     ·rw[e];rfl
     ·rw[dL (by simp;omega)]
   |true=>
    have H:128>>>(l.length%8)<256:=xI (Nat.shiftRight_le _ _) (by decide);rw[if_pos rfl,hor _ H];have:=orB ⟨_,A⟩ ⟨l.length%8,jQ _ (by decide)⟩ ⟨i%8,jQ _ (by decide)⟩;simp only at this;rw[this,E]
    by_cases hi2:i<l.length
    ·rw[aV,gS hi2,aV];rw[decide_eq_false (by intro e;injection e;omega),Bool.or_false]
    ·rw[aV,jY (by omega),aV,dL (l:=l) (by omega)];rcases fJ (i-l.length) with e|e
     ·rw[e,decide_eq_true (by ext;show i%8=l.length%8;omega)];rfl
     ·rw[dL (by simp;omega),decide_eq_false (by intro e;injection e;omega)];rfl
  ·rw[if_neg d,z];rw[aV,gS (by omega),aV]
theorem aDl (l:List Bool):(kW (aD l)).take l.length=l:=by
 apply jA;intro i;rw[lW]
 by_cases h:i<l.length
 ·rw[if_pos h,sP,if_pos (by rw[gY];omega),sO,aV,aN h];rfl
 ·rw[if_neg h,dL (by omega)]
def bY (l:List Bool):Nat:=l.foldl (fun v b=>2*v+b.toNat) 0
theorem rF (l:List Bool) (b:Bool):bY (l++[b])=2*bY l+b.toNat:=by unfold bY;rw[NK];rfl
theorem yA {α:Type} {P:List α->Prop} (d:P []) (z:∀l b,P l->P (l++[b])):∀l,P l:=fun l=>by
 have h:∀m:List α,P m.reverse:=fun m=>by
  induction m with
  |nil=>exact d
  |cons b m A=>rw[List.reverse_cons];exact z _ _ A
 have:=h l.reverse;rwa[List.reverse_reverse] at this
theorem qE (l:List Bool):bY l<2^l.length:=by
 refine yA (P:=fun l=>bY l<2^l.length) (by decide) (fun l b d=>?_) l
 ·rw[rF,aL,fK,nQ];have:b.toNat<=1:=by cases b<;>decide
  omega
def aY (v n:Nat):List Bool:=(dG n).map (fun i=>v.testBit (n-1-i))
theorem cY (v n:Nat):(aY v n).length=n:=by simp[aY]
theorem ID (v n i:Nat) (h:i<n):(aY v n)[i]? =some (v.testBit (n-1-i)):=by simp[aY,h]
theorem BJ (l:List Bool):∀i,i<l.length->(bY l).testBit i=l.getD (l.length-1-i) false:=by
 refine yA (P:=fun l=>∀i,i<l.length->(bY l).testBit i=l.getD (l.length-1-i) false) (fun i h=>by simp at h) (fun l b d=>?_) l
 ·intro i hi;rw[rF];simp only[aL,fK] at hi ⊢
  cases i with
  |zero=>
   rw[aV,jY (by omega)];simp only[jZ,Nat.sub_zero,oI,List.getElem?_cons_zero,vG];rw[Nat.testBit_zero]
   cases b<;>simp<;>omega
  |succ i=>
   rw[Nat.testBit_succ,show(2*bY l+b.toNat)/2=bY l by cases b<;>simp<;>omega,d i (by omega)];rw[aV,aV,gS (by omega)]
   congr 2;omega
theorem yB (l:List Bool):aY (bY l) l.length=l:=by
 apply List.ext_getElem (cY _ _);intro i z d;have:=ID (bY l) l.length i d;rw[aN z] at this
 injection this with this
 rw[this,BJ l _ (by omega),aV,show l.length-1-(l.length-1-i)=i by omega,aN d];rfl
theorem OY {v n:Nat} (h:v<2^n):bY (aY v n)=v:=by
 apply Nat.eq_of_testBit_eq;intro i
 by_cases hi:i<n
 ·rw[BJ _ _ (by rw[cY];exact hi),cY,aV,ID _ _ _ (by omega)];simp only[vG]
  congr 1;omega
 ·rw[FR (dR h (jC (by decide) (by omega)))];have:=qE (aY v n);rw[cY] at this;rw[FR (dR this (jC (by decide) (by omega)))]
def bU (l:List Int) (n:Nat):Nat:=l.countP (fun x=>x==(n:Int))
def fC (l:List Int):Nat->Nat
 |0=>0
 |n+1=>2*(fC l n+bU l n)
def fY (l:List Int):Prop:=2<=l.length/\l.length<=258/\∀x∈l,1<=x/\x<=20
instance (l:List Int):Decidable (fY l):=inferInstanceAs (Decidable (2<=l.length/\l.length<=258/\∀x∈l,1<=x/\x<=20))
def jR (l:List Int):Nat:=(l.map (fun x=>2^(20-x.toNat))).sum
def bL (l:List Int):Int:=if ¬fY l then 1 else if jR l>1048576 then 6 else 0
theorem eH {l:List Int} (h:bL l=0):fY l/\jR l<=1048576:=by
 unfold bL at h;split at h
 ·omega
 ·next d=>
  split at h
  ·omega
  ·exact⟨dK.1 d,by omega⟩
theorem aDm {l:List Int} (d:fY l) (z:jR l<=1048576):bL l=0:=by
 unfold bL;rw[if_neg (fun k=>k d),if_neg (by omega)]
theorem OZ {l:List Int} (h:∀x∈l,1<=x):bU l 0=0:=by
 unfold bU;rw[List.countP_eq_zero];intro x d;have:=h x d;simp;omega
theorem PA {l:List Int} (h:∀x∈l,1<=x):fC l 1=0:=by unfold fC;rw[OZ h];rfl
def lB (l:List Int) (n:Nat):Nat:=(l.map (fun x=>if x.toNat<=n then 2^(n-x.toNat) else 0)).sum
theorem PB (l:List Int) (n:Nat) (h:∀x∈l,1<=x):lB l (n+1)=2*lB l n+bU l (n+1):=by
 induction l with
 |nil=>rfl
 |cons x l d=>
  have d:=d (fun y A=>h y (jD _ A));have F:=h x (lY ..);unfold lB bU at*
  simp only[pG,pV,NL];rw[d]
  by_cases z:x.toNat<=n
  ·rw[if_pos z,if_pos (by omega),if_neg (by simp;omega),show n+1-x.toNat=n-x.toNat+1 by omega,nQ];omega
  ·rw[if_neg z]
   by_cases E:x.toNat=n+1
   ·rw[if_pos (by omega),if_pos (by simp;omega),E,oI];omega
   ·rw[if_neg (by omega),if_neg (by simp;omega)];omega
theorem PC (l:List Int) (h:∀x∈l,1<=x):∀n,lB l n=fC l n+bU l n:=by
 intro n
 induction n with
 |zero=>
  have:lB l 0=bU l 0:=by
   induction l with
   |nil=>rfl
   |cons x l d=>
    have d:=d (fun y z=>h y (jD _ z));have A:=h x (lY ..);unfold lB bU at*
    simp only[pG,pV,NL,d];rw[if_neg (by omega),if_neg (by simp;omega)];omega
  rw[this];unfold fC;omega
 |succ n d=>rw[PB l n h,d];rfl
theorem PD (l:List Int) (n k:Nat):lB l n*2^k<=lB l (n+k):=by
 unfold lB
 induction l with
 |nil=>simp
 |cons x l d=>
  simp only[pG,pV];rw[Nat.add_mul];refine Nat.add_le_add ?_ d
  by_cases h:x.toNat<=n
  ·rw[if_pos h,if_pos (by omega),<-Nat.pow_add,show n-x.toNat+k=n+k-x.toNat by omega];exact aA _
  ·rw[if_neg h];simp
theorem IE {l:List Int} (h:∀x∈l,1<=x/\x<=20):lB l 20=jR l:=by
 unfold lB jR
 congr 1
 apply List.map_congr_left;intro x d;have:=h x d;rw[if_pos (by omega)]
theorem PE {l:List Int} (h:∀x∈l,1<=x/\x<=20) (A:jR l<=1048576) {n:Nat} (E:n<=20):fC l n+bU l n<=2^n:=by
 rw[<-PC l (fun x d=>(h x d).1)];have:=PD l n (20-n);rw[show n+(20-n)=20 by omega,IE h] at this;have F:2^n*2^(20-n)=1048576:=by rw[<-Nat.pow_add,show n+(20-n)=20 by omega]
 have z:lB l n*2^(20-n)<=2^n*2^(20-n):=by omega
 exact Nat.le_of_mul_le_mul_right z (xL (by decide))
def pN (l:List Int):Nat->Int
 |0=>1-(bU l 0:Int)
 |n+1=>2*pN l n-(bU l (n+1):Int)
theorem IF (l:List Int) (h:∀x∈l,1<=x):∀n,pN l n=2^n-(lB l n:Int):=by
 intro n
 induction n with
 |zero=>
  have:lB l 0=bU l 0:=by rw[PC l h];unfold fC;omega
  unfold pN;rw[this];rfl
 |succ n d=>
  unfold pN;rw[d,PB l n h];rw[Int.pow_succ];push_cast;omega
theorem aDn {l:List Int} (h:∀x∈l,1<=x/\x<=20) {n:Nat} (F:n<=20) (d:pN l n<0):1048576<jR l:=by
 rw[IF l (fun x z=>(h x z).1)] at d;have A:2^n<lB l n:=by
  have:((2^n:Nat):Int)<(lB l n:Int):=by push_cast;omega
  exact Int.ofNat_lt.1 this
 have:=PD l n (20-n);rw[show n+(20-n)=20 by omega,IE h] at this;have G:2^n*2^(20-n)=1048576:=by rw[<-Nat.pow_add,show n+(20-n)=20 by omega]
 have E:(2^n+1)*2^(20-n)<=lB l n*2^(20-n):=Nat.mul_le_mul_right _ A;have H:0<2^(20-n):=xL (by decide);rw[Nat.add_mul] at E;omega
theorem aDo {l:List Int} (h:∀x∈l,1<=x/\x<=20) (d:∀n,n<=20->0<=pN l n):jR l<=1048576:=by
 have:=d 20 (aA _);rw[IF l (fun x z=>(h x z).1),IE h] at this;have e:(2:Int)^20=1048576:=by decide
 omega
theorem aDp {l:List Int} (h:∀x∈l,1<=x) {n:Nat}:pN l n<=2^n:=by
 rw[IF l h];omega
def bG (l:List Int) (s:Nat):Nat:=(l.getD s 0).toNat
def fO (l:List Int) (s:Nat):Nat:=fC l (bG l s)+bU (l.take s) (bG l s)
theorem jG {l:List Int} (h:fY l) {s:Nat} (d:s<l.length):1<=bG l s/\bG l s<=20/\l[s]? =some ((bG l s:Nat):Int):=by
 have:=h.2.2 l[s] (gT d);unfold bG;rw[aV,aN d];simp only[vG];exact⟨by omega,by omega,by congr 1;omega⟩
theorem BK {l:List Int} {s:Nat} (z:s<l.length) {n:Nat} (d:l[s]? =some (n:Int)):bU (l.take s) n<bU l n:=by
 unfold bU;have e:l=l.take s++l[s]::l.drop (s+1):=by rw[NM,jE]
 conv=>rhs;rw[e]
 rw[NN,NL];have:l[s]=(n:Int):=by rw[aN z] at d;injection d
 rw[this];simp
theorem BM {l:List Int} (h:fY l) {s:Nat} (d:s<l.length):fC l (bG l s)<=fO l s/\fO l s<fC l (bG l s)+bU l (bG l s):=by
 have:=BK d (jG h d).2.2;unfold fO;omega
theorem IG {l:List Int} (h:fY l) (z:jR l<=1048576) {s:Nat} (d:s<l.length):fO l s<2^bG l s:=by
 have:=BM h d;have:=PE h.2.2 z (jG h d).2.1;omega
theorem aDq (l:List Int) (n k:Nat):(fC l n+bU l n)*2^(k+1)<=fC l (n+k+1):=by
 induction k with
 |zero=>show _<=2*(fC l n+bU l n);rw[oG];exact aA _
 |succ k d=>
  show _<=2*(fC l (n+(k+1))+_);rw[nQ,<-vH];have e:n+(k+1)=n+k+1:=by omega
  rw[e];omega
def lR (l:List Int) (n m:Nat):List Nat:=(dG m).filter (fun s=>l.getD s 0==(n:Int))
theorem II (l:List Int) (n m:Nat):lR l n (m+1)=lR l n m++if l.getD m 0==(n:Int) then[m] else[]:=by
 unfold lR;rw[List.range_succ,List.filter_append]
 congr 1
 rw[List.filter_cons,List.filter_nil]
theorem BN {l:List Int} {m:Nat} (d:m<l.length) (n:Nat):bU (l.take (m+1)) n=bU (l.take m) n+if l.getD m 0==(n:Int) then 1 else 0:=by
 unfold bU;rw[cQ,NN,aN d,aV,aN d];simp
theorem BO (l:List Int) (n:Nat):∀m,m<=l.length->(lR l n m).length=bU (l.take m) n:=by
 intro m
 induction m with
 |zero=>intro _;rfl
 |succ m d=>
  intro z;rw[II,aL,d (by omega),BN (by omega)];split<;>rfl
theorem PF (l:List Int) (n:Nat):∀m,m<=l.length->∀k s,(lR l n m)[k]? =some s->s<m/\l.getD s 0=(n:Int)/\bU (l.take s) n=k:=by
 intro m
 induction m with
 |zero=>intro _ k s h;simp[lR] at h
 |succ m d=>
  intro G k s h;rw[II] at h
  by_cases z:k<(lR l n m).length
  ·rw[gS z] at h;obtain⟨H,A,E⟩:=d (by omega) k s h;exact⟨by omega,A,E⟩
  ·rw[jY (by omega)] at h;split at h
   ·next e=>
    have F:k-(lR l n m).length=0:=by
     rcases fJ (k-(lR l n m).length) with q|q
     ·exact q
     ·rw[dL (by simp;omega)] at h;simp at h
    rw[F] at h;simp at h;subst h;refine⟨by omega,by simpa using e,?_⟩;rw[<-BO l n m (by omega)];omega
   ·simp at h
def seg (s:List UInt8) (a n:Nat):List Bool:=((kW s).drop a).take n
theorem vR {s:List UInt8} {a n:Nat} (h:a+n<=8*s.length):(seg s a n).length=n:=by
 unfold seg;rw[aX,cI,xZ];omega
theorem aDr (l m:List Bool):bY (l++m)=bY l*2^m.length+bY m:=by
 refine yA (P:=fun m=>bY (l++m)=bY l*2^m.length+bY m) (by simp[bY]) (fun m b d=>?_) m;rw[<-cF,rF,rF,d,aL,fK,nQ,<-vH];omega
theorem PG {s:List UInt8} {a n k:Nat}:seg s a (n+k)=seg s a n++seg s (a+n) k:=by
 unfold seg;rw[List.take_add,List.drop_drop]
theorem aDs {s:List UInt8} {a n k:Nat} (h:a+(n+k)<=8*s.length):bY (seg s a (n+k))/2^k=bY (seg s a n):=by
 rw[PG,aDr,vR (by omega)];have d:=qE (seg s (a+n) k);rw[vR (by omega)] at d;rw[oG,Nat.mul_add_div (xL (by decide)),Nat.div_eq_of_lt d,Nat.add_zero]
def gZ (l:List Int) (s:List UInt8) (a i:Nat):Prop:=a+bG l i<=8*s.length/\bY (seg s a (bG l i))=fO l i
instance (l:List Int) (s:List UInt8) (a i:Nat):Decidable (gZ l s a i):=inferInstanceAs (Decidable (_/\_))
theorem PH {l:List Int} (d:fY l) {s:List UInt8} {a i j:Nat} (hi:i<l.length) (A:j<l.length) (E:gZ l s a i) (z:gZ l s a j):¬bG l i<bG l j:=by
 intro I;obtain⟨k,F⟩:∃k,bG l j=bG l i+(k+1):=⟨bG l j-bG l i-1,by omega⟩;have J:=(BM d hi).2;have L:=(BM d A).1;have G:=aDq l (bG l i) k;have e:bG l i+k+1=bG l j:=by omega
 rw[e] at G;have H:=aDs (s:=s) (a:=a) (n:=bG l i) (k:=k+1) (by have:=z.1;omega);rw[<-F,z.2,E.2] at H;have:fC l (bG l i)+bU l (bG l i)<=fO l j/2^(k+1):=by
  rw[Nat.le_div_iff_mul_le (xL (by decide))];omega
 omega
theorem BP {l:List Int} {i j n:Nat} (d:i<j) (z:j<l.length) (hi:l[i]? =some (n:Int)):bU (l.take i) n<bU (l.take j) n:=by
 have hi2:(l.take j)[i]? =some (n:Int):=by rw[lW,if_pos d,hi]
 have h:=BK (l:=l.take j) (s:=i) (by rw[aX];omega) hi2;rwa[AG,gU (by omega)] at h
theorem aDt {l:List Int} (d:fY l) {s:List UInt8} {a i j:Nat} (hi:i<l.length) (z:j<l.length) (E:gZ l s a i) (F:gZ l s a j):i=j:=by
 have H:=PH d hi z E F;have I:=PH d z hi F E;have e:bG l i=bG l j:=by omega
 have G:=E.2;rw[e,F.2] at G;unfold fO at G;rw[e] at G;rcases pW i j with h|h|h
 ·have A:=(jG d hi).2.2;rw[e] at A;have:=BP h z A;omega
 ·exact h
 ·have A:=(jG d z).2.2;have:=BP h hi A;omega
def kF (l:List Int):Int:=l.foldl max 0
def bZ (l:List Int) (s:List UInt8) (at':Int):Int×Int×Int:=
 if bL l≠0 then(0,0,bL l)
 else if at'<0 then(0,0,1)
 else match (dG l.length).find? (fun i=>decide (gZ l s at'.toNat i)) with
  |some i=>((i:Int),at'+(bG l i:Int),0)
  |none=>if at'>8*(s.length:Int)-kF l then(0,0,2) else(0,0,3)
theorem uB {l:List Int} (d:bL l=0) {s:List UInt8} {a i:Nat} (hi:i<l.length) (h:gZ l s a i):bZ l s (a:Int)=((i:Int),(a:Int)+(bG l i:Int),0):=by
 unfold bZ;rw[if_neg (fun k=>k d),if_neg (by omega),eG];have e:(dG l.length).find? (fun i=>decide (gZ l s a i))=some i:=by
  cases q:(dG l.length).find? (fun i=>decide (gZ l s a i)) with
  |none=>
   have:=List.find?_eq_none.1 q i (jF.2 hi);simp at this;exact absurd h this
  |some j=>
   have z:=List.find?_some q;have A:=jF.1 (List.mem_of_find?_eq_some q);rw[aDt (eH d).1 hi A h (by simpa using z)]
 rw[e]
theorem uD {l:List Int} (d:bL l=0) {s:List UInt8} {a:Nat} (h:∀i,i<l.length->¬gZ l s a i):bZ l s (a:Int)=if(a:Int)>8*(s.length:Int)-kF l then(0,0,2) else(0,0,3):=by
 unfold bZ;rw[if_neg (fun k=>k d),if_neg (by omega),eG];have e:(dG l.length).find? (fun i=>decide (gZ l s a i))=none:=by
  rw[List.find?_eq_none];intro i hi
  simpa using h i (jF.1 hi)
 rw[e]
end
section
open Go.RowKit
theorem bV {a b c:World} (h:Below a.heap.size a b) (k:Below b.heap.size b c):Below a.heap.size a c:=h.trans (k.mono h.size)
theorem bD {a b:World} (h:Below a.heap.size a b) (o:Obj):Below a.heap.size a (b.alloc o):=h.alloc h.size o
def gA (c n:Int):Int:=(if c<0 then-(c+1) else c)%n
theorem vU (c n:Int) (h:1<=n):0<=gA c n/\gA c n<n:=⟨Int.emod_nonneg _ (by omega),Int.emod_lt_of_pos _ (by omega)⟩
theorem yI (n:Nat) (k:Int) (d:0<=k):∃m:Nat,(if k<(n:Int) then k else(n:Int))=(m:Int)/\(m:Int)<=k/\m<=n:=by
 by_cases h:k<(n:Int)
 ·obtain⟨m,rfl⟩:=Int.eq_ofNat_of_zero_le d;exact⟨m,by rw[if_pos h],lJ _,by omega⟩
 ·exact⟨n,by rw[if_neg h],by omega,aA _⟩
end
section
def iV (f:Nat->Int):Nat->Nat
 |0=>0
 |k+1=>if f k<f (iV f k) then k else iV f k
theorem yN (f:Nat->Int):∀k,0<k->iV f k<k/\(∀j,j<k->f (iV f k)<=f j)/\∀j,j<iV f k->f (iV f k)<f j
 |0,h=>by omega
 |1,_=>by
  have e:iV f 1=0:=by unfold iV;split<;>rfl
  rw[e];refine⟨by omega,fun j d=>?_,fun j d=>by omega⟩;rw[show j=0 by omega];exact lJ _
 |k+2,_=>by
  obtain⟨F,z,E⟩:=yN f (k+1) (by omega);have e:iV f (k+2)=if f (k+1)<f (iV f (k+1)) then k+1 else iV f (k+1):=rfl;rw[e]
  by_cases h:f (k+1)<f (iV f (k+1))
  ·rw[if_pos h];refine⟨by omega,fun j d=>?_,fun j d=>?_⟩
   ·by_cases A:j=k+1
    ·rw[A];exact lJ _
    ·have:=z j (by omega);omega
   ·have:=z j (by omega);omega
  ·rw[if_neg h];refine⟨by omega,fun j d=>?_,E⟩
   by_cases A:j=k+1
   ·rw[A];omega
   ·exact z j (by omega)
inductive HT where
 |leaf (n:Nat)
 |node (n:Nat) (l r:HT)
def HT.root:HT->Nat
 |.leaf n=>n
 |.node n _ _=>n
def HT.leaves:HT->List Nat
 |.leaf n=>[n]
 |.node _ l r=>l.leaves++r.leaves
def HT.nums:HT->List Nat
 |.leaf n=>[n]
 |.node n l r=>n::(l.nums++r.nums)
def HT.high:HT->Nat
 |.leaf _=>0
 |.node _ l r=>max l.high r.high+1
def HT.deep:Nat->HT->List (Nat×Nat)
 |d,.leaf n=>[(n,d)]
 |d,.node _ l r=>l.deep (d+1)++r.deep (d+1)
theorem HT.leaves_sub:∀(t:HT),∀x∈t.leaves,x∈t.nums
 |.leaf _,x,h=>h
 |.node _ l r,x,h=>by
  unfold HT.leaves at h;unfold HT.nums;rcases cU.1 h with h|h
  ·exact jD _ (cU.2 (.inl (HT.leaves_sub l x h)))
  ·exact jD _ (cU.2 (.inr (HT.leaves_sub r x h)))
theorem HT.root_mem:∀t:HT,t.root∈t.nums
 |.leaf _=>dC.2 rfl
 |.node _ _ _=>lY ..
theorem HT.leaves_nodup:∀t:HT,t.nums.Nodup->t.leaves.Nodup
 |.leaf _,h=>h
 |.node _ l r,h=>by
  unfold HT.nums at h;obtain⟨_,h⟩:=NX.1 h;obtain⟨d,z,A⟩:=vM.1 h;unfold HT.leaves;exact vM.2 ⟨HT.leaves_nodup l d,HT.leaves_nodup r z,fun a E b F=>A a (HT.leaves_sub l a E) b (HT.leaves_sub r b F)⟩
theorem HT.deep_map:∀(t:HT) (d:Nat),(t.deep d).map (·.1)=t.leaves
 |.leaf _,_=>rfl
 |.node _ l r,d=>by unfold HT.deep HT.leaves;rw[fI,HT.deep_map l,HT.deep_map r]
theorem HT.deep_add:∀(t:HT) (d e:Nat),t.deep (d+e)=(t.deep d).map (fun p=>(p.1,p.2+e))
 |.leaf _,_,_=>rfl
 |.node _ l r,d,e=>by
  unfold HT.deep;rw[fI,show d+e+1=d+1+e by omega,HT.deep_add l,HT.deep_add r]
theorem HT.deep_bd:∀(t:HT) (d:Nat),∀p∈t.deep d,d<=p.2/\p.2<=d+t.high
 |.leaf _,d,p,h=>by
  obtain rfl:=dC.1 h;exact⟨aA _,Nat.le_add_right _ _⟩
 |.node _ l r,d,p,h=>by
  unfold HT.deep at h;unfold HT.high;rcases cU.1 h with h|h
  ·have:=HT.deep_bd l _ p h;omega
  ·have:=HT.deep_bd r _ p h;omega
abbrev bQ:=List (Int×HT)
def bQ.least (r:bQ):Nat:=iV (fun i=>(r.getD i (0,.leaf 0)).1) r.length
def bM (r:bQ):(Int×HT)×bQ:=(r.getD (bQ.least r) (0,.leaf 0),r.eraseIdx (bQ.least r))
def nH (n:Nat) (r:bQ):bQ:=(bM (bM r).2).2++[((bM r).1.1+(bM (bM r).2).1.1,.node n (bM r).1.2 (bM (bM r).2).1.2)]
def bP (ws:List Int):Nat->bQ
 |0=>ws.zipIdx.map (fun p=>(p.1,.leaf p.2))
 |t+1=>nH (ws.length+t) (bP ws t)
theorem uO (r:bQ) (h:r≠[]):(bM r).1∈r/\(bM r).2.length+1=r.length/\((bM r).1::(bM r).2).Perm r/\(∀x∈r,(bM r).1.1<=x.1):=by
 have A:0<r.length:=kV.2 h;obtain⟨E,F,I⟩:=yN (fun i=>(r.getD i (0,.leaf 0)).1) r.length A;have hi:bQ.least r<r.length:=E;have d:(bM r).1=r[bQ.least r]:=by unfold bM;rw[aV,aN hi];rfl
 refine⟨by rw[d];exact gT hi,?_,?_,fun x G=>?_⟩
 ·show(r.eraseIdx (bQ.least r)).length+1=_;rw[List.length_eraseIdx,if_pos hi];omega
 ·rw[d];show(r[bQ.least r]::r.eraseIdx (bQ.least r)).Perm r;rw[List.eraseIdx_eq_take_drop_succ];have:r=r.take (bQ.least r)++r[bQ.least r]::r.drop (bQ.least r+1):=by rw[NM,jE]
  conv=>rhs;rw[this]
  exact aCf.symm
 ·obtain⟨j,z,rfl⟩:=qA.1 G;have:=F j z;rw[d];simp only[aV] at this;rw[aN z] at this;have H:r[iV (fun i=>(r[i]?.getD (0,.leaf 0)).1) r.length]? =some r[bQ.least r]:=by
   rw[<-aN hi];unfold bQ.least;simp only[aV]
  rw[H] at this;exact this
theorem aGd (n:Nat) (r:bQ) (h:2<=r.length):(nH n r).length+1=r.length:=by
 have d:=(uO r (by intro e;rw[e] at h;simp at h)).2.1;have z:=(uO (bM r).2 (by intro e;rw[e] at d;simp at d;omega)).2.1;unfold nH;rw[aL,fK];omega
theorem pR (ws:List Int):∀t,t<ws.length->(bP ws t).length+t=ws.length:=by
 intro t
 induction t with
 |zero=>intro _;unfold bP;simp
 |succ t d=>
  intro h;have:=d (by omega);have:=aGd (ws.length+t) (bP ws t) (by omega);show(nH _ _).length+_=_;omega
structure jT (k n:Nat) (r:bQ):Prop where
 nodup:(r.flatMap (fun p=>p.2.nums)).Nodup
 lt:∀p∈r,∀x∈p.2.nums,x<n
 leaves:∀j,j<k->∃p∈r,j∈p.2.leaves
 sorted:r.Pairwise (fun p q=>p.2.root<q.2.root)
theorem RM {α β:Type} {f:α->List β} {r s:List α} (h:r.Perm s):(r.flatMap f).Perm (s.flatMap f):=by
 induction h with
 |nil=>exact xP _
 |cons x _ d=>simp only[sH];exact d.append_left _
 |swap x y l=>simp only[sH,<-cF];exact NR.append_right _
 |trans _ _ z A=>exact z.trans A
theorem qL (n:Nat) (r:bQ) (h:2<=r.length):∃a b s,(a::b::s).Perm r/\nH n r=s++[(a.1+b.1,.node n a.2 b.2)]/\(bM r).1=a/\(bM (bM r).2).1=b/\(bM (bM r).2).2=s/\(∀x∈s,b.1<=x.1)/\a.1<=b.1:=by
 have d:=uO r (by intro e;rw[e] at h;simp at h);have z:=uO (bM r).2 (by intro e;have:=d.2.1;rw[e] at this;simp at this;omega);refine⟨_,_,_,?_,rfl,rfl,rfl,rfl,fun x A=>?_,?_⟩
 ·exact(GK _ z.2.2.1).trans d.2.2.1
 ·exact z.2.2.2 x (z.2.2.1.mem_iff.1 (jD _ A))
 ·exact d.2.2.2 _ (d.2.2.1.mem_iff.1 (jD _ z.1))
theorem jT.step {k n:Nat} {r:bQ} (E:jT k n r) (h:2<=r.length):jT k (n+1) (nH n r):=by
 obtain⟨a,b,s,G,I,_,_,_,_,_⟩:=qL n r h;have J:((a::b::s).flatMap (fun p=>p.2.nums)).Nodup:=(RM G).nodup_iff.2 E.nodup;simp only[sH] at J;have L:a∈r:=G.mem_iff.1 (by simp);have M:b∈r:=G.mem_iff.1 (by simp);have H:∀x∈s,x∈r:=fun x d=>G.mem_iff.1 (by simp[d])
 rw[I];refine⟨?_,?_,?_,?_⟩
 ·have T:(n::((a.2.nums++b.2.nums)++s.flatMap (fun p=>p.2.nums))).Perm ((s++[(a.1+b.1,HT.node n a.2 b.2)]).flatMap (fun p=>p.2.nums)):=by
   rw[pZ,List.flatMap_singleton];show(n::((a.2.nums++b.2.nums)++_)).Perm (_++(n::(a.2.nums++b.2.nums)));rw[<-gE];exact NR
  rw[<-T.nodup_iff,NX];refine⟨fun z=>?_,by rw[cF];exact J⟩;have:∃p∈r,n∈p.2.nums:=by
   rcases cU.1 z with z|z
   ·rcases cU.1 z with z|z
    ·exact⟨a,L,z⟩
    ·exact⟨b,M,z⟩
   ·obtain⟨p,F,A⟩:=NW.1 z;exact⟨p,H p F,A⟩
  obtain⟨p,F,A⟩:=this;have:=E.lt p F n A;omega
 ·intro p A x d;rcases cU.1 A with q|q
  ·have:=E.lt p (H p q) x d;omega
  ·obtain rfl:=dC.1 q;rcases kD.1 d with rfl|d
   ·omega
   ·rcases cU.1 d with d|d
    ·have:=E.lt a L x d;omega
    ·have:=E.lt b M x d;omega
 ·intro j U;obtain⟨p,F,A⟩:=E.leaves j U;have:=G.mem_iff.2 F;simp only[kD] at this;rcases this with rfl|rfl|q
  ·exact⟨_,cU.2 (.inr (dC.2 rfl)),cU.2 (.inl A)⟩
  ·exact⟨_,cU.2 (.inr (dC.2 rfl)),cU.2 (.inr A)⟩
  ·exact⟨p,cU.2 (.inl q),A⟩
 ·have V:s.Sublist r:=by
   obtain⟨_,_,_,Z⟩:=qL n r h;have e:s=(r.eraseIdx (bQ.least r)).eraseIdx (bQ.least (r.eraseIdx (bQ.least r))):=by
    have:=I;unfold nH at this;have O:=congrArg (fun l=>l.take (l.length-1)) this;simp only[aL,fK,jZ,vN] at O;exact O.symm
   rw[e];exact(NY ..).trans (NY ..)
  rw[List.pairwise_append];refine⟨E.sorted.sublist V,List.pairwise_singleton _ _,fun p F q Y=>?_⟩;obtain rfl:=dC.1 Y;exact E.lt p (H p F) _ (HT.root_mem _)
def jJ (z:List Int) (A:List Nat):List Int:=A.foldl (fun d j=>d.set j (d.getD j 0+1)) z
theorem CS:∀(z:List Nat) (d:List Int),(jJ d z).length=d.length
 |[],_=>rfl
 |j::z,d=>by
  show(jJ (d.set j (d.getD j 0+1)) z).length=_;rw[CS z,mW]
theorem vZ:∀(d:List Nat) (z:List Int),d.Nodup->∀j,j<z.length->(jJ z d).getD j 0=z.getD j 0+if j∈d then 1 else 0
 |[],z,_,j,_=>by simp[jJ]
 |i::d,z,h,j,E=>by
  obtain⟨F,G⟩:=NX.1 h;show(jJ (z.set i (z.getD i 0+1)) d).getD j 0=_;rw[vZ d _ G j (by rw[mW];exact E)]
  by_cases e:j=i
  ·subst e;rw[if_neg F,if_pos (lY ..),aV,FS E];simp
  ·rw[aV,qU (fun q=>e q.symm),<-aV]
   congr 1
   by_cases A:j∈d
   ·rw[if_pos A,if_pos (jD _ A)]
   ·rw[if_neg A,if_neg (fun q=>by rcases kD.1 q with q|q;exact e q;exact A q)]
def qM (k:Nat) (r:bQ) (d:List Int):Prop:=d.length=k/\∀p∈r,∀q∈p.2.deep 0,q.1<k/\d.getD q.1 0=(q.2:Int)
theorem HT.deep_leaf (t:HT) (d:Nat):∀q∈t.deep d,q.1∈t.leaves:=fun q z=>by
 rw[<-HT.deep_map t d];exact dU.2 ⟨q,z,rfl⟩
theorem JM {r:bQ} {a b:Int×HT} {s:bQ} (H:(r.flatMap (fun p=>p.2.nums)).Nodup) (I:(a::b::s).Perm r):
  (a.2.leaves++b.2.leaves).Nodup/\(∀p∈s,∀x∈p.2.nums,x ∉ a.2.nums/\x ∉ b.2.nums)/\(∀x∈a.2.nums,x ∉ b.2.nums)/\a.2.nums.Nodup/\b.2.nums.Nodup/\∀p∈s,p.2.nums.Nodup:=by
 have h:((a::b::s).flatMap (fun p=>p.2.nums)).Nodup:=(RM I).nodup_iff.2 H;simp only[sH] at h;obtain⟨E,J,A⟩:=vM.1 h;obtain⟨F,G,L⟩:=vM.1 J;have M:∀p∈s,p.2.nums.Nodup:=fun p z=>by
  obtain⟨i,hi,rfl⟩:=qA.1 z;have e:s=s.take i++s[i]::s.drop (i+1):=by rw[NM,jE]
  rw[e,pZ,sH] at G;exact(vM.1 (vM.1 G).2.1).1
 refine⟨?_,fun p z x d=>⟨fun q=>A x q x (cU.2 (.inr (NW.2 ⟨p,z,d⟩))) rfl,fun q=>L x q x (NW.2 ⟨p,z,d⟩) rfl⟩,fun x d q=>A x d x (cU.2 (.inl q)) rfl,E,F,M⟩;exact vM.2 ⟨HT.leaves_nodup _ E,HT.leaves_nodup _ F,fun x d y O=>A x (HT.leaves_sub _ x d) y (cU.2 (.inl (HT.leaves_sub _ y O)))⟩
theorem qM.step {k n:Nat} {r:bQ} (U:jT k n r) (h:2<=r.length) {H:List Int} (A:qM k r H):
  qM k (nH n r) (jJ H ((bM r).1.2.leaves++(bM (bM r).2).1.2.leaves)):=by
 obtain⟨a,b,s,I,V,Y,Z,_,_,_⟩:=qL n r h;obtain⟨J,M,_,_,_,_⟩:=JM U.nodup I;have ha:a∈r:=I.mem_iff.1 (by simp);have hb:b∈r:=I.mem_iff.1 (by simp);rw[Y,Z,V];refine⟨by rw[CS];exact A.1,fun p a0 q L=>?_⟩;rcases cU.1 a0 with F|F
 ·obtain⟨z,G⟩:=A.2 p (I.mem_iff.1 (by simp[F])) q L;refine⟨z,?_⟩;rw[vZ _ _ J _ (by rw[A.1];exact z),if_neg,Int.add_zero,G];intro d;have O:=HT.leaves_sub _ _ (HT.deep_leaf _ _ q L);rcases cU.1 d with d|d
  ·exact(M p F _ O).1 (HT.leaves_sub _ _ d)
  ·exact(M p F _ O).2 (HT.leaves_sub _ _ d)
 ·obtain rfl:=dC.1 F;have T:q∈a.2.deep (0+1)++b.2.deep (0+1):=L;rw[HT.deep_add,HT.deep_add] at T;rcases cU.1 T with d|d
  ·obtain⟨E,hq0,rfl⟩:=dU.1 d;obtain⟨z,G⟩:=A.2 a ha E hq0;refine⟨z,?_⟩;show(jJ H (a.2.leaves++b.2.leaves)).getD E.1 0=_;rw[vZ _ _ J _ (by rw[A.1];exact z),if_pos (cU.2 (.inl (HT.deep_leaf _ _ E hq0))),G];rfl
  ·obtain⟨E,hq0,rfl⟩:=dU.1 d;obtain⟨z,G⟩:=A.2 b hb E hq0;refine⟨z,?_⟩;show(jJ H (a.2.leaves++b.2.leaves)).getD E.1 0=_;rw[vZ _ _ J _ (by rw[A.1];exact z),if_pos (cU.2 (.inr (HT.deep_leaf _ _ E hq0))),G];rfl
def HT.upOk (d:Nat->Int):HT->Prop
 |.leaf _=>True
 |.node n l r=>d l.root=(n:Int)/\d r.root=(n:Int)/\l.upOk d/\r.upOk d
def HT.inc:HT->Prop
 |.leaf _=>True
 |.node n l r=>(∀x∈l.nums,x<n)/\(∀x∈r.nums,x<n)/\l.inc/\r.inc
theorem HT.upOk_congr {f g:Nat->Int}:∀t:HT,(∀x∈t.nums,x≠t.root->f x=g x)->t.nums.Nodup->t.upOk f->t.upOk g
 |.leaf _,_,_,_=>trivial
 |.node n l r,h,z,⟨G,H,I,J⟩=>by
  unfold HT.nums at z h;obtain⟨A,L⟩:=NX.1 z;obtain⟨M,O,T⟩:=vM.1 L;have E:∀x∈l.nums,f x=g x:=fun x d=>h x (jD _ (cU.2 (.inl d))) (fun e=>A (by rw[<-show x=n from e];exact cU.2 (.inl d)))
  have F:∀x∈r.nums,f x=g x:=fun x d=>h x (jD _ (cU.2 (.inr d))) (fun e=>A (by rw[<-show x=n from e];exact cU.2 (.inr d)))
  exact⟨by rw[<-E _ (HT.root_mem l)];exact G,by rw[<-F _ (HT.root_mem r)];exact H,HT.upOk_congr l (fun x d _=>E x d) M I,HT.upOk_congr r (fun x d _=>F x d) O J⟩
def HUp (r:bQ) (d:Nat->Int):Prop:=∀p∈r,p.2.upOk d/\p.2.inc
theorem HUp.step {k n:Nat} {r:bQ} (E:jT k n r) (h:2<=r.length) {I:Nat->Int} (F:HUp r I):
  HUp (nH n r) (fun x=>if x=(bM (bM r).2).1.2.root then(n:Int) else if x=(bM r).1.2.root then(n:Int) else I x):=by
 obtain⟨a,b,s,A,O,T,U,_,_,_⟩:=qL n r h;obtain⟨_,J,G,V,Y,Z⟩:=JM E.nodup A;have L:a∈r:=A.mem_iff.1 (by simp);have M:b∈r:=A.mem_iff.1 (by simp);rw[T,U,O];have a0:a.2.root≠b.2.root:=fun e=>G _ (HT.root_mem _) (by rw[e];exact HT.root_mem _)
 intro p a3;rcases cU.1 a3 with z|z
 ·obtain⟨k1,k2⟩:=F p (A.mem_iff.1 (by simp[z]));refine⟨HT.upOk_congr _ (fun x d _=>?_) (Z p z) k1,k2⟩;rw[if_neg (fun e=>(J p z x d).2 (by rw[e];exact HT.root_mem _)),if_neg (fun e=>(J p z x d).1 (by rw[e];exact HT.root_mem _))]
 ·obtain rfl:=dC.1 z;obtain⟨a1,a2⟩:=F a L;obtain⟨b1,b2⟩:=F b M;refine⟨⟨?_,?_,?_,?_⟩,?_,?_,a2,b2⟩
  ·show(if a.2.root=_ then _ else _)=_;rw[if_neg a0,if_pos rfl]
  ·show(if b.2.root=_ then _ else _)=_;rw[if_pos rfl]
  ·refine HT.upOk_congr _ (fun x d H=>?_) V a1;rw[if_neg (fun e=>G x d (by rw[e];exact HT.root_mem _)),if_neg H]
  ·refine HT.upOk_congr _ (fun x d H=>?_) Y b1;rw[if_neg H,if_neg (fun e=>G _ (HT.root_mem _) (by rw[<-e];exact d))]
  ·exact fun x d=>E.lt a L x d
  ·exact fun x d=>E.lt b M x d
theorem HT.down {G D:Nat->Int}:∀(t:HT) (A:Nat),t.root<=A->t.upOk G->t.inc->(∀x,x<A->D x=D (G x).toNat+1)->∀d:Nat,D t.root=(d:Int)->∀q∈t.deep d,D q.1=(q.2:Int)
 |.leaf n,_,_,_,_,_,d,F,q,z=>by
  obtain rfl:=dC.1 z;exact F
 |.node n l r,A,I,⟨J,L,M,O⟩,⟨T,U,V,Y⟩,E,d,F,q,z=>by
  have hl:=T _ (HT.root_mem l);have hr:=U _ (HT.root_mem r);have a0:n<=A:=I;have H:D n=(d:Int):=F;have Z:D l.root=((d+1:Nat):Int):=by rw[E _ (by omega),J,eG,H];omega
  have e2:D r.root=((d+1:Nat):Int):=by rw[E _ (by omega),L,eG,H];omega
  rcases cU.1 z with z|z
  ·exact HT.down l A (by omega) M V E (d+1) Z q z
  ·exact HT.down r A (by omega) O Y E (d+1) e2 q z
theorem jT.start (ws:List Int):jT ws.length ws.length (bP ws 0):=by
 have e:(bP ws 0).flatMap (fun p=>p.2.nums)=dG ws.length:=by
  unfold bP;rw[List.flatMap_map];have:(fun a:Int×Nat=>(HT.leaf a.2).nums)=fun a=>[a.2]:=rfl
  simp only[this];rw[<-List.map_eq_flatMap];apply jA;intro i
  by_cases h:i<ws.length<;>simp[h]
 have E:∀p∈bP ws 0,∃j,j<ws.length/\p=(ws.getD j 0,.leaf j):=fun p z=>by
  unfold bP at z;obtain⟨q,F,rfl⟩:=dU.1 z;obtain⟨i,hi,A⟩:=qA.1 F;simp at hi A;refine⟨i,hi,?_⟩;rw[<-A];simp[hi]
 refine⟨by rw[e];exact List.nodup_range,fun p z x G=>?_,fun j d=>?_,?_⟩
 ·obtain⟨j,d,rfl⟩:=E p z;obtain rfl:=dC.1 G;exact d
 ·refine⟨(ws.getD j 0,.leaf j),?_,dC.2 rfl⟩;unfold bP;refine dU.2 ⟨(ws.getD j 0,j),qA.2 ⟨j,by simpa using d,by simp[d]⟩,rfl⟩
 ·unfold bP;rw[xO];intro i j hi d H;simp at hi d ⊢;exact H
theorem bQ.start_mem {ws:List Int} {p:Int×HT} (d:p∈bP ws 0):∃j,j<ws.length/\p=(ws.getD j 0,.leaf j):=by
 unfold bP at d;obtain⟨q,A,rfl⟩:=dU.1 d;obtain⟨i,hi,z⟩:=qA.1 A;simp at hi z;refine⟨i,hi,?_⟩;rw[<-z];simp[hi]
theorem jT.all (ws:List Int):∀t,t<ws.length->jT ws.length (ws.length+t) (bP ws t)
 |0,_=>jT.start ws
 |t+1,h=>(jT.all ws t (by omega)).step (by have:=pR ws t (by omega);omega)
def gO (ws:List Int):Nat->List Int
 |0=>bB ws.length 0
 |t+1=>jJ (gO ws t) ((bM (bP ws t)).1.2.leaves++(bM (bM (bP ws t)).2).1.2.leaves)
theorem rN (ws:List Int):∀t,(gO ws t).length=ws.length
 |0=>by simp[gO]
 |t+1=>by unfold gO;rw[CS,rN ws t]
theorem qM.all (ws:List Int):∀t,t<ws.length->qM ws.length (bP ws t) (gO ws t)
 |0,_=>⟨by simp[gO],fun p z q A=>by
   obtain⟨j,d,rfl⟩:=bQ.start_mem z;obtain rfl:=dC.1 A;exact⟨d,by simp[gO,d]⟩⟩
 |t+1,h=>(qM.all ws t (by omega)).step (jT.all ws t (by omega)) (by have:=pR ws t (by omega);omega)
def iJ (ws:List Int):Nat->Nat->Int
 |0=>fun _=>0
 |t+1=>fun x=>if x=(bM (bM (bP ws t)).2).1.2.root then((ws.length+t:Nat):Int) else if x=(bM (bP ws t)).1.2.root then((ws.length+t:Nat):Int) else iJ ws t x
theorem HUp.all (ws:List Int):∀t,t<ws.length->HUp (bP ws t) (iJ ws t)
 |0,_=>fun p d=>by
   obtain⟨j,z,rfl⟩:=bQ.start_mem d;exact⟨trivial,trivial⟩
 |t+1,h=>(HUp.all ws t (by omega)).step (jT.all ws t (by omega)) (by have:=pR ws t (by omega);omega)
def kL (ws:List Int):List Int:=gO ws (ws.length-1)
theorem CT (ws:List Int) (h:2<=ws.length):∃p,bP ws (ws.length-1)=[p]/\p.2.root=2*ws.length-2:=by
 obtain⟨t,z⟩:∃t,ws.length=t+2:=⟨ws.length-2,by omega⟩;have F:=pR ws (ws.length-1) (by omega);obtain⟨p,d⟩:=List.length_eq_one_iff.1 (show(bP ws (ws.length-1)).length=1 by omega);refine⟨p,d,?_⟩;rw[z,show t+2-1=t+1 by omega] at d;have A:bP ws (t+1)=nH (ws.length+t) (bP ws t):=rfl;obtain⟨a,b,s,_,E,_⟩:=qL (ws.length+t) (bP ws t) (by have:=pR ws t (by omega);omega);rw[A,E] at d;have:s=[]:=by
  have:=congrArg tM d;simp at this;exact this
 rw[this] at d;simp at d;rw[<-d];show ws.length+t=_;omega
theorem aGe (ws:List Int) (h:2<=ws.length) {D:Nat->Int} (H:D (2*ws.length-2)=0) (I:∀x,x<2*ws.length-2->D x=D (iJ ws (ws.length-1) x).toNat+1):∀j,j<ws.length->D j=(kL ws).getD j 0:=by
 obtain⟨p,J,L⟩:=CT ws h;have z:=jT.all ws (ws.length-1) (by omega);have A:=qM.all ws (ws.length-1) (by omega);have E:=HUp.all ws (ws.length-1) (by omega);rw[J] at z A E;intro j M;obtain⟨d,O,F⟩:=z.leaves j M;obtain rfl:=dC.1 O;obtain⟨T,U⟩:=E d (dC.2 rfl);rw[<-HT.deep_map d.2 0] at F;obtain⟨q,G,rfl⟩:=dU.1 F;have V:=HT.down d.2 (2*ws.length-2) (by omega) T U I 0 (by rw[L];exact H) q G;have Y:=(A.2 d (dC.2 rfl) q G).2;rw[V];exact Y.symm
def HT.wt (f:Nat->Int):HT->Int
 |.leaf n=>f n
 |.node _ l r=>l.wt f+r.wt f
def HT.kids (f:Nat->Int) (x:Int):HT->Prop
 |.leaf _=>True
 |.node _ l r=>l.wt f<=x/\r.wt f<=x
def HT.even (f:Nat->Int):HT->Prop
 |.leaf n=>1<=f n
 |.node _ l r=>l.even f/\r.even f/\l.kids f (r.wt f)/\r.kids f (l.wt f)
def kM:Nat->Int
 |0=>1
 |1=>2
 |n+2=>kM (n+1)+kM n
theorem JN:∀n,1<=kM n
 |0=>by decide
 |1=>by decide
 |n+2=>by have:=JN (n+1);have:=JN n;unfold kM;omega
theorem aGf (n:Nat):kM n<=kM (n+1):=by
 cases n with
 |zero=>decide
 |succ n=>have:=JN n;show _<=kM (n+1)+kM n;omega
theorem RN {m n:Nat} (h:m<=n):kM m<=kM n:=by
 induction h with
 |refl=>exact lJ _
 |step _ d=>exact Int.le_trans d (aGf _)
theorem HT.wt_pos {f:Nat->Int}:∀t:HT,t.even f->1<=t.wt f
 |.leaf _,h=>h
 |.node _ l r,h=>by have:=HT.wt_pos l h.1;have:=HT.wt_pos r h.2.1;unfold HT.wt;omega
theorem HT.wt_high2 {f:Nat->Int}:∀t:HT,t.even f->kM t.high<=t.wt f/\∀x,1<=x->t.kids f x->kM (t.high+1)<=t.wt f+x
 |.leaf n,h=>⟨h,fun x E _=>by
   have F:1<=f n:=h;show(2:Int)<=f n+x;omega⟩
 |.node n l r,h=>by
  obtain⟨G,z⟩:=HT.wt_high2 l h.1;obtain⟨H,A⟩:=HT.wt_high2 r h.2.1;have I:=z _ (HT.wt_pos r h.2.1) h.2.2.1;have J:=A _ (HT.wt_pos l h.1) h.2.2.2;have first:kM (max l.high r.high+1)<=l.wt f+r.wt f:=by
   rcases Nat.le_total l.high r.high with q|q
   ·rw[Nat.max_eq_right q];omega
   ·rw[Nat.max_eq_left q];omega
  refine⟨first,fun x _ d=>?_⟩;show kM (max l.high r.high+1)+kM (max l.high r.high)<=l.wt f+r.wt f+x;have L:l.wt f<=x:=d.1;have M:r.wt f<=x:=d.2;have:kM (max l.high r.high)<=x:=by
   rcases Nat.le_total l.high r.high with q|q
   ·rw[Nat.max_eq_right q];omega
   ·rw[Nat.max_eq_left q];omega
  omega
theorem HT.wt_high {f:Nat->Int} (t:HT) (h:t.even f):kM t.high<=t.wt f:=(HT.wt_high2 t h).1
theorem aGg {l m:List Int} (h:l.Perm m):l.sum=m.sum:=by
 induction h with
 |nil=>rfl
 |cons x _ d=>simp only[pV];omega
 |swap x y l=>simp only[pV];omega
 |trans _ _ z A=>omega
structure rO (f:Nat->Int) (r:bQ):Prop where
 wt:∀p∈r,p.1=p.2.wt f
 even:∀p∈r,p.2.even f
 kids:∀p∈r,∀q∈r,p.2.kids f (q.2.wt f)
theorem HT.kids_le {f:Nat->Int} {x y:Int} (h:x<=y):∀t:HT,t.kids f x->t.kids f y
 |.leaf _,_=>trivial
 |.node _ _ _,⟨d,z⟩=>⟨by omega,by omega⟩
theorem rO.step {f:Nat->Int} {n:Nat} {r:bQ} (d:rO f r) (h:2<=r.length):rO f (nH n r)/\((nH n r).map (·.1)).sum=(r.map (·.1)).sum:=by
 obtain⟨a,b,s,G,L,V,Y,Z,M,a0⟩:=qL n r h;have z:a∈r:=G.mem_iff.1 (by simp);have A:b∈r:=G.mem_iff.1 (by simp);have E:∀x∈s,x∈r:=fun x O=>G.mem_iff.1 (by simp[O])
 have wa:=d.wt a z;have T:=d.wt b A;have pa:=HT.wt_pos _ (d.even a z);have pb:=HT.wt_pos _ (d.even b A);rw[L];refine⟨⟨fun p F=>?_,fun p F=>?_,fun p F q I=>?_⟩,?_⟩
 ·rcases cU.1 F with q|q
  ·exact d.wt p (E p q)
  ·obtain rfl:=dC.1 q;show a.1+b.1=a.2.wt f+b.2.wt f;omega
 ·rcases cU.1 F with q|q
  ·exact d.even p (E p q)
  ·obtain rfl:=dC.1 q;exact⟨d.even a z,d.even b A,d.kids a z b A,d.kids b A a z⟩
 ·have hq1:∀u∈r,u.2.kids f (q.2.wt f):=fun u J=>by
   rcases cU.1 I with k|k
   ·exact d.kids u J q (E q k)
   ·obtain rfl:=dC.1 k;exact HT.kids_le (show a.2.wt f<=a.2.wt f+b.2.wt f by omega) _ (d.kids u J a z)
  rcases cU.1 F with k|k
  ·exact hq1 p (E p k)
  ·obtain rfl:=dC.1 k;have U:b.2.wt f<=q.2.wt f:=by
    rcases cU.1 I with H|H
    ·have:=M q H;rw[<-T,<-d.wt q (E q H)];exact this
    ·obtain rfl:=dC.1 H;show _<=a.2.wt f+b.2.wt f;omega
   exact⟨by omega,U⟩
 ·have:(r.map (·.1)).sum=((a::b::s).map (·.1)).sum:=(aGg (G.map _)).symm;rw[this];simp only[fI,pG,List.map_nil,List.sum_append,pV,List.sum_nil];omega
theorem rO.all (ws:List Int) (A:∀x∈ws,1<=x):∀t,t<ws.length->rO (fun j=>ws.getD j 0) (bP ws t)/\((bP ws t).map (·.1)).sum=ws.sum
 |0,_=>by
  refine⟨⟨fun p d=>?_,fun p d=>?_,fun p d q _=>?_⟩,?_⟩
  ·obtain⟨j,z,rfl⟩:=bQ.start_mem d;rfl
  ·obtain⟨j,z,rfl⟩:=bQ.start_mem d;show 1<=ws.getD j 0;rw[aV,aN z];exact A _ (gT z)
  ·obtain⟨j,z,rfl⟩:=bQ.start_mem d;trivial
  ·congr 1
   unfold bP;rw[xJ];apply jA;intro i
   by_cases h:i<ws.length<;>simp[h]
 |t+1,h=>by
  obtain⟨E,F⟩:=rO.all ws A t (by omega);obtain⟨G,H⟩:=E.step (n:=ws.length+t) (by have:=pR ws t (by omega);omega);exact⟨G,by rw[<-F];exact H⟩
theorem aGh (ws:List Int) (h:2<=ws.length) (T:∀x∈ws,1<=x) (hs:ws.sum<28657):(kL ws).length=ws.length/\∀x∈kL ws,1<=x/\x<=20:=by
 refine⟨rN _ _,fun x U=>?_⟩;obtain⟨p,V,Y⟩:=CT ws h;have A:=jT.all ws (ws.length-1) (by omega);have G:=qM.all ws (ws.length-1) (by omega);obtain⟨E,H⟩:=rO.all ws T (ws.length-1) (by omega);rw[V] at A G E H;obtain⟨j,I,rfl⟩:=qA.1 U;have Z:j<ws.length:=by have:=rN ws (ws.length-1);unfold kL at I;omega
 obtain⟨d,a0,J⟩:=A.leaves j Z;obtain rfl:=dC.1 a0;rw[<-HT.deep_map d.2 0] at J;obtain⟨q,z,a1⟩:=dU.1 J;have L:=(G.2 d (dC.2 rfl) q z).2;rw[show q.1=j from a1] at L;have e3:(kL ws)[j]=(q.2:Int):=by
  rw[<-L,aV,show(gO ws (ws.length-1))[j]? =some (kL ws)[j] from aN I];rfl
 rw[e3];have hb:=HT.deep_bd d.2 0 q z;have hw:=HT.wt_high d.2 (E.even d (dC.2 rfl));have a4:=E.wt d (dC.2 rfl);have a5:d.1=ws.sum:=by simpa using H
 have hh:d.2.high<=20:=by
  rcases Nat.lt_or_ge 20 d.2.high with k|k
  ·have:=RN (show 21<=d.2.high from k);have e:kM 21=28657:=by decide
   omega
  ·exact k
 refine⟨?_,by omega⟩;rcases fJ q.2 with k|k
 ·exfalso
  cases F:d.2 with
  |leaf m=>
   have a6:m=2*ws.length-2:=by rw[<-Y,F];rfl
   obtain⟨p0,a2,M⟩:=A.leaves 0 (by omega);obtain⟨p2,a3,O⟩:=A.leaves 1 (by omega);obtain rfl:=dC.1 a2;obtain rfl:=dC.1 a3;rw[F] at M O;have:=dC.1 M;have:=dC.1 O;omega
  |node m l r=>
   rw[F] at z;rcases cU.1 z with z|z
   ·have:=HT.deep_bd l _ q z;omega
   ·have:=HT.deep_bd r _ q z;omega
 ·omega
theorem SN:∀(n:Nat) (l:List Nat),l.Nodup->(∀x∈l,x<n)->l.length<=n
 |0,l,_,h=>by
  cases l with
  |nil=>simp
  |cons x l=>have:=h x (lY ..);omega
 |n+1,l,d,h=>by
  have z:=SN n (l.erase n) (d.erase n) (fun x A=>by
   have F:=h x (List.mem_of_mem_erase A);have G:=(d.mem_erase_iff.1 A).1;omega)
  by_cases E:n∈l
  ·rw[List.length_erase_of_mem E] at z;omega
  ·rw[List.erase_of_not_mem E] at z;omega
theorem SO (ws:List Int) (t:Nat) (z:t<ws.length) {p:Int×HT} (A:p∈bP ws t):∀x∈p.2.leaves,x<ws.length:=fun x d=>by
 rw[<-HT.deep_map p.2 0] at d;obtain⟨q,E,rfl⟩:=dU.1 d;exact((qM.all ws t z).2 p A q E).1
def lG (ws:List Int) (t:Nat):List Nat:=(bM (bP ws t)).1.2.leaves++(bM (bM (bP ws t)).2).1.2.leaves
theorem KF (ws:List Int) (t:Nat) (J:t+1<ws.length):(lG ws t).Nodup/\(∀x∈lG ws t,x<ws.length)/\(lG ws t).length<=ws.length:=by
 have L:=pR ws t (by omega);obtain⟨a,b,s,z,M,F,G,_,_,_⟩:=qL (ws.length+t) (bP ws t) (by omega);obtain⟨A,_⟩:=JM (jT.all ws t (by omega)).nodup z;have H:a∈bP ws t:=z.mem_iff.1 (by simp);have I:b∈bP ws t:=z.mem_iff.1 (by simp);unfold lG;rw[F,G];have E:∀x∈a.2.leaves++b.2.leaves,x<ws.length:=fun x d=>by
  rcases cU.1 d with d|d
  ·exact SO ws t (by omega) H x d
  ·exact SO ws t (by omega) I x d
 exact⟨A,E,SN _ _ A E⟩
theorem SP (ws:List Int) (t:Nat):gO ws (t+1)=jJ (gO ws t) (lG ws t):=rfl
theorem SQ (ws:List Int):∀t,t<ws.length->∀j,j<ws.length->0<=(gO ws t).getD j 0/\(gO ws t).getD j 0<=(t:Int)
 |0,_,j,d=>by simp[gO,d]
 |t+1,z,j,d=>by
  have A:=SQ ws t (by omega) j d;have E:=rN ws t;rw[SP,vZ _ _ (KF ws t z).1 j (by omega)];split<;>omega
theorem aHn (d:List Int) (z:List Nat) (y:Nat):jJ d (z++[y])=(jJ d z).set y ((jJ d z).getD y 0+1):=by
 unfold jJ;rw[NK];rfl
theorem aHo (ws:List Int) (t:Nat) (F:t+1<ws.length) {j y:Nat} (A:(lG ws t)[j]? =some y):y<ws.length/\∃d:Int,(jJ (gO ws t) ((lG ws t).take j))[y]? =some d/\0<=d/\d<=1000+(ws.length:Int)/\
  jJ (gO ws t) ((lG ws t).take (j+1))=(jJ (gO ws t) ((lG ws t).take j)).set y (d+1):=by
 obtain⟨G,H,J⟩:=KF ws t F;have z:=H y (List.mem_of_getElem? A);have L:(jJ (gO ws t) ((lG ws t).take j)).length=ws.length:=by rw[CS,rN]
 have E:=vZ ((lG ws t).take j) (gO ws t) (G.sublist (List.take_sublist _ _)) y (by rw[rN];exact z);have M:=SQ ws t (by omega) y z;have I:(jJ (gO ws t) ((lG ws t).take j))[y]? =some ((jJ (gO ws t) ((lG ws t).take j)).getD y 0):=by
  rw[aV,aN (by omega)];rfl
 refine⟨z,_,I,?_,?_,?_⟩
 ·rw[E];split<;>omega
 ·rw[E];split<;>omega
 ·rw[cQ,A,Option.toList_some,aHn]
def rT (x:BitVec 32):BitVec 32:=if x.msb then(x<<<1)^^^79764919#32 else x<<<1
def rU (x:BitVec 32) (b:Bool):BitVec 32:=if x.msb != b then(x<<<1)^^^79764919#32 else x<<<1
def jL:Nat->BitVec 32->BitVec 32
 |0,x=>x
 |k+1,x=>rT (jL k x)
theorem TS (x y:BitVec 32):rT (x^^^y)=rT x^^^rT y:=by
 unfold rT;rw[BitVec.msb_xor,aTd]
 cases d:x.msb<;>cases z:y.msb<;>simp
 ·rw[tU]
 ·rw[tU,tU,BitVec.xor_comm (y<<<1)]
 ·rw[tU,<-tU (79764919#32),BitVec.xor_comm (79764919#32) (y<<<1),tU,BitVec.xor_self,BitVec.xor_zero]
theorem KI (k:Nat) (x y:BitVec 32):jL k (x^^^y)=jL k x^^^jL k y:=by
 induction k with
 |zero=>rfl
 |succ k d=>unfold jL;rw[d,TS]
def kN (i:Nat):BitVec 32:=jL 8 (qZ 32 i<<<24)
def nY (x:BitVec 32) (b:Nat):Nat->BitVec 32
 |0=>x
 |k+1=>rU (nY x b k) (b.testBit (7-k))
theorem aIo:∀b:Fin 256,∀k:Fin 8,rU (0#32) (b.val.testBit (7-k.val))^^^(qZ 32 b.val<<<(24+k.val+1))=rT (qZ 32 b.val<<<(24+k.val)):=by decide+kernel
theorem aIp (x:BitVec 32) (b:Bool):rU x b=rT x^^^rU (0#32) b:=by
 unfold rU rT
 cases d:x.msb<;>cases b<;>simp[tU]
theorem aIq (x:BitVec 32) (b:Nat) (d:b<256):∀k,k<=8->nY x b k^^^(qZ 32 b<<<(24+k))=jL k (x^^^(qZ 32 b<<<24)):=by
 intro k
 induction k with
 |zero=>intro _;rfl
 |succ k z=>
  intro A;have h:=z (by omega);unfold jL nY;rw[<-h,TS,aIp,tU]
  congr 1
  exact aIo ⟨b,d⟩ ⟨k,by omega⟩
theorem aIr:∀b:Fin 256,qZ 32 b.val<<<32=0#32:=by decide+kernel
theorem aIs (x:BitVec 32) (b:Nat) (d:b<256):nY x b 8=jL 8 (x^^^(qZ 32 b<<<24)):=by
 rw[<-aIq x b d 8 (aA _),show 24+8=32 from rfl,aIr ⟨b,d⟩,BitVec.xor_zero]
theorem aIt:∀k (x:BitVec 32),x.toNat*2^k<4294967296->(jL k x).toNat=x.toNat*2^k:=by
 intro k
 induction k with
 |zero=>intro x _;simp[jL]
 |succ k d=>
  intro x z;rw[nQ,<-vH] at z ⊢;have h:=d x (by omega);unfold jL rT;have A:(jL k x).msb=false:=by
   rw[BitVec.msb_eq_decide,h];exact decide_eq_false (by simp;omega)
  rw[A,if_neg (by decide),GP,h,GQ];rw[kU (by simp;omega)]
theorem aIu (x:BitVec 32):x=(x&&&0xffffff#32)^^^((x>>>24)<<<24):=by
 apply BitVec.eq_of_getLsbD_eq;intro i hi;simp only[BitVec.getLsbD_xor,BitVec.getLsbD_and,BitVec.getLsbD_shiftLeft,BitVec.getLsbD_ushiftRight]
 by_cases h:i<24
 ·have:(0xffffff#32).getLsbD i=true:=by
   rcases(show ∃j:Fin 24,j.val=i from⟨⟨i,h⟩,rfl⟩) with⟨j,rfl⟩;exact(by decide+kernel:∀j:Fin 24,(0xffffff#32).getLsbD j.val=true) j
  simp[h,this]
 ·have:(0xffffff#32).getLsbD i=false:=by
   rcases(show ∃j:Fin 8,j.val+24=i from⟨⟨i-24,by omega⟩,by simp;omega⟩) with⟨j,rfl⟩;exact(by decide+kernel:∀j:Fin 8,(0xffffff#32).getLsbD (j.val+24)=false) j
  rw[this];simp[h,hi,show 24+(i-24)=i by omega]
theorem aIv (c:BitVec 32) (b:Nat) (z:b<256):nY c b 8=(c<<<8)^^^kN ((c>>>24).toNat^^^b):=by
 rw[aIs c b z];have A:=aIu c;have E:jL 8 (c&&&0xffffff#32)=c<<<8:=by
  apply BitVec.eq_of_toNat_eq;have d:(c&&&0xffffff#32).toNat=c.toNat%16777216:=by
   rw[BitVec.toNat_and];exact Nat.and_two_pow_sub_one_eq_mod c.toNat 24
  rw[aIt 8 _ (by rw[d];omega),d,GP,GQ];omega
 have F:qZ 32 ((c>>>24).toNat^^^b)=(c>>>24)^^^qZ 32 b:=by
  apply BitVec.eq_of_toNat_eq;have d:(c>>>24).toNat<256:=by rw[BitVec.toNat_ushiftRight,Nat.shiftRight_eq_div_pow];have:=c.isLt;omega
  have G:(c>>>24).toNat^^^b<256:=Nat.xor_lt_two_pow (n:=8) d z;rw[aCq,BitVec.toNat_xor,aCq,kU (by omega),kU (b:=2^32) (by omega)]
 unfold kN;rw[F,aTd,KI,KI]
 conv=>lhs;rw[A,KI]
 rw[E,tU]
def kQ (c:BitVec 32) (s:List UInt8):BitVec 32:=s.foldl (fun c b=>nY c b.toNat 8) c
def fG (s:List UInt8):BitVec 32:= ~~~ kQ (0xffffffff#32) s
theorem aIw (c:BitVec 32) (s:List UInt8) (b:UInt8):kQ c (s++[b])=nY (kQ c s) b.toNat 8:=by unfold kQ;rw[NK];rfl
def jM (c:UInt8):Nat->List UInt8->Nat
 |0,_=>0
 |_+1,[]=>0
 |n+1,b::s=>if b=c then jM c n s+1 else 0
theorem TT (c:UInt8):∀n s,jM c n s<=n/\jM c n s<=s.length
 |0,_=>by simp[jM]
 |n+1,[]=>by simp[jM]
 |n+1,b::s=>by
  have:=TT c n s;unfold jM;split<;>simp<;>omega
theorem TU (c:UInt8):∀n s k,k<jM c n s->s[k]? =some c
 |0,_,k,h=>by simp[jM] at h
 |n+1,[],k,h=>by simp[jM] at h
 |n+1,b::s,k,h=>by
  unfold jM at h;split at h
  ·next e=>
   cases k with
   |zero=>simp[e]
   |succ k=>simpa using TU c n s k (by omega)
  ·omega
theorem TV (c:UInt8):∀n s,jM c n s<n->s[jM c n s]?≠some c
 |0,_,h=>by omega
 |n+1,[],h=>by simp[jM]
 |n+1,b::s,h=>by
  unfold jM at h ⊢;split
  ·next e=>
   rw[if_pos e] at h
   simpa using TV c n s (by omega)
  ·next e=>simpa using e
theorem TW (c:UInt8):∀n s k,k<=n->(∀j,j<k->s[j]? =some c)->(k=n\/s[k]?≠some c)->jM c n s=k
 |0,_,k,h,_,_=>by simp[jM];omega
 |n+1,[],k,h,z,d=>by
  cases k with
  |zero=>rfl
  |succ k=>have:=z 0 (by omega);simp at this
 |n+1,b::s,k,h,z,d=>by
  unfold jM
  cases k with
  |zero=>
   rw[if_neg];rintro rfl;rcases d with d|d
   ·omega
   ·simp at d
  |succ k=>
   have A:=z 0 (by omega);rw[if_pos (by simpa using A),TW c n s k (by omega) (fun j E=>by have:=z (j+1) (by omega);simpa using this)];rcases d with d|d
   ·exact .inl (by omega)
   ·exact .inr (by simpa using d)
def dX (s:List UInt8):Nat:=match s with
 |[]=>0
 |c::r=>jM c 255 (c::r)
theorem pS (s:List UInt8) (h:s≠[]):1<=dX s/\dX s<=255/\dX s<=s.length:=by
 cases s with
 |nil=>exact absurd rfl h
 |cons c r=>
  have:=TT c 255 (c::r);refine⟨?_,this.1,this.2⟩;show 1<=jM c 255 (c::r);unfold jM;rw[if_pos rfl];omega
def mN (s:List UInt8) (n:Nat):List UInt8:=s.take (min n 4)++if 4<=n then[eK (n-4)] else[]
def uT:Nat->List UInt8->List UInt8
 |0,_=>[]
 |_+1,[]=>[]
 |f+1,c::r=>mN (c::r) (dX (c::r))++uT f ((c::r).drop (dX (c::r)))
theorem TX:∀f g s,s.length<=f->s.length<=g->uT f s=uT g s
 |0,g,s,d,z=>by
  have:s=[]:=mV.1 (by omega);subst this
  cases g<;>rfl
 |f+1,0,s,d,z=>by
  have:s=[]:=mV.1 (by omega);subst this;rfl
 |f+1,g+1,[],_,_=>rfl
 |f+1,g+1,c::r,d,z=>by
  unfold uT;have:=pS (c::r) (by simp);rw[TX f g _ (by rw[cI];simp only[cR] at*;omega) (by rw[cI];simp only[cR] at*;omega)]
def bC (s:List UInt8):List UInt8:=uT s.length s
theorem DL:bC []=[]:=rfl
theorem yU (s:List UInt8) (h:s≠[]):bC s=mN s (dX s)++bC (s.drop (dX s)):=by
 cases s with
 |nil=>exact absurd rfl h
 |cons c r=>
  have:=pS (c::r) h;show uT (r.length+1) (c::r)=_;unfold uT bC;rw[TX r.length ((c::r).drop (dX (c::r))).length _ (by rw[cI];simp only[cR] at*;omega) (aA _)]
theorem TY (s:List UInt8) (n:Nat) (h:n<=s.length):(mN s n).length=if n<4 then n else 5:=by
 unfold mN;rw[aL,aX]
 by_cases d:4<=n
 ·rw[if_pos d,if_neg (by omega)];simp;omega
 ·rw[if_neg d,if_pos (by omega)];simp;omega
theorem aI1 {s:List UInt8} {out:List UInt8} (h:s≠[]) {d:List UInt8} (z:out++bC s=d):(out++mN s (dX s))++bC (s.drop (dX s))=d:=by
 rw[<-z,yU s h,cF]
def unS:Nat->UInt8->List UInt8->Option (List UInt8)
 |r,_,[]=>if r=4 then none else some []
 |r,c,b::s=>if r=4 then(unS 0 c s).map (bB b.toNat c++·)
  else if 0<r/\b=c then(unS (r+1) c s).map (b::·)
  else(unS 1 b s).map (b::·)
def dT (s:List UInt8):Option (List UInt8):=unS 0 0 s
theorem aIx (c d:UInt8):∀s,unS 0 c s=unS 0 d s
 |[]=>rfl
 |b::s=>by unfold unS;simp
theorem aIy {r:Nat} {c:UInt8} {s:List UInt8} (d:r<4) (h:∀b,s.head? =some b->b≠c):unS r c s=unS 0 0 s:=by
 cases s with
 |nil=>unfold unS;rw[if_neg (by omega),if_neg (by decide)]
 |cons b s=>
  have:=h b rfl;unfold unS;rw[if_neg (by omega),if_neg (by rintro⟨_,e⟩;exact this e),if_neg (by decide),if_neg (by simp)]
theorem KJ (c:UInt8):∀(n r:Nat) (s:List UInt8),0<r->r+n<=4->unS r c (bB n c++s)=(unS (r+n) c s).map (bB n c++·)
 |0,r,s,_,_=>by simp
 |n+1,r,s,d,z=>by
  rw[AE,gE]
  conv=>lhs;unfold unS
  rw[if_neg (by omega),if_pos ⟨d,rfl⟩,KJ c n (r+1) s (by omega) (by omega),OH,show r+1+n=r+(n+1) by omega];rfl
theorem TZ {c:UInt8} {n:Nat} {s:List UInt8} (d:1<=n) (z:n<4) (h:∀b,s.head? =some b->b≠c):dT (bB n c++s)=(dT s).map (bB n c++·):=by
 obtain⟨k,rfl⟩:∃k,n=k+1:=⟨n-1,by omega⟩;unfold dT;rw[AE,gE]
 conv=>lhs;unfold unS
 rw[if_neg (by decide),if_neg (by simp),KJ c k 1 s (by decide) (by omega),aIy (r:=1+k) (by omega) h,OH];rfl
theorem KK (c:UInt8) (s:List UInt8):dT (bB 4 c++s)=match s with
  |[]=>none
  |b::r=>(dT r).map (bB 4 c++bB b.toNat c++·):=by
 unfold dT;rw[show bB 4 c=c::bB 3 c from rfl,gE]
 conv=>lhs;unfold unS
 rw[if_neg (by decide),if_neg (by simp),KJ c 3 1 s (by decide) (by decide),OH]
 cases s with
 |nil=>unfold unS;rfl
 |cons b r=>
  show Option.map _ (unS 4 c (b::r))=_
  conv=>lhs;unfold unS
  rw[if_pos rfl,OH,aIx c 0]
  congr 1
theorem aIz {s:List UInt8} {c:UInt8} (h:s.head? =some c):s.take (dX s)=bB (dX s) c/\(dX s<255->(s.drop (dX s)).head?≠some c):=by
 cases s with
 |nil=>simp at h
 |cons d r=>
  obtain rfl:d=c:=by simpa using h
  have F:=(pS (d::r) (by simp)).2.2;have A:=TU d 255 (d::r);constructor
  ·apply jA;intro k;rw[lW,aTg]
   by_cases z:k<dX (d::r)
   ·rw[if_pos z,if_pos z];exact A k z
   ·rw[if_neg z,if_neg z]
  ·intro E;rw[List.head?_drop];exact TV d 255 (d::r) E
theorem aI0 {s:List UInt8} (h:s≠[]):(bC s).head? =s.head? :=by
 rw[yU s h];have z:=pS s h
 cases s with
 |nil=>exact absurd rfl h
 |cons c r=>
  unfold mN;obtain⟨k,d⟩:∃k,min (dX (c::r)) 4=k+1:=⟨min (dX (c::r)) 4-1,by omega⟩;rw[d,List.take_succ_cons];rfl
theorem UA:∀(n:Nat) (s:List UInt8),s.length<=n->dT (bC s)=some s
 |0,s,h=>by
  have:s=[]:=mV.1 (by omega);subst this;rfl
 |n+1,s,h=>by
  cases A:s with
  |nil=>rfl
  |cons c r=>
   rw[<-A];have F:s≠[]:=by rw[A];simp
   have J:=pS s F;obtain⟨E,L⟩:=aIz (s:=s) (c:=c) (by rw[A];rfl);have G:=UA n (s.drop (dX s)) (by rw[cI];omega);have H:bB (dX s) c++s.drop (dX s)=s:=by rw[<-E,jE]
   rw[yU s F];unfold mN
   by_cases d:4<=dX s
   ·rw[if_pos d,show min (dX s) 4=4 by omega];have e:s.take 4=bB 4 c:=by
     have:=congrArg (List.take 4) E;rw[AG,gU d,List.take_replicate,gU d] at this;exact this
    rw[e,cF,KK];simp only[List.singleton_append];rw[G,xW,nP,kU (by omega),aTh,show 4+(dX s-4)=dX s by omega,H]
   ·rw[if_neg d,List.append_nil,show min (dX s) 4=dX s by omega,E,TZ J.1 (by omega),G,xW,H];intro b z e;subst e
    by_cases I:s.drop (dX s)=[]
    ·rw[I] at z;simp[DL] at z
    ·rw[aI0 I] at z;exact L (by omega) z
theorem oS:∀(n:Nat) (s:List UInt8),s.length<=n->(bC s).length<=2*s.length/\(s≠[]->bC s≠[])/\s.length<=52*(bC s).length
 |0,s,h=>by
  have:s=[]:=mV.1 (by omega);subst this;exact⟨by simp[DL],fun q=>absurd rfl q,by simp⟩
 |n+1,s,h=>by
  by_cases z:s=[]
  ·subst z;exact⟨by simp[DL],fun q=>absurd rfl q,by simp⟩
  ·have A:=pS s z;obtain⟨E,_,F⟩:=oS n (s.drop (dX s)) (by rw[cI];omega);have d:=congrArg tM (yU s z);rw[aL,TY s _ A.2.2] at d;rw[cI] at E F;refine⟨?_,fun _ e=>?_,?_⟩
   ·split at d<;>omega
   ·rw[e] at d;simp at d;split at d<;>omega
   ·split at d<;>omega
theorem aJ6 (d:List UInt8):dT d=(unS 0 0 d).map ([]++·):=by
 unfold dT
 cases unS 0 0 d<;>rfl
theorem zF {o m:List UInt8} (x:Option (List UInt8)):(x.map (m++·)).map (o++·)=x.map ((o++m)++·):=by
 cases x with
 |none=>rfl
 |some y=>simp
theorem aJ7 {d o s:List UInt8} {c b:UInt8} (h:dT d=(unS 4 c (b::s)).map (o++·)):dT d=(unS 0 c s).map ((o++bB b.toNat c)++·):=by
 rw[h]
 conv=>lhs;unfold unS
 rw[if_pos rfl,zF]
theorem aJ8 {d o s:List UInt8} {r:Nat} {c:UInt8} (h:dT d=(unS r c (c::s)).map (o++·)) (z:0<r) (A:r≠4):dT d=(unS (r+1) c s).map ((o++[c])++·):=by
 rw[h]
 conv=>lhs;unfold unS
 rw[if_neg A,if_pos ⟨z,rfl⟩];exact zF (m:=[c]) _
theorem VY {d o s:List UInt8} {r:Nat} {c b:UInt8} (h:dT d=(unS r c (b::s)).map (o++·)) (z:r≠4) (A:¬(0<r/\b=c)):dT d=(unS 1 b s).map ((o++[b])++·):=by
 rw[h]
 conv=>lhs;unfold unS
 rw[if_neg z,if_neg A];exact zF (m:=[b]) _
theorem aJ9 {z o:List UInt8} {r:Nat} {c:UInt8} (h:dT z=(unS r c []).map (o++·)):dT z=if r=4 then none else some o:=by
 rw[h];unfold unS
 by_cases d:r=4
 ·rw[if_pos d,if_pos d];rfl
 ·rw[if_neg d,if_neg d];simp
theorem DU {α:Type} (o l:List α) (k:Nat):(o.take k++l).take k=(o++l).take k:=by
 rcases Nat.le_total k o.length with h|h
 ·rw[GO (by rw[aX];omega),AG,Nat.min_self,GO h]
 ·rw[cS h]
def fR (p:List UInt8) (most:Int):List UInt8×Int:=match dT p with
 |none=>([],3)
 |some o=>if most<(o.length:Int) then([],4) else(o,0)
theorem VZ {p:List UInt8} {most:Int} (h:dT p=none):fR p most=([],3):=by unfold fR;rw[h]
theorem LI {p o:List UInt8} {most:Int} (h:dT p=some o):fR p most=if most<(o.length:Int) then([],4) else(o,0):=by unfold fR;rw[h]
theorem aKa:∀(s:List UInt8) (r:Nat) (c:UInt8) (o:List UInt8),unS r c s=some o->s≠[]->r≠4->o≠[]
 |[],_,_,_,_,h,_=>absurd rfl h
 |b::s,r,c,o,h,_,d=>by
  unfold unS at h;rw[if_neg d] at h;split at h
  ·cases q:unS (r+1) c s with
   |none=>rw[q] at h;simp at h
   |some y=>rw[q] at h;simp at h;rw[<-h];simp
  ·cases q:unS 1 b s with
   |none=>rw[q] at h;simp at h
   |some y=>rw[q] at h;simp at h;rw[<-h];simp
theorem aKb {p:List UInt8} {most:Int} (z:p≠[]) (h:(fR p most).2=0):(fR p most).1≠[]/\((fR p most).1.length:Int)<=most:=by
 unfold fR at h ⊢
 cases q:dT p with
 |none=>rw[q] at h;simp at h
 |some o=>
  rw[q] at h;simp only at h ⊢
  by_cases d:most<(o.length:Int)
  ·rw[if_pos d] at h;simp at h
  ·rw[if_neg d];exact⟨aKa p 0 0 o q z (by decide),by show(o.length:Int)<=most;omega⟩
theorem DV {s:List UInt8} {k:Nat} (z:k<=255) (d:k<=s.length) (A:∀j,j<k->s[j]? =s[0]?) (E:k=255\/k=s.length\/s[k]?≠s[0]?):dX s=k:=by
 cases s with
 |nil=>simp at d;subst d;rfl
 |cons c r=>
  show jM c 255 (c::r)=k;refine TW c 255 _ k z (fun j F=>by rw[A j F];rfl) ?_;rcases E with h|h|h
  ·exact .inl h
  ·right;rw[dL (by omega)];simp
  ·right;exact fun e=>h (by rw[e];rfl)
theorem LJ {r:List UInt8} {c:UInt8} {n:Nat} (h:∀j,j<n->r[j]? =some c):r=bB n c++r.drop n:=by
 apply jA;intro j
 by_cases d:j<n
 ·rw[h j d,gS (by simpa using d),aTg,if_pos d]
 ·rw[jY (by simp;omega),List.length_replicate,gR]
  congr 1;omega
theorem aKf {A o r:List UInt8} {c:UInt8} {n:Nat} (h:dT A=(dT r).map (o++·)) (F:∀j,j<n->r[j]? =some c) (G:1<=n) (H:n<4) (d:n=r.length\/r[n]?≠some c):
  dT A=(dT (r.drop n)).map ((o++r.take n)++·):=by
 have E:=LJ F;have I:r.take n=bB n c:=by
  conv=>lhs;rw[E]
  rw[vN (by simp)]
 rw[I]
 conv at h=>rhs;rw[E]
 rw[TZ G H (fun b z=>by
  rintro rfl;rcases d with d|d
  ·rw[AT (by omega)] at z;simp at z
  ·rw[List.head?_drop] at z;exact d z)] at h
 rw[h,zF]
theorem aKg {d o r:List UInt8} {c:UInt8} (h:dT d=(dT r).map (o++·)) (E:r.length=4) (A:∀j,j<4->r[j]? =some c):dT d=none:=by
 have z:=LJ A;rw[AT (by omega)] at z;rw[z,KK] at h;exact h
theorem aKh {d o r:List UInt8} {c b:UInt8} (h:dT d=(dT r).map (o++·)) (A:∀j,j<4->r[j]? =some c) (E:r[4]? =some b):dT d=(dT (r.drop 5)).map ((o++r.take 4++bB b.toNat c)++·):=by
 have z:=LJ A;have F:r.take 4=bB 4 c:=by
  conv=>lhs;rw[z]
  rw[vN (by simp)]
 have G:r.drop 4=b::r.drop 5:=by
  obtain⟨H,e⟩:=eU.1 E;rw[oH H,e]
 rw[F];rw[z,KK,G] at h;simp only at h;rw[h,zF,cF]
theorem aKd {α:Type} {X Y:List α} {c:α} {k n M:Nat} (E:k<=n) (d:Y=(X++bB k c).take (M+1)) (z:M<Y.length):(X++bB n c).take (M+1)=Y:=by
 have A:M+1<=(X++bB k c).length:=by
  rw[d,aX] at z;omega
 have e:bB n c=bB k c++bB (n-k) c:=by rw[aTh,show k+(n-k)=n by omega]
 rw[e,<-cF,GO A,d]
theorem aKe {α:Type} {X Y:List α} {c:α} {k M:Nat} (d:Y=(X++bB k c).take (M+1)) (z:Y.length<=M):Y++[c]=(X++bB (k+1) c).take (M+1):=by
 have A:(X++bB k c).length<=M:=by
  rw[d,aX] at z;omega
 rw[cS (by omega)] at d;rw[List.replicate_succ',<-cF,<-d,cS (by rw[aL,fK];omega)]
def ahd (a b:Int×Int):Prop:=a.1<b.1\/(a.1=b.1/\a.2<b.2)
instance (a b:Int×Int):Decidable (ahd a b):=inferInstanceAs (Decidable (_\/_))
theorem FC {a b c:Int×Int} (d:¬ahd b a) (z:¬ahd c b):¬ahd c a:=by unfold ahd at*;omega
theorem FD {a b:Int×Int} (h:ahd a b):¬ahd b a:=by unfold ahd at*;omega
def mR (l:List (Int×Int)) (i j:Nat):List (Int×Int):=(l.set i (l.getD j (0,0))).set j (l.getD i (0,0))
theorem xG (l:List (Int×Int)) (i j:Nat):(mR l i j).length=l.length:=by simp[mR]
theorem aAz {l:List (Int×Int)} {i j:Nat} (hi:i<l.length) (A:j<l.length) (k:Nat):(mR l i j).getD k (0,0)=if k=j then l.getD i (0,0) else if k=i then l.getD j (0,0) else l.getD k (0,0):=by
 unfold mR;rw[aV]
 by_cases d:k=j
 ·subst d;rw[if_pos rfl,FS (by simpa using A)];rfl
 ·rw[if_neg d,qU (fun e=>d e.symm)]
  by_cases z:k=i
  ·subst z;rw[if_pos rfl,FS hi];rfl
  ·rw[if_neg z,qU (fun e=>z e.symm)];rfl
theorem aA0 {l:List (Int×Int)} {i:Nat} (hi:i<l.length):l=l.take i++l[i]::l.drop (i+1):=by rw[NM,jE]
theorem aA1 {l:List (Int×Int)} {i j:Nat} (J:i<j) (L:j<l.length):(mR l i j).Perm l:=by
 obtain⟨A,x,B,y,C,rfl,d,z⟩:∃A x B y C,l=A++x::(B++y::C)/\A.length=i/\B.length=j-i-1:=by
  have E:=aA0 (l:=l) (i:=i) (by omega);have F:j-i-1<(l.drop (i+1)).length:=by rw[cI];omega
  have G:=aA0 F;refine⟨l.take i,l[i],(l.drop (i+1)).take (j-i-1),(l.drop (i+1))[j-i-1],(l.drop (i+1)).drop (j-i-1+1),?_,by rw[aX];omega,by rw[aX];omega⟩;rw[<-G];exact E
 have H:(A++x::(B++y::C)).getD i (0,0)=x:=by
  rw[aV,jY (by omega),d,oI];rfl
 have I:(A++x::(B++y::C)).getD j (0,0)=y:=by
  rw[aV,jY (by omega),d,show j-i=(j-i-1)+1 by omega,aS,jY (by omega),z,oI];rfl
 have e:mR (A++x::(B++y::C)) i j=A++y::(B++x::C):=by
  unfold mR;rw[H,I,ON _ _ (by omega),d,oI,aH,ON _ _ (by omega),d,show j-i=(j-i-1)+1 by omega,List.set_cons_succ,ON _ _ (by omega),z,oI,aH]
 rw[e];refine mT.append_left _ ?_;refine(GK y aCf).trans ?_;refine(mT.swap x y _).trans ?_;exact GK x aCf.symm
def nN (l:List (Int×Int)):Prop:=∀j,0<j->j<l.length->¬ahd (l.getD j (0,0)) (l.getD ((j-1)/2) (0,0))
def pA (l:List (Int×Int)) (i:Nat):Prop:=(∀j,0<j->j<l.length->j≠i->¬ahd (l.getD j (0,0)) (l.getD ((j-1)/2) (0,0)))/\
 (0<i->∀j,0<j->j<l.length->(j-1)/2=i->¬ahd (l.getD j (0,0)) (l.getD ((i-1)/2) (0,0)))
def sD (l:List (Int×Int)) (i:Nat):Prop:=(∀j,0<j->j<l.length->(j-1)/2≠i->¬ahd (l.getD j (0,0)) (l.getD ((j-1)/2) (0,0)))/\
 (0<i->∀j,0<j->j<l.length->(j-1)/2=i->¬ahd (l.getD j (0,0)) (l.getD ((i-1)/2) (0,0)))
theorem pA.start {l:List (Int×Int)} (h:nN l) (x:Int×Int):pA (l++[x]) l.length:=by
 have z:∀k,k<l.length->(l++[x]).getD k (0,0)=l.getD k (0,0):=fun k E=>by rw[aV,gS E,aV]
 refine⟨fun j A d F=>?_,fun A j _ d G=>?_⟩
 ·rw[aL,fK] at d;rw[z j (by omega),z _ (by omega)];exact h j A (by omega)
 ·rw[aL,fK] at d;omega
theorem pA.top {l:List (Int×Int)} (h:pA l 0):nN l:=fun j d z=>h.1 j d z (by omega)
theorem pA.stop {l:List (Int×Int)} {i:Nat} (h:pA l i) (d:¬ahd (l.getD i (0,0)) (l.getD ((i-1)/2) (0,0))):nN l:=fun j z A=>by
 by_cases e:j=i
 ·subst e;exact d
 ·exact h.1 j z A e
theorem pA.step {l:List (Int×Int)} {i:Nat} (h:pA l i) (M:0<i) (hi:i<l.length) (G:ahd (l.getD i (0,0)) (l.getD ((i-1)/2) (0,0))):pA (mR l i ((i-1)/2)) ((i-1)/2):=by
 have H:(i-1)/2<l.length:=by omega
 have O:i≠(i-1)/2:=by omega
 have g:=aAz hi H;generalize I:(i-1)/2=u at*
 refine⟨fun j A z T=>?_,fun U j A z V=>?_⟩
 ·rw[xG] at z;rw[g,g,if_neg T]
  by_cases d:j=i
  ·subst d;rw[if_pos rfl,I,if_pos rfl];exact FD G
  ·rw[if_neg d]
   by_cases E:(j-1)/2=u
   ·rw[if_pos E];have:=h.1 j A z d;rw[E] at this;exact FC (FD G) this
   ·rw[if_neg E]
    by_cases F:(j-1)/2=i
    ·rw[if_pos F];have:=h.2 M j A z F;rw[I] at this;exact this
    ·rw[if_neg F];exact h.1 j A z d
 ·rw[xG] at z;have J:(u-1)/2≠u/\(u-1)/2≠i:=by omega
  rw[g,g,if_neg J.1,if_neg J.2,if_neg (show j≠u by omega)];have L:=h.1 u U H (fun e=>O e.symm)
  by_cases d:j=i
  ·rw[if_pos d];exact L
  ·rw[if_neg d];have:=h.1 j A z d;rw[V] at this;exact FC L this
theorem nN.least {l:List (Int×Int)} (h:nN l):∀j,j<l.length->¬ahd (l.getD j (0,0)) (l.getD 0 (0,0)):=by
 intro j
 induction j using Nat.strongRecOn with
 |ind j d=>
  intro z;rcases fJ j with rfl|A
  ·unfold ahd;omega
  ·exact FC (d ((j-1)/2) (by omega) (by omega)) (h j A z)
theorem sD.start {l:List (Int×Int)} (h:nN l) (E:0<l.length):sD ((l.set 0 (l.getD (l.length-1) (0,0))).take (l.length-1)) 0:=by
 refine⟨fun j d z F=>?_,fun h=>by omega⟩;rw[aX,mW] at z;have g:∀k,0<k->k<l.length-1->((l.set 0 (l.getD (l.length-1) (0,0))).take (l.length-1)).getD k (0,0)=l.getD k (0,0):=fun k G A=>by
  rw[aV,lW,if_pos A,qU (by omega),aV]
 rw[g j d (by omega),g _ (by omega) (by omega)];exact h j d (by omega)
theorem aRa {l:List (Int×Int)} (d:0<l.length):(l.getD 0 (0,0)::(l.set 0 (l.getD (l.length-1) (0,0))).take (l.length-1)).Perm l:=by
 cases l with
 |nil=>simp at d
 |cons x l=>
  simp only[aH,cR,jZ];rcases fJ l.length with e|e
  ·obtain rfl:=mV.1 e;exact xP _
  ·obtain⟨m,y,rfl⟩:∃m y,l=m++[y]:=⟨l.dropLast,l.getLast (by intro q;rw[q] at e;simp at e),(List.dropLast_concat_getLast _).symm⟩;have z:(x::(m++[y])).getD (m++[y]).length (0,0)=y:=by
    rw[aV,aL,fK,aS,jY (aA _),oI];rfl
   rw[z];show(x::(y::(m++[y])).take (m++[y]).length).Perm _;rw[aL,fK,List.take_succ_cons,vN rfl];exact GK x (NR (l₁:=[y]) (l₂:=m))
theorem sD.stop {l:List (Int×Int)} {i:Nat} (h:sD l i) (A:∀j,0<j->j<l.length->(j-1)/2=i->¬ahd (l.getD j (0,0)) (l.getD i (0,0))):nN l:=fun j d z=>by
 by_cases e:(j-1)/2=i
 ·rw[e];exact A j d z e
 ·exact h.1 j d z e
theorem sD.step {l:List (Int×Int)} {i f:Nat} (h:sD l i) (J:0<f) (G:f<l.length) (E:(f-1)/2=i) (L:ahd (l.getD f (0,0)) (l.getD i (0,0)))
  (M:∀j,0<j->j<l.length->(j-1)/2=i->¬ahd (l.getD j (0,0)) (l.getD f (0,0))):sD (mR l i f) f:=by
 have hi:i<l.length:=by omega
 have O:i≠f:=by omega
 have g:=aAz hi G;refine⟨fun j z d F=>?_,fun _ j z d F=>?_⟩
 ·rw[xG] at d;rw[g,g,if_neg F]
  by_cases H:j=f
  ·subst H;rw[if_pos rfl,if_pos E];exact FD L
  ·rw[if_neg H]
   by_cases I:j=i
   ·subst I;rw[if_pos rfl,if_neg (by omega)];exact h.2 z f J G E
   ·rw[if_neg I]
    by_cases A:(j-1)/2=i
    ·rw[if_pos A];exact M j z d A
    ·rw[if_neg A];exact h.1 j z d A
 ·rw[xG] at d;rw[g,g,E,if_neg O,if_pos rfl,if_neg (show j≠f by omega),if_neg (show j≠i by omega)];have:=h.1 j z d (by omega);rw[F] at this;exact this
def oD (r:bQ):List (Int×Int):=r.map (fun p=>(p.1,(p.2.root:Int)))
theorem aRf (r:bQ) (h:r≠[]):∃i,∃hi:i<r.length,(bM r).1=r[i]/\(bM r).2=r.eraseIdx i/\(∀j (d:j<r.length),r[i].1<=r[j].1)/\∀j (d:j<i),r[i].1<(r[j]'(AX d hi)).1:=by
 have A:0<r.length:=kV.2 h;obtain⟨E,F,G⟩:=yN (fun i=>(r.getD i (0,.leaf 0)).1) r.length A;have hi:bQ.least r<r.length:=E;have z:∀j (d:j<r.length),r.getD j (0,.leaf 0)=r[j]:=fun j d=>by rw[aV,aN d];rfl
 refine⟨bQ.least r,hi,by unfold bM;rw[z _ hi],rfl,fun j d=>?_,fun j d=>?_⟩
 ·have:=F j d;rw[z j d,show iV (fun i=>(r.getD i (0,.leaf 0)).1) r.length=bQ.least r from rfl,z _ hi] at this;exact this
 ·have H:j<r.length:=AX d hi;have:=G j d;rw[z j H,show iV (fun i=>(r.getD i (0,.leaf 0)).1) r.length=bQ.least r from rfl,z _ hi] at this;exact this
theorem aRg {q:List (Int×Int)} {r:bQ} (H:nN q) (A:q.Perm (oD r)) (h:r≠[]) (I:r.Pairwise (fun p q=>p.2.root<q.2.root)):q.getD 0 (0,0)=((bM r).1.1,((bM r).1.2.root:Int)):=by
 obtain⟨i,hi,J,_,L,M⟩:=aRf r h;rw[J];have hq0:0<q.length:=by
  rw[A.length_eq];unfold oD;rw[bJ];exact kV.2 h
 have O:q.getD 0 (0,0)∈oD r:=by
  rw[<-A.mem_iff,aV,aN hq0];exact gT hq0
 obtain⟨p,T,E⟩:=dU.1 O;obtain⟨j,F,rfl⟩:=qA.1 T;have U:(r[i].1,(r[i].2.root:Int))∈q:=A.mem_iff.2 (dU.2 ⟨r[i],gT hi,rfl⟩);obtain⟨k,G,V⟩:=qA.1 U;have d:=H.least k G;rw[aV,aN G] at d;simp only[vG] at d;rw[V,<-E] at d;unfold ahd at d;simp only at d;have Y:=L j F;rcases pW j i with z|z|z
 ·have:=M j z;omega
 ·subst z;exact E.symm
 ·have:=xO.1 I i j hi F z;omega
theorem aRh {r:bQ} (h:r≠[]):(((bM r).1.1,((bM r).1.2.root:Int))::oD (bM r).2).Perm (oD r):=by
 have:=(uO r h).2.2.1;exact this.map (fun p=>(p.1,(p.2.root:Int)))
theorem aRi {r:bQ} (d:r.Pairwise (fun p q=>p.2.root<q.2.root)):(bM r).2.Pairwise (fun p q=>p.2.root<q.2.root):=d.sublist (NY ..)
end
end Go.Proofs.YtiifmcicleljjaaGreatDoor
