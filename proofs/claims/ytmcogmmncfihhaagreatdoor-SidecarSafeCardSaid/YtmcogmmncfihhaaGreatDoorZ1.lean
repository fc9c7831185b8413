/-
  Texts put together (part 1): the walks and the plain laws on which the statement stands.
-/
import Derived.Test.YtmcogmmncfihhaaGreatDoorRows
import Derived.WalkKit
import Derived.WalkSpells
import Derived.WalkLawsBesides
import Derived.Deep.QuietTactic
import Derived.BigQuiet
import Derived.Deep.LoopGhost
import Derived.Lib.Strings
import Derived.Deep.RegionWith
import Derived.Deep.DeepCutAuto
set_option maxRecDepth 100000
set_option maxHeartbeats 12800000
set_option linter.unusedVariables false
set_option linter.unusedSimpArgs false
open Array renaming getElem?_eq_some_iff->gQ
open Decidable renaming not_not->dK
open Go renaming Operand->iM,Program->gD
open Go.Ending renaming returned->NI
open Go.Value renaming int->bO
open Go.World.ownsRow renaming alloc->aBy,kept->NH,lt->aT4
open Int renaming le_refl->lJ,toNat_natCast->eG
open List renaming append_assoc->cF,countP_append->NN,countP_cons->NL,eraseIdx_sublist->NY,ext_getElem?->jA,flatMap_append->pZ,flatMap_cons->sH,getD->fF,getD_eq_getElem?_getD->aV,getElem?_append_left->gS,getElem?_append_right->jY,getElem?_eq_getElem->aN,getElem?_eq_none->dL,getElem?_map->dY,getElem?_range->pF,getElem?_set_ne->qU,getElem?_take->lW,getElem_cons_drop->NM,getElem_mem->gT,length->tM,length_append->aL,length_set->mW,length_singleton->fK,length_take->aX,map_append->fI,map_cons->pG,map_map->xJ,mem_append->cU,mem_cons->kD,mem_cons_of_mem->jD,mem_cons_self->lY,mem_flatMap->NW,mem_iff_getElem->qA,mem_map->dU,mem_range->jF,mem_singleton->dC,nodup_append->vM,nodup_cons->NX,perm_append_comm->NR,range->dG,replicate->bB,sum_cons->pV,take_append_drop->jE
open Nat renaming add_sub_cancel->jZ,eq_zero_or_pos->fJ,le_mul_of_pos_right->FM,le_refl->aA,le_trans->aW,lt_of_lt_of_le->dR,mul_assoc->vH,mul_comm->oG,pow_le_pow_right->jC,pow_pos->xL,pow_succ->nQ,sub_self->oI,testBit_lt_two_pow->FR,zero_le->aU
open Option renaming getD_some->vG
namespace Go.Proofs.YtmcogmmncfihhaaGreatDoor
section
open Go.RowKit
theorem hid {p:Prop} (h:p):Hid p:=h
def Rd (w:World) (v:Value) (n:Nat) (xs:List Value):Prop:=
 ∃a cap,v=.slice a n cap/\n<=cap/\cap<=maxLen/\
  (xs=[]\/∃b off,a=some ⟨b,off,none⟩/\b<w.heap.size/\∀j,j<xs.length->w.cell? ⟨b,off+j,none⟩=some (xs.getD j undef))
def RdI (w:World) (v:Value) (l:List Int):Prop:=Rd w v l.length (l.map (bO .i64))
theorem lP {W w1:World} (hb:Below W.heap.size W w1):(∀b o,b<W.heap.size->w1.cell? ⟨b,o,none⟩=W.cell? ⟨b,o,none⟩)/\(∀b o,b<W.heap.size->w1.frozen? ⟨b,o,none⟩=W.frozen? ⟨b,o,none⟩):=
 ⟨fun b o h=>hb.cell (p:=⟨b,o,none⟩) h,fun b o h=>hb.frozen (p:=⟨b,o,none⟩) h⟩
theorem Rd.below {w w':World} {v:Value} {n:Nat} {xs:List Value} (h:Rd w v n xs) (hb:Below w.heap.size w w'):Rd w' v n xs:=by
 obtain⟨a,cap,rfl,h1,h2,h3⟩:=h;refine⟨a,cap,rfl,h1,h2,?_⟩;rcases h3 with h3|⟨b,off,rfl,hlt,hc⟩
 ·exact .inl h3
 ·exact .inr ⟨b,off,rfl,dR hlt hb.size,fun j hj=>by rw[(lP hb).1 _ _ hlt];exact hc j hj⟩
theorem RdI.below {w w':World} {v:Value} {l:List Int} (h:RdI w v l) (hb:Below w.heap.size w w'):RdI w' v l:=Rd.below h hb
theorem RdI.open {w:World} {v:Value} {l:List Int} (h:RdI w v l):
  ∃a cap,v=.slice a l.length cap/\l.length<=cap/\cap<=maxLen/\
   (0<l.length->∃b off,a=some ⟨b,off,none⟩/\b<w.heap.size/\∀j x,l[j]? =some x->w.cell? ⟨b,off+j,none⟩=some (.int .i64 x)):=by
 obtain⟨a,cap,rfl,h1,h2,h3⟩:=h;refine⟨a,cap,rfl,h1,h2,fun hne=>?_⟩;rcases h3 with h3|⟨b,off,rfl,hlt,hc⟩
 ·have:=congrArg tM h3;simp at this;simp[this] at hne
 ·refine⟨b,off,rfl,hlt,fun j x hx=>?_⟩;obtain⟨hj,hx'⟩:=List.getElem?_eq_some_iff.1 hx;have:=hc j (by simpa using hj);rw[this];simp[aN hj,hx']
theorem dH {l:List Int} {k:Nat} (h:k<l.length):∃x,l[k]? =some x:=⟨_,aN h⟩
def WfI (l:List Int):Prop:=∀x∈l,-9223372036854775808<=x/\x<=9223372036854775807
theorem Rd.of_own {w:World} {base e size n:Nat} {v:Value} {xs:List Value} (h:w.ownsRow base e size v n xs):Rd w v n xs:=by
 obtain⟨hl,h⟩:=h;rcases h with⟨rfl,rfl⟩|⟨g,cap,cur,rfl,hb,hg,hnc,hcm,hcs,ht⟩
 ·refine⟨none,0,rfl,aA _,by simp[maxLen],.inl ?_⟩
  cases xs with
  |nil=>rfl
  |cons x l=>simp at hl
 ·refine⟨_,cap,rfl,hnc,hcm,.inr ⟨g,0,rfl,(gQ.1 hg).1,fun j hj=>?_⟩⟩;rw[Nat.zero_add,cell_of_row w g j cur e (0,0) hg];have:xs[j]? =cur[j]? :=by
   rw[<-ht,lW,if_pos (by rw[<-hl];exact hj)];simp
  rw[<-this,aN hj];simp[fF,hj]
theorem RdI.of_own {w:World} {base e n:Nat} {v:Value} {l:List Int} (h:w.ownsRow base e 1 v n (l.map (bO .i64))):RdI w v l:=by
 have hn:n=l.length:=by have:=h.1;simp at this;omega
 subst hn;exact Rd.of_own h
theorem GZ {w w':World} {B base e size n:Nat} {v:Value} {xs:List Value} (h:w.ownsRow base e size v n xs) (hb:Below B w w') (hB:w.heap.size<=B):w'.ownsRow base e size v n xs:=by
 refine⟨h.1,?_⟩;rcases h.2 with hn|⟨g,cap,cur,rfl,h1,hg,rest⟩
 ·exact .inl hn
 ·refine .inr ⟨g,cap,cur,rfl,h1,?_,rest⟩;rw[hb.block g (dR (gQ.1 hg).1 hB)];exact hg
theorem IA {w:World} {base base' e size n:Nat} {v:Value} {xs:List Value} (h:w.ownsRow base e size v n xs) (hb:base'<=base):w.ownsRow base' e size v n xs:=by
 refine⟨h.1,?_⟩;rcases h.2 with hn|⟨g,cap,cur,rfl,h1,rest⟩
 ·exact .inl hn
 ·exact .inr ⟨g,cap,cur,rfl,aW hb h1,rest⟩
def Arr (w:World) (b:Nat) (e:TypeId) (l:List Value):Prop:=w.heap[b]? =some (.cells l.toArray e (0,0))
theorem Arr.lt {w:World} {b:Nat} {e:TypeId} {l:List Value} (h:Arr w b e l):b<w.heap.size:=(gQ.1 h).1
theorem Arr.cell {w:World} {b:Nat} {e:TypeId} {l:List Value} (h:Arr w b e l) {i:Nat} {v:Value} (hi:l[i]? =some v):w.cell? ⟨b,i,none⟩=some v:=by
 rw[cell_of_row w b i _ e (0,0) h];simpa using hi
theorem Arr.free {w:World} {b:Nat} {e:TypeId} {l:List Value} (h:Arr w b e l) (i:Nat):w.frozen? ⟨b,i,none⟩=false:=frozen_of_row w b i _ e h
theorem Arr.set {w:World} {b:Nat} {e:TypeId} {l:List Value} (h:Arr w b e l) (i:Nat) (v:Value):Arr (w.setCell ⟨b,i,none⟩ v) b e (l.set i v):=by
 unfold Arr;rw[heap_setCell_same w b i _ e v h];simp
theorem Arr.other {w:World} {b:Nat} {e:TypeId} {l:List Value} (h:Arr w b e l) (p:Addr) (hp:p.block≠b) (v:Value):Arr (w.setCell p v) b e l:=by
 unfold Arr;rw[heap_setCell_other w p b v (fun e=>hp e.symm)];exact h
theorem Arr.below {w w':World} {B b:Nat} {e:TypeId} {l:List Value} (h:Arr w b e l) (hb:Below B w w') (hB:b<B):Arr w' b e l:=by
 unfold Arr;rw[hb.block b hB];exact h
theorem Arr.alloc {w:World} {b:Nat} {e:TypeId} {l:List Value} (h:Arr w b e l) (o:Obj):Arr (w.alloc o) b e l:=by
 unfold Arr;rw[Below.heap_alloc w o b h.lt];exact h
theorem Arr.drewN {w:World} {b:Nat} {e:TypeId} {l:List Value} (h:Arr w b e l) (n:Nat):Arr (w.drewN n) b e l:=h
theorem Arr.grown {w w':World} {b:Nat} {e:TypeId} {l:List Value} {row:Option Nat} (h:Arr w b e l) (hg:w.grownBy w' row) (hne:some b≠row):Arr w' b e l:=by
 unfold Arr;rw[hg.block b h.lt hne];exact h
theorem Arr.new (w:World) (e:TypeId) (l:List Value):Arr (w.alloc (.cells l.toArray e)) w.heap.size e l:=heap_alloc_new w _
def tab (n:Nat) (f:Nat->Int):List Value:=(dG n).map (fun d=>bO .i64 (f d))
theorem iS (n:Nat) (f:Nat->Int) (i:Nat) (h:i<n):(tab n f)[i]? =some (.int .i64 (f i)):=by simp[tab,h]
theorem qD (n:Nat) (f f':Nat->Int) (i:Nat) (v:Int) (h:∀d,d<n->f' d=if d=i then v else f d):(tab n f).set i (.int .i64 v)=tab n f':=by
 apply jA;intro j
 by_cases hj:j<n
 ·by_cases hij:i=j
  ·subst hij;simp[tab,hj,h i hj]
  ·rw[qU hij,iS n f j hj,iS n f' j hj,h j hj,if_neg (fun e=>hij e.symm)]
 ·rw[dL (by simp[tab];omega),dL (by simp[tab];omega)]
structure ElT (P:gD) (t e:TypeId) (bytes:Nat) (z:Value):Prop where
 under:P.underlying t=some (.slice e)
 info:∃i,P.info? e=some i/\i.zero=some z/\i.size=1/\i.bytes=bytes
 cells:z.cells=#[z]
 pos:1<=bytes
theorem ElT.mk' {P:gD} {t e:TypeId} {bytes:Nat} {z:Value} (h:(P.info? e).map (fun i=>(i.zero,i.size,i.bytes))=some (some z,1,bytes)) (hu:P.underlying t=some (.slice e)) (hc:z.cells=#[z]) (hb:1<=bytes):ElT P t e bytes z:=by
 obtain⟨i0,hi,hz0,hz1,hz2⟩:=info_parts h;exact⟨hu,⟨i0,hi,hz0,hz1,hz2⟩,hc,hb⟩
theorem rC {w w':World} {base e size n:Nat} {v:Value} {xs:List Value} (hown:w.ownsRow base e size v n xs) (hg:w.grownBy w' v.ownBlock) (hb:base<=w.heap.size):Below base w w':=
 (Below.refl base w).grown hg hb (fun k hk=>(hown.lt k hk).1)
theorem aDa {P:gD} {ops:Array Oper} {rest:List Oper} {o:Oper} {a:Act} {Q:Exit->Act->World->Prop} {w:World} {t e bytes:Nat} {z:Value} (E:ElT P t e bytes z) (hgd:o.guard=none) (s x:iM)
  (ho:o.op=.call {callee:=.builtin .append,args:=#[s,x],argTypes:=#[t,t]}) (base:Nat) (v:Value) (n:Nat) (xs:List Value) (hs:a.eval s=v) (hown:w.ownsRow base e 1 v n xs)
  (g:Nat) (u:Value) (hx:a.eval x=.slice (some ⟨g,0,none⟩) 1 1) (hc:w.cell? ⟨g,0,none⟩=some u) (h1:u.oneCell'=true) (hroom:(n+1)*bytes<=140737488355328) (hbase:base<=w.heap.size)
  (h:∀v' w',w'.ownsRow base e 1 v' (n+1) (xs++[u])->Below base w w'->w.grownBy w' v.ownBlock->wpList P ops Q rest (a.put o.dst v') w'):wpList P ops Q (o::rest) a w:=by
 obtain⟨i,hi,hz,h2,h3⟩:=E.info;have h4:z.cells.size=1:=by rw[E.cells];rfl
 have hpos:=E.pos;have hn:n+1<=140737488355328:=aW (FM _ hpos) hroom;refine wpList_append_own w hgd s x t ho base e i z 1 bytes E.under hi hz h2 h3 h4 (by decide) v n xs hs hown ⟨g,0,none⟩ 1 1 [u] hx rfl ?_ (by simpa using h1) (by simp only[maxLen];omega) hroom hbase (fun v' w' q1 q2 _=>h v' w' q1 (rC hown q2 hbase) q2);intro j u' hj
 cases j with
 |zero=>simp at hj;subst hj;simpa [Addr.add] using hc
 |succ j=>simp at hj
def Ow (w:World) (B:Nat) (e:TypeId) (v:Value) (xs:List Value):Prop:=w.ownsRow B e 1 v xs.length xs
theorem Ow.nil (w:World) (B:Nat) (e:TypeId):Ow w B e (.slice none 0 0) []:=World.ownsRow_nil _ _ _ _
theorem Ow.alloc {w:World} {B:Nat} {e:TypeId} {v:Value} {xs:List Value} (h:Ow w B e v xs) (o:Obj):Ow (w.alloc o) B e v xs:=aBy h o
theorem Ow.below {w w':World} {B C:Nat} {e:TypeId} {v:Value} {xs:List Value} (h:Ow w B e v xs) (hb:Below C w w') (hC:w.heap.size<=C):Ow w' B e v xs:=GZ h hb hC
theorem Ow.base {w:World} {B B':Nat} {e:TypeId} {v:Value} {xs:List Value} (h:Ow w B e v xs) (hb:B'<=B):Ow w B' e v xs:=IA h hb
theorem Ow.rd {w:World} {B:Nat} {e:TypeId} {v:Value} {xs:List Value} (h:Ow w B e v xs):Rd w v xs.length xs:=Rd.of_own h
theorem Ow.drewN {w:World} {B:Nat} {e:TypeId} {v:Value} {xs:List Value} (h:Ow w B e v xs) (n:Nat):Ow (w.drewN n) B e v xs:=h
theorem Ow.kept {w w':World} {B:Nat} {e:TypeId} {v:Value} {xs:List Value} {row:Option Nat} (h:Ow w B e v xs) (hg:w.grownBy w' row) (hne:v.ownBlock=none\/v.ownBlock≠row):Ow w' B e v xs:=NH h hg hne
theorem Ow.lt {w:World} {B:Nat} {e:TypeId} {v:Value} {xs:List Value} (h:Ow w B e v xs):∀k,v.ownBlock=some k->B<=k/\k<w.heap.size:=aT4 h
theorem rD {P:gD} {ops:Array Oper} {rest:List Oper} {o:Oper} {a:Act} {Q:Exit->Act->World->Prop} {w:World} {t e bytes:Nat} {z:Value} (E:ElT P t e bytes z) (hgd:o.guard=none) (s x:iM)
  (ho:o.op=.call {callee:=.builtin .append,args:=#[s,x],argTypes:=#[t,t]}) (base:Nat) (v:Value) (xs:List Value) (hs:a.eval s=v) (hown:Ow w base e v xs)
  (g:Nat) (u:Value) (hx:a.eval x=.slice (some ⟨g,0,none⟩) 1 1) (hc:w.cell? ⟨g,0,none⟩=some u) (h1:u.oneCell'=true) (hroom:(xs.length+1)*bytes<=140737488355328) (hbase:base<=w.heap.size)
  (h:∀v' w',Ow w' base e v' (xs++[u])->Below base w w'->w.grownBy w' v.ownBlock->wpList P ops Q rest (a.put o.dst v') w'):wpList P ops Q (o::rest) a w:=
 aDa E hgd s x ho base v xs.length xs hs hown g u hx hc h1 hroom hbase (fun v' w' q1 q2 q3=>h v' w' (by unfold Ow;rw[aL];exact q1) q2 q3)
def OwI (w:World) (B:Nat) (v:Value) (l:List Int):Prop:=Ow w B 3 v (l.map (bO .i64))
theorem OwI.nil (w:World) (B:Nat):OwI w B (.slice none 0 0) []:=Ow.nil _ _ _
theorem OwI.alloc {w:World} {B:Nat} {v:Value} {l:List Int} (h:OwI w B v l) (o:Obj):OwI (w.alloc o) B v l:=Ow.alloc h o
theorem OwI.below {w w':World} {B C:Nat} {v:Value} {l:List Int} (h:OwI w B v l) (hb:Below C w w') (hC:w.heap.size<=C):OwI w' B v l:=Ow.below h hb hC
theorem OwI.base {w:World} {B B':Nat} {v:Value} {l:List Int} (h:OwI w B v l) (hb:B'<=B):OwI w B' v l:=Ow.base h hb
theorem OwI.rd {w:World} {B:Nat} {v:Value} {l:List Int} (h:OwI w B v l):RdI w v l:=by
 unfold RdI;have:=Ow.rd h;rwa[List.length_map] at this
theorem gL:ElT Tryz.prog 57 3 8 (.int .i64 0):=ElT.mk' (by kernel_rfl) Tryz.underlying57 rfl (by decide)
theorem eN {ops:Array Oper} {rest:List Oper} {o:Oper} {a:Act} {Q:Exit->Act->World->Prop} {w:World} (hgd:o.guard=none) (s x:iM)
  (ho:o.op=.call {callee:=.builtin .append,args:=#[s,x],argTypes:=#[57,57]}) (base:Nat) (v:Value) (l:List Int) (hs:a.eval s=v) (hown:OwI w base v l)
  (g:Nat) (n:Int) (hx:a.eval x=.slice (some ⟨g,0,none⟩) 1 1) (hc:w.cell? ⟨g,0,none⟩=some (.int .i64 n)) (hroom:(l.length+1)*8<=140737488355328) (hbase:base<=w.heap.size)
  (h:∀v' w',OwI w' base v' (l++[n])->Below base w w'->w.grownBy w' v.ownBlock->wpList Tryz.prog ops Q rest (a.put o.dst v') w'):wpList Tryz.prog ops Q (o::rest) a w:=
 rD gL hgd s x ho base v _ hs hown g _ hx hc rfl (by simpa using hroom) hbase (fun v' w' q1 q2 q3=>h v' w' (by unfold OwI;rw[fI];exact q1) q2 q3)
theorem eW (s:ByteArray) (j:Nat) (h:j<s.size):s.data.toList[j]? =some s[j]:=by
 rw[aN (by simpa using h)];rfl
def fB (z:Value) (n:Nat):Array Value:=(bB n z).toArray
theorem Arr.made (w:World) (e:TypeId) (z:Value) (n:Nat):Arr (w.alloc (.cells (fB z n) e)) w.heap.size e (bB n z):=heap_alloc_new w _
theorem mkA {P:gD} {ops:Array Oper} {rest:List Oper} {o:Oper} {a:Act} {Q:Exit->Act->World->Prop} {w:World} {t e bytes:Nat} {z:Value} (E:ElT P t e bytes z) (hgd:o.guard=none) (l c:iM)
  (ho:o.op=.makeSlice t l c) (n:Nat) (hl:a.eval l=.int .i64 (n:Int)) (hc:a.eval c=.int .i64 (n:Int)) (hroom:n*bytes<=140737488355328)
  (h:wpList P ops Q rest (a.put o.dst (.slice (some ⟨w.heap.size,0,none⟩) n n)) (w.alloc (.cells (fB z n) e))):wpList P ops Q (o::rest) a w:=by
 refine wpList_plain hgd fun K hK'=>?_
 obtain⟨i,hi,hz,h2,h3⟩:=E.info;have hpos:=E.pos;have hn:n<=140737488355328:=aW (FM _ hpos) hroom;have hb:(i.bytes:Int)*(n:Int)<=281474976710656:=by
  rw[h3,<-Int.natCast_mul,oG];omega
 have hrun:=run_make (P:=P) w t e i z E.under hi hz .i64 .i64 (n:Int) (n:Int) (by omega) (lJ _) hb (by omega);rw[h2,Nat.mul_one,eG,E.cells,show madeCells #[z] n=fB z n from by rw[fB,<-toList_madeCells_one]] at hrun;unfold Oper.wp;simp[execOp,ho,hl,hc,hrun,Result.andThen];exact hK' _ _ h
theorem Arr.own {w:World} {b B:Nat} {e:TypeId} {l:List Value} (h:Arr w b e l) (hB:B<=b) (hl:l.length<=maxLen):Ow w B e (.slice (some ⟨b,0,none⟩) l.length l.length) l:=
 ⟨by simp,.inr ⟨b,l.length,l.toArray,rfl,hB,h,aA _,hl,by simp,by simp⟩⟩
def mkS (l:List UInt8):ByteArray:=⟨l.toArray⟩
@[simp] theorem fW (l:List UInt8):(mkS l).data.toList=l:=rfl
@[simp] theorem cP (l:List UInt8):(mkS l).size=l.length:=by simp[mkS,ByteArray.size]
theorem pL (s:ByteArray):mkS s.data.toList=s:=by cases s;simp[mkS]
theorem IB {s:ByteArray} {l:List UInt8} (h:s.data.toList=l):s=mkS l:=by rw[<-h,pL]
theorem pM (l m:List UInt8):mkS l++mkS m=mkS (l++m):=IB (by simp)
def eO (l:List UInt8):List Value:=l.map (fun b=>bO .u8 (b.toNat:Int))
@[simp] theorem rE (l:List UInt8):(eO l).length=l.length:=by simp[eO]
theorem IC (l m:List UInt8):eO (l++m)=eO l++eO m:=by simp[eO]
theorem BH {l:List UInt8} {k:Nat} {b:UInt8} (h:l[k]? =some b):(eO l)[k]? =some (.int .u8 (b.toNat:Int)):=by simp[eO,h]
theorem OR (l:List UInt8) (k:Nat) (b:UInt8):(eO l).set k (.int .u8 (b.toNat:Int))=eO (l.set k b):=by simp[eO,List.map_set]
def RdB (w:World) (v:Value) (l:List UInt8):Prop:=Rd w v l.length (eO l)
def OwB (w:World) (B:Nat) (v:Value) (l:List UInt8):Prop:=Ow w B 5 v (eO l)
theorem OwB.rd {w:World} {B:Nat} {v:Value} {l:List UInt8} (h:OwB w B v l):RdB w v l:=by
 unfold RdB;have:=Ow.rd h;rwa[rE] at this
theorem lQ {w:World} {v:Value} {l:List UInt8} (h:RdB w v l):(convert 47 9 v).run Tryz.prog w=.ok (.string (mkS l)) w:=by
 obtain⟨a,cap,rfl,h1,h2,h3⟩:=h;have key:∀(l:List UInt8),strOfNums (l.map (fun b=>(b.toNat:Int)))=mkS l:=fun l=>by
  simp[strOfNums,mkS,xJ,Function.comp_def]
 rcases h3 with h3|⟨b,off,rfl,hlt,hc⟩
 ·have hl:l=[]:=by cases l with|nil=>rfl|cons x l=>simp[eO] at h3
  subst hl
  cases a with
  |none=>exact run_convert_bytes_nil w _ _ Tryz.underlying47 Tryz.underlying5 0 cap _ Tryz.underlying9
  |some a=>
   rw[run_convert_bytes_string w _ _ _ _ _ _ Tryz.underlying47 Tryz.underlying5 Tryz.underlying9];rw[run_bytesToString w a _ cap [] (by simpa using run_loadCells_list (P:=Tryz.prog) w a [] (fun j u hj=>by simp at hj))];rfl
 ·rw[run_convert_bytes_arg w _ _ Tryz.underlying47 Tryz.underlying5 b off l.length cap (l.map (fun b=>(b.toNat:Int))) (by simp) (fun i hi=>by
   rw[hc i (by simpa using hi)];simp[eO,hi]) _ Tryz.underlying9,key]
theorem vQ:ElT Tryz.prog 47 5 1 (.int .u8 0):=ElT.mk' (by kernel_rfl) Tryz.underlying47 rfl (by decide)
theorem Arr.rdB {w:World} {b:Nat} {e:TypeId} {l:List UInt8} {n:Nat} (h:Arr w b e (eO l)) (hn:l.length=n) (hl:n<=maxLen):RdB w (.slice (some ⟨b,0,none⟩) n n) l:=by
 subst hn;have:=(h.own (B:=0) (aU _) (by simpa using hl)).rd;unfold RdB;simpa using this
theorem nT (s:ByteArray) (a b:Nat):s.extract a b=mkS ((s.data.toList.drop a).take (b-a)):=IB (Lib.extract_data s a b)
theorem BI (s:ByteArray) (q:Nat) (h:q<s.size):s.extract q (q+1)=mkS [s.data.toList.getD q 0]:=by
 rw[nT,show q+1-q=1 by omega];have hq:q<s.data.toList.length:=by simpa using h
 rw[List.drop_eq_getElem_cons hq];simp[fF,aN hq]
def nA {α:Type} (n:Nat) (z:α) (l:List α):List α:=l++bB (n-l.length) z
theorem OS {α:Type} (n:Nat) (z:α) (l:List α) (h:n<=l.length):nA n z l=l:=by simp[nA,Nat.sub_eq_zero_of_le h]
theorem aDc {α:Type} (n:Nat) (z:α) (l:List α) (h:l.length<=n):(nA n z l).length=n:=by simp[nA];omega
theorem aDd {α:Type} (n:Nat) (z x:α) (l:List α) (h:l.length<n):(nA n z l).set l.length x=nA n z (l++[x]):=by
 obtain⟨m,hm⟩:∃m,n-l.length=m+1:=⟨n-l.length-1,by omega⟩;have hm':n-(l++[x]).length=m:=by simp;omega
 simp only[nA,hm,hm',List.replicate_succ];simp
theorem aDe {α:Type} (n:Nat) (z:α) (l:List α) (k:Nat) (h:k<n) (hl:l.length<=n):∃x,(nA n z l)[k]? =some x:=
 ⟨_,aN (by rw[aDc n z l hl];exact h)⟩
theorem bS (w:World) (x:Value) (t:TypeId):(w.alloc (.cells #[x] t)).cell? ⟨w.heap.size,0,none⟩=some x:=by
 rw[World.cell?_alloc_at _ _ _ _ rfl];rfl
theorem xY (w:World) (e:TypeId) (xs:List Value) (n:Nat) (hn:xs.length=n) (hm:n<=maxLen):Rd (w.alloc (.cells xs.toArray e)) (.slice (some ⟨w.heap.size,0,none⟩) n n) n xs:=by
 subst hn;exact((Arr.new w e xs).own (B:=0) (aU _) hm).rd
theorem fX {k:IntKind} {a b:Int} (h:a=b):NI (.int k a)=.returned (.int k b):=by rw[h]
theorem sN {a b:Bool} (h:a=b):NI (.bool a)=.returned (.bool b):=by rw[h]
theorem tY {a b:ByteArray} (h:a=b):NI (.string a)=.returned (.string b):=by rw[h]
theorem bV {a b c:World} (h:Below a.heap.size a b) (k:Below b.heap.size b c):Below a.heap.size a c:=h.trans (k.mono h.size)
theorem bD {a b:World} (h:Below a.heap.size a b) (o:Obj):Below a.heap.size a (b.alloc o):=h.alloc h.size o
def gA (c n:Int):Int:=(if c<0 then-(c+1) else c)%n
theorem vU (c n:Int) (h:1<=n):0<=gA c n/\gA c n<n:=⟨Int.emod_nonneg _ (by omega),Int.emod_lt_of_pos _ (by omega)⟩
theorem yI (n:Nat) (k:Int) (hk:0<=k):∃m:Nat,(if k<(n:Int) then k else(n:Int))=(m:Int)/\(m:Int)<=k/\m<=n:=by
 by_cases h:k<(n:Int)
 ·obtain⟨m,rfl⟩:=Int.eq_ofNat_of_zero_le hk;exact⟨m,by rw[if_pos h],lJ _,by omega⟩
 ·exact⟨n,by rw[if_neg h],by omega,aA _⟩
end
section
def dI (s:List UInt8) (i:Nat):Bool:=(s.getD (i/8) 0).toNat.testBit (7-i%8)
def tZ (l:List Bool):Nat:=(dG 8).foldl (fun n k=>2*n+(l.getD k false).toNat) 0
def uA (l:List Bool):UInt8:=UInt8.ofNat (tZ l)
def aD (l:List Bool):List UInt8:=(dG ((l.length+7)/8)).map (fun j=>uA (l.drop (8*j)))
theorem gY (l:List Bool):(aD l).length=(l.length+7)/8:=by simp[aD]
theorem aDf (l:List Bool):tZ l<256:=by
 unfold tZ;simp only[dG,dG.loop,List.foldl];have h:∀b:Bool,b.toNat<=1:=fun b=>by cases b<;>decide
 have:=h (l.getD 0 false);have:=h (l.getD 1 false);have:=h (l.getD 2 false);have:=h (l.getD 3 false);have:=h (l.getD 4 false);have:=h (l.getD 5 false);have:=h (l.getD 6 false);have:=h (l.getD 7 false);omega
theorem aDg:∀b0 b1 b2 b3 b4 b5 b6 b7:Bool,∀k:Fin 8,(2*(2*(2*(2*(2*(2*(2*(2*0+b0.toNat)+b1.toNat)+b2.toNat)+b3.toNat)+b4.toNat)+b5.toNat)+b6.toNat)+b7.toNat).testBit (7-k.val)=[b0,b1,b2,b3,b4,b5,b6,b7][k]:=by decide+kernel
theorem aDh (l:List Bool) (k:Nat) (hk:k<8):(tZ l).testBit (7-k)=l.getD k false:=by
 unfold tZ;simp only[dG,dG.loop,List.foldl];have:=aDg (l.getD 0 false) (l.getD 1 false) (l.getD 2 false) (l.getD 3 false) (l.getD 4 false) (l.getD 5 false) (l.getD 6 false) (l.getD 7 false) ⟨k,hk⟩;rw[this];rcases(show k=0\/k=1\/k=2\/k=3\/k=4\/k=5\/k=6\/k=7 by omega) with rfl|rfl|rfl|rfl|rfl|rfl|rfl|rfl<;>rfl
theorem aDi (l:List Bool):(uA l).toNat=tZ l:=by
 unfold uA;rw[UInt8.toNat_ofNat'];exact Nat.mod_eq_of_lt (aDf l)
theorem sO (l:List Bool) (i:Nat):dI (aD l) i=l.getD i false:=by
 unfold dI
 by_cases h:i/8<(l.length+7)/8
 ·have e:(aD l).getD (i/8) 0=uA (l.drop (8*(i/8))):=by
   unfold aD;rw[aV,dY,pF h];rfl
  rw[e,aDi,aDh _ _ (Nat.mod_lt _ (by decide)),aV,List.getElem?_drop,aV]
  congr 2;omega
 ·have e:(aD l).getD (i/8) 0=0:=by
   rw[aV,dL (by rw[gY];omega)];rfl
  rw[e,aV,dL (by omega)];simp
theorem aDj {a b:UInt8} (h:∀k,k<8->a.toNat.testBit (7-k)=b.toNat.testBit (7-k)):a=b:=by
 apply UInt8.toNat_inj.1;apply Nat.eq_of_testBit_eq;intro i
 by_cases hi:i<8
 ·have:=h (7-i) (by omega);rw[show 7-(7-i)=i by omega] at this;exact this
 ·have ha:a.toNat<2^i:=dR a.toNat_lt (jC (by decide) (by omega));have hb:b.toNat<2^i:=dR b.toNat_lt (jC (by decide) (by omega));rw[FR ha,FR hb]
theorem OU {s t:List UInt8} (hl:s.length=t.length) (h:∀i,i<8*s.length->dI s i=dI t i):s=t:=by
 apply List.ext_getElem hl;intro j h1 h2;apply aDj;intro k hk;have:=h (8*j+k) (by omega);unfold dI at this;rw[show(8*j+k)/8=j by omega,show(8*j+k)%8=k by omega] at this
 simpa [fF,h1,h2] using this
def kW (s:List UInt8):List Bool:=(dG (8*s.length)).map (dI s)
theorem xZ (s:List UInt8):(kW s).length=8*s.length:=by simp[kW]
theorem sP (s:List UInt8) (i:Nat):(kW s)[i]? =if i<8*s.length then some (dI s i) else none:=by
 unfold kW;rw[dY]
 by_cases h:i<8*s.length
 ·rw[if_pos h,pF h];rfl
 ·rw[if_neg h,dL (by simpa using h)];rfl
theorem OW (s t:List UInt8) (i:Nat):dI (s++t) i=if i<8*s.length then dI s i else dI t (i-8*s.length):=by
 unfold dI
 by_cases h:i<8*s.length
 ·rw[if_pos h,aV,gS (by omega),aV]
 ·rw[if_neg h,aV,jY (by omega),aV];rw[show i/8-s.length=(i-8*s.length)/8 by omega,show(i-8*s.length)%8=i%8 by omega]
theorem aDl (l:List Bool):(kW (aD l)).take l.length=l:=by
 apply jA;intro i;rw[lW]
 by_cases h:i<l.length
 ·rw[if_pos h,sP,if_pos (by rw[gY];omega),sO,aV,aN h];rfl
 ·rw[if_neg h,dL (by omega)]
def bY (l:List Bool):Nat:=l.foldl (fun v b=>2*v+b.toNat) 0
theorem rF (l:List Bool) (b:Bool):bY (l++[b])=2*bY l+b.toNat:=by unfold bY;rw[List.foldl_append];rfl
theorem yA {α:Type} {P:List α->Prop} (h0:P []) (h1:∀l b,P l->P (l++[b])):∀l,P l:=fun l=>by
 have h:∀m:List α,P m.reverse:=fun m=>by
  induction m with
  |nil=>exact h0
  |cons b m ih=>rw[List.reverse_cons];exact h1 _ _ ih
 have:=h l.reverse;rwa[List.reverse_reverse] at this
theorem qE (l:List Bool):bY l<2^l.length:=by
 refine yA (P:=fun l=>bY l<2^l.length) (by decide) (fun l b ih=>?_) l
 ·rw[rF,aL,fK,nQ];have:b.toNat<=1:=by cases b<;>decide
  omega
def aY (v n:Nat):List Bool:=(dG n).map (fun i=>v.testBit (n-1-i))
theorem cY (v n:Nat):(aY v n).length=n:=by simp[aY]
theorem ID (v n i:Nat) (h:i<n):(aY v n)[i]? =some (v.testBit (n-1-i)):=by simp[aY,h]
theorem BJ (l:List Bool):∀i,i<l.length->(bY l).testBit i=l.getD (l.length-1-i) false:=by
 refine yA (P:=fun l=>∀i,i<l.length->(bY l).testBit i=l.getD (l.length-1-i) false) (fun i h=>by simp at h) (fun l b ih=>?_) l
 ·intro i hi;rw[rF];simp only[aL,fK] at hi ⊢
  cases i with
  |zero=>
   rw[aV,jY (by omega)];simp only[jZ,Nat.sub_zero,oI,List.getElem?_cons_zero,vG];rw[Nat.testBit_zero]
   cases b<;>simp<;>omega
  |succ i=>
   rw[Nat.testBit_succ,show(2*bY l+b.toNat)/2=bY l by cases b<;>simp<;>omega,ih i (by omega)];rw[aV,aV,gS (by omega)]
   congr 2;omega
theorem yB (l:List Bool):aY (bY l) l.length=l:=by
 apply List.ext_getElem (cY _ _);intro i h1 h2;have:=ID (bY l) l.length i h2;rw[aN h1] at this
 injection this with this
 rw[this,BJ l _ (by omega),aV,show l.length-1-(l.length-1-i)=i by omega,aN h2];rfl
theorem OY {v n:Nat} (h:v<2^n):bY (aY v n)=v:=by
 apply Nat.eq_of_testBit_eq;intro i
 by_cases hi:i<n
 ·rw[BJ _ _ (by rw[cY];exact hi),cY,aV,ID _ _ _ (by omega)];simp only[vG]
  congr 1;omega
 ·rw[FR (dR h (jC (by decide) (by omega)))];have:=qE (aY v n);rw[cY] at this;rw[FR (dR this (jC (by decide) (by omega)))]
def bU (l:List Int) (n:Nat):Nat:=l.countP (fun x=>x==(n:Int))
def fC (l:List Int):Nat->Nat
 |0=>0
 |n+1=>2*(fC l n+bU l n)
def fY (l:List Int):Prop:=2<=l.length/\l.length<=258/\∀x∈l,1<=x/\x<=20
instance (l:List Int):Decidable (fY l):=inferInstanceAs (Decidable (2<=l.length/\l.length<=258/\∀x∈l,1<=x/\x<=20))
def jR (l:List Int):Nat:=(l.map (fun x=>2^(20-x.toNat))).sum
def bL (l:List Int):Int:=if ¬fY l then 1 else if jR l>1048576 then 6 else 0
theorem eH {l:List Int} (h:bL l=0):fY l/\jR l<=1048576:=by
 unfold bL at h;split at h
 ·omega
 ·next h1=>
  split at h
  ·omega
  ·exact⟨dK.1 h1,by omega⟩
theorem aDm {l:List Int} (h1:fY l) (h2:jR l<=1048576):bL l=0:=by
 unfold bL;rw[if_neg (fun k=>k h1),if_neg (by omega)]
theorem OZ {l:List Int} (h:∀x∈l,1<=x):bU l 0=0:=by
 unfold bU;rw[List.countP_eq_zero];intro x hx;have:=h x hx;simp;omega
theorem PA {l:List Int} (h:∀x∈l,1<=x):fC l 1=0:=by unfold fC;rw[OZ h];rfl
def lB (l:List Int) (n:Nat):Nat:=(l.map (fun x=>if x.toNat<=n then 2^(n-x.toNat) else 0)).sum
theorem PB (l:List Int) (n:Nat) (h:∀x∈l,1<=x):lB l (n+1)=2*lB l n+bU l (n+1):=by
 induction l with
 |nil=>rfl
 |cons x l ih=>
  have ih:=ih (fun y hy=>h y (jD _ hy));have hx:=h x (lY ..);unfold lB bU at*
  simp only[pG,pV,NL];rw[ih]
  by_cases h1:x.toNat<=n
  ·rw[if_pos h1,if_pos (by omega),if_neg (by simp;omega),show n+1-x.toNat=n-x.toNat+1 by omega,nQ];omega
  ·rw[if_neg h1]
   by_cases h2:x.toNat=n+1
   ·rw[if_pos (by omega),if_pos (by simp;omega),h2,oI];omega
   ·rw[if_neg (by omega),if_neg (by simp;omega)];omega
theorem PC (l:List Int) (h:∀x∈l,1<=x):∀n,lB l n=fC l n+bU l n:=by
 intro n
 induction n with
 |zero=>
  have:lB l 0=bU l 0:=by
   induction l with
   |nil=>rfl
   |cons x l ih=>
    have ih:=ih (fun y hy=>h y (jD _ hy));have hx:=h x (lY ..);unfold lB bU at*
    simp only[pG,pV,NL,ih];rw[if_neg (by omega),if_neg (by simp;omega)];omega
  rw[this];unfold fC;omega
 |succ n ih=>rw[PB l n h,ih];rfl
theorem PD (l:List Int) (n k:Nat):lB l n*2^k<=lB l (n+k):=by
 unfold lB
 induction l with
 |nil=>simp
 |cons x l ih=>
  simp only[pG,pV];rw[Nat.add_mul];refine Nat.add_le_add ?_ ih
  by_cases h:x.toNat<=n
  ·rw[if_pos h,if_pos (by omega),<-Nat.pow_add,show n-x.toNat+k=n+k-x.toNat by omega];exact aA _
  ·rw[if_neg h];simp
theorem IE {l:List Int} (h:∀x∈l,1<=x/\x<=20):lB l 20=jR l:=by
 unfold lB jR
 congr 1
 apply List.map_congr_left;intro x hx;have:=h x hx;rw[if_pos (by omega)]
theorem PE {l:List Int} (h:∀x∈l,1<=x/\x<=20) (hk:jR l<=1048576) {n:Nat} (hn:n<=20):fC l n+bU l n<=2^n:=by
 rw[<-PC l (fun x hx=>(h x hx).1)];have:=PD l n (20-n);rw[show n+(20-n)=20 by omega,IE h] at this;have h2:2^n*2^(20-n)=1048576:=by rw[<-Nat.pow_add,show n+(20-n)=20 by omega]
 have h3:lB l n*2^(20-n)<=2^n*2^(20-n):=by omega
 exact Nat.le_of_mul_le_mul_right h3 (xL (by decide))
def pN (l:List Int):Nat->Int
 |0=>1-(bU l 0:Int)
 |n+1=>2*pN l n-(bU l (n+1):Int)
theorem IF (l:List Int) (h:∀x∈l,1<=x):∀n,pN l n=2^n-(lB l n:Int):=by
 intro n
 induction n with
 |zero=>
  have:lB l 0=bU l 0:=by rw[PC l h];unfold fC;omega
  unfold pN;rw[this];rfl
 |succ n ih=>
  unfold pN;rw[ih,PB l n h];rw[Int.pow_succ];push_cast;omega
theorem aDn {l:List Int} (h:∀x∈l,1<=x/\x<=20) {n:Nat} (hn:n<=20) (hl:pN l n<0):1048576<jR l:=by
 rw[IF l (fun x hx=>(h x hx).1)] at hl;have h2:2^n<lB l n:=by
  have:((2^n:Nat):Int)<(lB l n:Int):=by push_cast;omega
  exact Int.ofNat_lt.1 this
 have:=PD l n (20-n);rw[show n+(20-n)=20 by omega,IE h] at this;have h3:2^n*2^(20-n)=1048576:=by rw[<-Nat.pow_add,show n+(20-n)=20 by omega]
 have h4:(2^n+1)*2^(20-n)<=lB l n*2^(20-n):=Nat.mul_le_mul_right _ h2;have h5:0<2^(20-n):=xL (by decide);rw[Nat.add_mul] at h4;omega
theorem aDo {l:List Int} (h:∀x∈l,1<=x/\x<=20) (hl:∀n,n<=20->0<=pN l n):jR l<=1048576:=by
 have:=hl 20 (aA _);rw[IF l (fun x hx=>(h x hx).1),IE h] at this;have e:(2:Int)^20=1048576:=by decide
 omega
theorem aDp {l:List Int} (h:∀x∈l,1<=x) {n:Nat}:pN l n<=2^n:=by
 rw[IF l h];omega
def bG (l:List Int) (s:Nat):Nat:=(l.getD s 0).toNat
def fO (l:List Int) (s:Nat):Nat:=fC l (bG l s)+bU (l.take s) (bG l s)
theorem jG {l:List Int} (h:fY l) {s:Nat} (hs:s<l.length):1<=bG l s/\bG l s<=20/\l[s]? =some ((bG l s:Nat):Int):=by
 have:=h.2.2 l[s] (gT hs);unfold bG;rw[aV,aN hs];simp only[vG];exact⟨by omega,by omega,by congr 1;omega⟩
theorem BK {l:List Int} {s:Nat} (hs:s<l.length) {n:Nat} (hn:l[s]? =some (n:Int)):bU (l.take s) n<bU l n:=by
 unfold bU;have e:l=l.take s++l[s]::l.drop (s+1):=by rw[NM,jE]
 conv=>rhs;rw[e]
 rw[NN,NL];have:l[s]=(n:Int):=by rw[aN hs] at hn;injection hn
 rw[this];simp
theorem BM {l:List Int} (h:fY l) {s:Nat} (hs:s<l.length):fC l (bG l s)<=fO l s/\fO l s<fC l (bG l s)+bU l (bG l s):=by
 have:=BK hs (jG h hs).2.2;unfold fO;omega
theorem IG {l:List Int} (h:fY l) (hk:jR l<=1048576) {s:Nat} (hs:s<l.length):fO l s<2^bG l s:=by
 have:=BM h hs;have:=PE h.2.2 hk (jG h hs).2.1;omega
theorem aDq (l:List Int) (n k:Nat):(fC l n+bU l n)*2^(k+1)<=fC l (n+k+1):=by
 induction k with
 |zero=>show _<=2*(fC l n+bU l n);rw[oG];exact aA _
 |succ k ih=>
  show _<=2*(fC l (n+(k+1))+_);rw[nQ,<-vH];have e:n+(k+1)=n+k+1:=by omega
  rw[e];omega
def lR (l:List Int) (n m:Nat):List Nat:=(dG m).filter (fun s=>l.getD s 0==(n:Int))
theorem II (l:List Int) (n m:Nat):lR l n (m+1)=lR l n m++if l.getD m 0==(n:Int) then[m] else[]:=by
 unfold lR;rw[List.range_succ,List.filter_append]
 congr 1
 rw[List.filter_cons,List.filter_nil]
theorem BN {l:List Int} {m:Nat} (hm:m<l.length) (n:Nat):bU (l.take (m+1)) n=bU (l.take m) n+if l.getD m 0==(n:Int) then 1 else 0:=by
 unfold bU;rw[List.take_add_one,NN,aN hm,aV,aN hm];simp
theorem BO (l:List Int) (n:Nat):∀m,m<=l.length->(lR l n m).length=bU (l.take m) n:=by
 intro m
 induction m with
 |zero=>intro _;rfl
 |succ m ih=>
  intro hm;rw[II,aL,ih (by omega),BN (by omega)];split<;>rfl
theorem PF (l:List Int) (n:Nat):∀m,m<=l.length->∀k s,(lR l n m)[k]? =some s->s<m/\l.getD s 0=(n:Int)/\bU (l.take s) n=k:=by
 intro m
 induction m with
 |zero=>intro _ k s h;simp[lR] at h
 |succ m ih=>
  intro hm k s h;rw[II] at h
  by_cases hk:k<(lR l n m).length
  ·rw[gS hk] at h;obtain⟨h1,h2,h3⟩:=ih (by omega) k s h;exact⟨by omega,h2,h3⟩
  ·rw[jY (by omega)] at h;split at h
   ·next e=>
    have hk0:k-(lR l n m).length=0:=by
     rcases fJ (k-(lR l n m).length) with q|q
     ·exact q
     ·rw[dL (by simp;omega)] at h;simp at h
    rw[hk0] at h;simp at h;subst h;refine⟨by omega,by simpa using e,?_⟩;rw[<-BO l n m (by omega)];omega
   ·simp at h
def seg (s:List UInt8) (a n:Nat):List Bool:=((kW s).drop a).take n
theorem vR {s:List UInt8} {a n:Nat} (h:a+n<=8*s.length):(seg s a n).length=n:=by
 unfold seg;rw[aX,List.length_drop,xZ];omega
theorem aDr (l m:List Bool):bY (l++m)=bY l*2^m.length+bY m:=by
 refine yA (P:=fun m=>bY (l++m)=bY l*2^m.length+bY m) (by simp[bY]) (fun m b ih=>?_) m;rw[<-cF,rF,rF,ih,aL,fK,nQ,<-vH];omega
theorem PG {s:List UInt8} {a n k:Nat}:seg s a (n+k)=seg s a n++seg s (a+n) k:=by
 unfold seg;rw[List.take_add,List.drop_drop]
theorem aDs {s:List UInt8} {a n k:Nat} (h:a+(n+k)<=8*s.length):bY (seg s a (n+k))/2^k=bY (seg s a n):=by
 rw[PG,aDr,vR (by omega)];have h1:=qE (seg s (a+n) k);rw[vR (by omega)] at h1;rw[oG,Nat.mul_add_div (xL (by decide)),Nat.div_eq_of_lt h1,Nat.add_zero]
def gZ (l:List Int) (s:List UInt8) (a i:Nat):Prop:=a+bG l i<=8*s.length/\bY (seg s a (bG l i))=fO l i
instance (l:List Int) (s:List UInt8) (a i:Nat):Decidable (gZ l s a i):=inferInstanceAs (Decidable (_/\_))
theorem PH {l:List Int} (hl:fY l) {s:List UInt8} {a i j:Nat} (hi:i<l.length) (hj:j<l.length) (h1:gZ l s a i) (h2:gZ l s a j):¬bG l i<bG l j:=by
 intro hlt;obtain⟨k,hk⟩:∃k,bG l j=bG l i+(k+1):=⟨bG l j-bG l i-1,by omega⟩;have hw:=(BM hl hi).2;have hw2:=(BM hl hj).1;have hm:=aDq l (bG l i) k;have e:bG l i+k+1=bG l j:=by omega
 rw[e] at hm;have hv:=aDs (s:=s) (a:=a) (n:=bG l i) (k:=k+1) (by have:=h2.1;omega);rw[<-hk,h2.2,h1.2] at hv;have:fC l (bG l i)+bU l (bG l i)<=fO l j/2^(k+1):=by
  rw[Nat.le_div_iff_mul_le (xL (by decide))];omega
 omega
theorem BP {l:List Int} {i j n:Nat} (hij:i<j) (hj:j<l.length) (hi:l[i]? =some (n:Int)):bU (l.take i) n<bU (l.take j) n:=by
 have hi2:(l.take j)[i]? =some (n:Int):=by rw[lW,if_pos hij,hi]
 have h:=BK (l:=l.take j) (s:=i) (by rw[aX];omega) hi2;rwa[List.take_take,Nat.min_eq_left (by omega)] at h
theorem aDt {l:List Int} (hl:fY l) {s:List UInt8} {a i j:Nat} (hi:i<l.length) (hj:j<l.length) (h1:gZ l s a i) (h2:gZ l s a j):i=j:=by
 have e1:=PH hl hi hj h1 h2;have e2:=PH hl hj hi h2 h1;have e:bG l i=bG l j:=by omega
 have hv:=h1.2;rw[e,h2.2] at hv;unfold fO at hv;rw[e] at hv;rcases Nat.lt_trichotomy i j with h|h|h
 ·have hh:=(jG hl hi).2.2;rw[e] at hh;have:=BP h hj hh;omega
 ·exact h
 ·have hh:=(jG hl hj).2.2;have:=BP h hi hh;omega
def kF (l:List Int):Int:=l.foldl max 0
def bZ (l:List Int) (s:List UInt8) (at':Int):Int×Int×Int:=
 if bL l≠0 then(0,0,bL l)
 else if at'<0 then(0,0,1)
 else match (dG l.length).find? (fun i=>decide (gZ l s at'.toNat i)) with
  |some i=>((i:Int),at'+(bG l i:Int),0)
  |none=>if at'>8*(s.length:Int)-kF l then(0,0,2) else(0,0,3)
theorem uB {l:List Int} (hc:bL l=0) {s:List UInt8} {a i:Nat} (hi:i<l.length) (h:gZ l s a i):bZ l s (a:Int)=((i:Int),(a:Int)+(bG l i:Int),0):=by
 unfold bZ;rw[if_neg (fun k=>k hc),if_neg (by omega),eG];have e:(dG l.length).find? (fun i=>decide (gZ l s a i))=some i:=by
  cases q:(dG l.length).find? (fun i=>decide (gZ l s a i)) with
  |none=>
   have:=List.find?_eq_none.1 q i (jF.2 hi);simp at this;exact absurd h this
  |some j=>
   have h1:=List.find?_some q;have h2:=jF.1 (List.mem_of_find?_eq_some q);rw[aDt (eH hc).1 hi h2 h (by simpa using h1)]
 rw[e]
theorem uD {l:List Int} (hc:bL l=0) {s:List UInt8} {a:Nat} (h:∀i,i<l.length->¬gZ l s a i):bZ l s (a:Int)=if(a:Int)>8*(s.length:Int)-kF l then(0,0,2) else(0,0,3):=by
 unfold bZ;rw[if_neg (fun k=>k hc),if_neg (by omega),eG];have e:(dG l.length).find? (fun i=>decide (gZ l s a i))=none:=by
  rw[List.find?_eq_none];intro i hi
  simpa using h i (jF.1 hi)
 rw[e]
def iV (f:Nat->Int):Nat->Nat
 |0=>0
 |k+1=>if f k<f (iV f k) then k else iV f k
theorem yN (f:Nat->Int):∀k,0<k->iV f k<k/\(∀j,j<k->f (iV f k)<=f j)/\∀j,j<iV f k->f (iV f k)<f j
 |0,h=>by omega
 |1,_=>by
  have e:iV f 1=0:=by unfold iV;split<;>rfl
  rw[e];refine⟨by omega,fun j hj=>?_,fun j hj=>by omega⟩;rw[show j=0 by omega];exact lJ _
 |k+2,_=>by
  obtain⟨h1,h2,h3⟩:=yN f (k+1) (by omega);have e:iV f (k+2)=if f (k+1)<f (iV f (k+1)) then k+1 else iV f (k+1):=rfl;rw[e]
  by_cases h:f (k+1)<f (iV f (k+1))
  ·rw[if_pos h];refine⟨by omega,fun j hj=>?_,fun j hj=>?_⟩
   ·by_cases hj2:j=k+1
    ·rw[hj2];exact lJ _
    ·have:=h2 j (by omega);omega
   ·have:=h2 j (by omega);omega
  ·rw[if_neg h];refine⟨by omega,fun j hj=>?_,h3⟩
   by_cases hj2:j=k+1
   ·rw[hj2];omega
   ·exact h2 j (by omega)
inductive HT where
 |leaf (n:Nat)
 |node (n:Nat) (l r:HT)
def HT.root:HT->Nat
 |.leaf n=>n
 |.node n _ _=>n
def HT.leaves:HT->List Nat
 |.leaf n=>[n]
 |.node _ l r=>l.leaves++r.leaves
def HT.nums:HT->List Nat
 |.leaf n=>[n]
 |.node n l r=>n::(l.nums++r.nums)
def HT.high:HT->Nat
 |.leaf _=>0
 |.node _ l r=>max l.high r.high+1
def HT.deep:Nat->HT->List (Nat×Nat)
 |d,.leaf n=>[(n,d)]
 |d,.node _ l r=>l.deep (d+1)++r.deep (d+1)
theorem HT.leaves_sub:∀(t:HT),∀x∈t.leaves,x∈t.nums
 |.leaf _,x,h=>h
 |.node _ l r,x,h=>by
  unfold HT.leaves at h;unfold HT.nums;rcases cU.1 h with h|h
  ·exact jD _ (cU.2 (.inl (HT.leaves_sub l x h)))
  ·exact jD _ (cU.2 (.inr (HT.leaves_sub r x h)))
theorem HT.root_mem:∀t:HT,t.root∈t.nums
 |.leaf _=>dC.2 rfl
 |.node _ _ _=>lY ..
theorem HT.leaves_nodup:∀t:HT,t.nums.Nodup->t.leaves.Nodup
 |.leaf _,h=>h
 |.node _ l r,h=>by
  unfold HT.nums at h;obtain⟨_,h⟩:=NX.1 h;obtain⟨h1,h2,h3⟩:=vM.1 h;unfold HT.leaves;exact vM.2 ⟨HT.leaves_nodup l h1,HT.leaves_nodup r h2,fun a ha b hb=>h3 a (HT.leaves_sub l a ha) b (HT.leaves_sub r b hb)⟩
theorem HT.deep_map:∀(t:HT) (d:Nat),(t.deep d).map (·.1)=t.leaves
 |.leaf _,_=>rfl
 |.node _ l r,d=>by unfold HT.deep HT.leaves;rw[fI,HT.deep_map l,HT.deep_map r]
theorem HT.deep_add:∀(t:HT) (d e:Nat),t.deep (d+e)=(t.deep d).map (fun p=>(p.1,p.2+e))
 |.leaf _,_,_=>rfl
 |.node _ l r,d,e=>by
  unfold HT.deep;rw[fI,show d+e+1=d+1+e by omega,HT.deep_add l,HT.deep_add r]
theorem HT.deep_bd:∀(t:HT) (d:Nat),∀p∈t.deep d,d<=p.2/\p.2<=d+t.high
 |.leaf _,d,p,h=>by
  obtain rfl:=dC.1 h;exact⟨aA _,Nat.le_add_right _ _⟩
 |.node _ l r,d,p,h=>by
  unfold HT.deep at h;unfold HT.high;rcases cU.1 h with h|h
  ·have:=HT.deep_bd l _ p h;omega
  ·have:=HT.deep_bd r _ p h;omega
abbrev bQ:=List (Int×HT)
def bQ.least (r:bQ):Nat:=iV (fun i=>(r.getD i (0,.leaf 0)).1) r.length
def bM (r:bQ):(Int×HT)×bQ:=(r.getD (bQ.least r) (0,.leaf 0),r.eraseIdx (bQ.least r))
def nH (n:Nat) (r:bQ):bQ:=(bM (bM r).2).2++[((bM r).1.1+(bM (bM r).2).1.1,.node n (bM r).1.2 (bM (bM r).2).1.2)]
def bP (ws:List Int):Nat->bQ
 |0=>ws.zipIdx.map (fun p=>(p.1,.leaf p.2))
 |t+1=>nH (ws.length+t) (bP ws t)
theorem uO (r:bQ) (h:r≠[]):(bM r).1∈r/\(bM r).2.length+1=r.length/\((bM r).1::(bM r).2).Perm r/\(∀x∈r,(bM r).1.1<=x.1):=by
 have hl:0<r.length:=List.length_pos_iff.2 h;obtain⟨h1,h2,h3⟩:=yN (fun i=>(r.getD i (0,.leaf 0)).1) r.length hl;have hi:bQ.least r<r.length:=h1;have e1:(bM r).1=r[bQ.least r]:=by unfold bM;rw[aV,aN hi];rfl
 refine⟨by rw[e1];exact gT hi,?_,?_,fun x hx=>?_⟩
 ·show(r.eraseIdx (bQ.least r)).length+1=_;rw[List.length_eraseIdx,if_pos hi];omega
 ·rw[e1];show(r[bQ.least r]::r.eraseIdx (bQ.least r)).Perm r;rw[List.eraseIdx_eq_take_drop_succ];have:r=r.take (bQ.least r)++r[bQ.least r]::r.drop (bQ.least r+1):=by rw[NM,jE]
  conv=>rhs;rw[this]
  exact List.perm_middle.symm
 ·obtain⟨j,hj,rfl⟩:=qA.1 hx;have:=h2 j hj;rw[e1];simp only[aV] at this;rw[aN hj] at this;have e2:r[iV (fun i=>(r[i]?.getD (0,.leaf 0)).1) r.length]? =some r[bQ.least r]:=by
   rw[<-aN hi];unfold bQ.least;simp only[aV]
  rw[e2] at this;exact this
theorem aGd (n:Nat) (r:bQ) (h:2<=r.length):(nH n r).length+1=r.length:=by
 have h1:=(uO r (by intro e;rw[e] at h;simp at h)).2.1;have h2:=(uO (bM r).2 (by intro e;rw[e] at h1;simp at h1;omega)).2.1;unfold nH;rw[aL,fK];omega
theorem pR (ws:List Int):∀t,t<ws.length->(bP ws t).length+t=ws.length:=by
 intro t
 induction t with
 |zero=>intro _;unfold bP;simp
 |succ t ih=>
  intro h;have:=ih (by omega);have:=aGd (ws.length+t) (bP ws t) (by omega);show(nH _ _).length+_=_;omega
structure jT (k n:Nat) (r:bQ):Prop where
 nodup:(r.flatMap (fun p=>p.2.nums)).Nodup
 lt:∀p∈r,∀x∈p.2.nums,x<n
 leaves:∀j,j<k->∃p∈r,j∈p.2.leaves
 sorted:r.Pairwise (fun p q=>p.2.root<q.2.root)
theorem RM {α β:Type} {f:α->List β} {r s:List α} (h:r.Perm s):(r.flatMap f).Perm (s.flatMap f):=by
 induction h with
 |nil=>exact List.Perm.refl _
 |cons x _ ih=>simp only[sH];exact ih.append_left _
 |swap x y l=>simp only[sH,<-cF];exact NR.append_right _
 |trans _ _ ih1 ih2=>exact ih1.trans ih2
theorem qL (n:Nat) (r:bQ) (h:2<=r.length):∃a b s,(a::b::s).Perm r/\nH n r=s++[(a.1+b.1,.node n a.2 b.2)]/\(bM r).1=a/\(bM (bM r).2).1=b/\(bM (bM r).2).2=s/\(∀x∈s,b.1<=x.1)/\a.1<=b.1:=by
 have hp:=uO r (by intro e;rw[e] at h;simp at h);have hq:=uO (bM r).2 (by intro e;have:=hp.2.1;rw[e] at this;simp at this;omega);refine⟨_,_,_,?_,rfl,rfl,rfl,rfl,fun x hx=>?_,?_⟩
 ·exact(List.Perm.cons _ hq.2.2.1).trans hp.2.2.1
 ·exact hq.2.2.2 x (hq.2.2.1.mem_iff.1 (jD _ hx))
 ·exact hp.2.2.2 _ (hp.2.2.1.mem_iff.1 (jD _ hq.1))
theorem jT.step {k n:Nat} {r:bQ} (hg:jT k n r) (h:2<=r.length):jT k (n+1) (nH n r):=by
 obtain⟨a,b,s,hp,he,_,_,_,_,_⟩:=qL n r h;have hnd:((a::b::s).flatMap (fun p=>p.2.nums)).Nodup:=(RM hp).nodup_iff.2 hg.nodup;simp only[sH] at hnd;have ha:a∈r:=hp.mem_iff.1 (by simp);have hb:b∈r:=hp.mem_iff.1 (by simp);have hs:∀x∈s,x∈r:=fun x hx=>hp.mem_iff.1 (by simp[hx])
 rw[he];refine⟨?_,?_,?_,?_⟩
 ·have hpm:(n::((a.2.nums++b.2.nums)++s.flatMap (fun p=>p.2.nums))).Perm ((s++[(a.1+b.1,HT.node n a.2 b.2)]).flatMap (fun p=>p.2.nums)):=by
   rw[pZ,List.flatMap_singleton];show(n::((a.2.nums++b.2.nums)++_)).Perm (_++(n::(a.2.nums++b.2.nums)));rw[<-List.cons_append];exact NR
  rw[<-hpm.nodup_iff,NX];refine⟨fun hm=>?_,by rw[cF];exact hnd⟩;have:∃p∈r,n∈p.2.nums:=by
   rcases cU.1 hm with hm|hm
   ·rcases cU.1 hm with hm|hm
    ·exact⟨a,ha,hm⟩
    ·exact⟨b,hb,hm⟩
   ·obtain⟨p,hp1,hp2⟩:=NW.1 hm;exact⟨p,hs p hp1,hp2⟩
  obtain⟨p,hp1,hp2⟩:=this;have:=hg.lt p hp1 n hp2;omega
 ·intro p hp2 x hx;rcases cU.1 hp2 with q|q
  ·have:=hg.lt p (hs p q) x hx;omega
  ·obtain rfl:=dC.1 q;rcases kD.1 hx with rfl|hx
   ·omega
   ·rcases cU.1 hx with hx|hx
    ·have:=hg.lt a ha x hx;omega
    ·have:=hg.lt b hb x hx;omega
 ·intro j hj;obtain⟨p,hp1,hp2⟩:=hg.leaves j hj;have:=hp.mem_iff.2 hp1;simp only[kD] at this;rcases this with rfl|rfl|q
  ·exact⟨_,cU.2 (.inr (dC.2 rfl)),cU.2 (.inl hp2)⟩
  ·exact⟨_,cU.2 (.inr (dC.2 rfl)),cU.2 (.inr hp2)⟩
  ·exact⟨p,cU.2 (.inl q),hp2⟩
 ·have hsub:s.Sublist r:=by
   obtain⟨_,_,_,h3⟩:=qL n r h;have e:s=(r.eraseIdx (bQ.least r)).eraseIdx (bQ.least (r.eraseIdx (bQ.least r))):=by
    have:=he;unfold nH at this;have e2:=congrArg (fun l=>l.take (l.length-1)) this;simp only[aL,fK,jZ,List.take_left'] at e2;exact e2.symm
   rw[e];exact(NY ..).trans (NY ..)
  rw[List.pairwise_append];refine⟨hg.sorted.sublist hsub,List.pairwise_singleton _ _,fun p hp1 q hq=>?_⟩;obtain rfl:=dC.1 hq;exact hg.lt p (hs p hp1) _ (HT.root_mem _)
def jJ (deep:List Int) (all:List Nat):List Int:=all.foldl (fun d j=>d.set j (d.getD j 0+1)) deep
theorem CS:∀(all:List Nat) (deep:List Int),(jJ deep all).length=deep.length
 |[],_=>rfl
 |j::all,deep=>by
  show(jJ (deep.set j (deep.getD j 0+1)) all).length=_;rw[CS all,mW]
theorem vZ:∀(all:List Nat) (deep:List Int),all.Nodup->∀j,j<deep.length->(jJ deep all).getD j 0=deep.getD j 0+if j∈all then 1 else 0
 |[],deep,_,j,_=>by simp[jJ]
 |i::all,deep,h,j,hj=>by
  obtain⟨h1,h2⟩:=NX.1 h;show(jJ (deep.set i (deep.getD i 0+1)) all).getD j 0=_;rw[vZ all _ h2 j (by rw[mW];exact hj)]
  by_cases e:j=i
  ·subst e;rw[if_neg h1,if_pos (lY ..),aV,List.getElem?_set_self hj];simp
  ·rw[aV,qU (fun q=>e q.symm),<-aV]
   congr 1
   by_cases h3:j∈all
   ·rw[if_pos h3,if_pos (jD _ h3)]
   ·rw[if_neg h3,if_neg (fun q=>by rcases kD.1 q with q|q;exact e q;exact h3 q)]
def qM (k:Nat) (r:bQ) (deep:List Int):Prop:=deep.length=k/\∀p∈r,∀q∈p.2.deep 0,q.1<k/\deep.getD q.1 0=(q.2:Int)
theorem HT.deep_leaf (t:HT) (d:Nat):∀q∈t.deep d,q.1∈t.leaves:=fun q hq=>by
 rw[<-HT.deep_map t d];exact dU.2 ⟨q,hq,rfl⟩
theorem JM {r:bQ} {a b:Int×HT} {s:bQ} (hnd:(r.flatMap (fun p=>p.2.nums)).Nodup) (hp:(a::b::s).Perm r):
  (a.2.leaves++b.2.leaves).Nodup/\(∀p∈s,∀x∈p.2.nums,x ∉ a.2.nums/\x ∉ b.2.nums)/\(∀x∈a.2.nums,x ∉ b.2.nums)/\a.2.nums.Nodup/\b.2.nums.Nodup/\∀p∈s,p.2.nums.Nodup:=by
 have h:((a::b::s).flatMap (fun p=>p.2.nums)).Nodup:=(RM hp).nodup_iff.2 hnd;simp only[sH] at h;obtain⟨h1,h2,h3⟩:=vM.1 h;obtain⟨h4,h5,h6⟩:=vM.1 h2;have hs:∀p∈s,p.2.nums.Nodup:=fun p hp2=>by
  obtain⟨i,hi,rfl⟩:=qA.1 hp2;have e:s=s.take i++s[i]::s.drop (i+1):=by rw[NM,jE]
  rw[e,pZ,sH] at h5;exact(vM.1 (vM.1 h5).2.1).1
 refine⟨?_,fun p hp2 x hx=>⟨fun q=>h3 x q x (cU.2 (.inr (NW.2 ⟨p,hp2,hx⟩))) rfl,fun q=>h6 x q x (NW.2 ⟨p,hp2,hx⟩) rfl⟩,fun x hx q=>h3 x hx x (cU.2 (.inl q)) rfl,h1,h4,hs⟩;exact vM.2 ⟨HT.leaves_nodup _ h1,HT.leaves_nodup _ h4,fun x hx y hy=>h3 x (HT.leaves_sub _ x hx) y (cU.2 (.inl (HT.leaves_sub _ y hy)))⟩
theorem qM.step {k n:Nat} {r:bQ} (hg:jT k n r) (h:2<=r.length) {deep:List Int} (hd:qM k r deep):
  qM k (nH n r) (jJ deep ((bM r).1.2.leaves++(bM (bM r).2).1.2.leaves)):=by
 obtain⟨a,b,s,hp,he,ea,eb,_,_,_⟩:=qL n r h;obtain⟨h1,h2,_,_,_,_⟩:=JM hg.nodup hp;have ha:a∈r:=hp.mem_iff.1 (by simp);have hb:b∈r:=hp.mem_iff.1 (by simp);rw[ea,eb,he];refine⟨by rw[CS];exact hd.1,fun p hp2 q hq=>?_⟩;rcases cU.1 hp2 with q2|q2
 ·obtain⟨k1,k2⟩:=hd.2 p (hp.mem_iff.1 (by simp[q2])) q hq;refine⟨k1,?_⟩;rw[vZ _ _ h1 _ (by rw[hd.1];exact k1),if_neg,Int.add_zero,k2];intro hm;have hx:=HT.leaves_sub _ _ (HT.deep_leaf _ _ q hq);rcases cU.1 hm with hm|hm
  ·exact(h2 p q2 _ hx).1 (HT.leaves_sub _ _ hm)
  ·exact(h2 p q2 _ hx).2 (HT.leaves_sub _ _ hm)
 ·obtain rfl:=dC.1 q2;have hq':q∈a.2.deep (0+1)++b.2.deep (0+1):=hq;rw[HT.deep_add,HT.deep_add] at hq';rcases cU.1 hq' with hm|hm
  ·obtain⟨q0,hq0,rfl⟩:=dU.1 hm;obtain⟨k1,k2⟩:=hd.2 a ha q0 hq0;refine⟨k1,?_⟩;show(jJ deep (a.2.leaves++b.2.leaves)).getD q0.1 0=_;rw[vZ _ _ h1 _ (by rw[hd.1];exact k1),if_pos (cU.2 (.inl (HT.deep_leaf _ _ q0 hq0))),k2];rfl
  ·obtain⟨q0,hq0,rfl⟩:=dU.1 hm;obtain⟨k1,k2⟩:=hd.2 b hb q0 hq0;refine⟨k1,?_⟩;show(jJ deep (a.2.leaves++b.2.leaves)).getD q0.1 0=_;rw[vZ _ _ h1 _ (by rw[hd.1];exact k1),if_pos (cU.2 (.inr (HT.deep_leaf _ _ q0 hq0))),k2];rfl
def HT.upOk (up:Nat->Int):HT->Prop
 |.leaf _=>True
 |.node n l r=>up l.root=(n:Int)/\up r.root=(n:Int)/\l.upOk up/\r.upOk up
def HT.inc:HT->Prop
 |.leaf _=>True
 |.node n l r=>(∀x∈l.nums,x<n)/\(∀x∈r.nums,x<n)/\l.inc/\r.inc
theorem HT.upOk_congr {f g:Nat->Int}:∀t:HT,(∀x∈t.nums,x≠t.root->f x=g x)->t.nums.Nodup->t.upOk f->t.upOk g
 |.leaf _,_,_,_=>trivial
 |.node n l r,h,hn,⟨h1,h2,h3,h4⟩=>by
  unfold HT.nums at hn h;obtain⟨k0,k1⟩:=NX.1 hn;obtain⟨k2,k3,k4⟩:=vM.1 k1;have hl:∀x∈l.nums,f x=g x:=fun x hx=>h x (jD _ (cU.2 (.inl hx))) (fun e=>k0 (by rw[<-show x=n from e];exact cU.2 (.inl hx)))
  have hr:∀x∈r.nums,f x=g x:=fun x hx=>h x (jD _ (cU.2 (.inr hx))) (fun e=>k0 (by rw[<-show x=n from e];exact cU.2 (.inr hx)))
  exact⟨by rw[<-hl _ (HT.root_mem l)];exact h1,by rw[<-hr _ (HT.root_mem r)];exact h2,HT.upOk_congr l (fun x hx _=>hl x hx) k2 h3,HT.upOk_congr r (fun x hx _=>hr x hx) k3 h4⟩
def HUp (r:bQ) (up:Nat->Int):Prop:=∀p∈r,p.2.upOk up/\p.2.inc
theorem HUp.step {k n:Nat} {r:bQ} (hg:jT k n r) (h:2<=r.length) {up:Nat->Int} (hu:HUp r up):
  HUp (nH n r) (fun x=>if x=(bM (bM r).2).1.2.root then(n:Int) else if x=(bM r).1.2.root then(n:Int) else up x):=by
 obtain⟨a,b,s,hp,he,ea,eb,_,_,_⟩:=qL n r h;obtain⟨_,h2,h3,h4,h5,h6⟩:=JM hg.nodup hp;have ha:a∈r:=hp.mem_iff.1 (by simp);have hb:b∈r:=hp.mem_iff.1 (by simp);rw[ea,eb,he];have hab:a.2.root≠b.2.root:=fun e=>h3 _ (HT.root_mem _) (by rw[e];exact HT.root_mem _)
 intro p hp2;rcases cU.1 hp2 with q2|q2
 ·obtain⟨k1,k2⟩:=hu p (hp.mem_iff.1 (by simp[q2]));refine⟨HT.upOk_congr _ (fun x hx _=>?_) (h6 p q2) k1,k2⟩;rw[if_neg (fun e=>(h2 p q2 x hx).2 (by rw[e];exact HT.root_mem _)),if_neg (fun e=>(h2 p q2 x hx).1 (by rw[e];exact HT.root_mem _))]
 ·obtain rfl:=dC.1 q2;obtain⟨a1,a2⟩:=hu a ha;obtain⟨b1,b2⟩:=hu b hb;refine⟨⟨?_,?_,?_,?_⟩,?_,?_,a2,b2⟩
  ·show(if a.2.root=_ then _ else _)=_;rw[if_neg hab,if_pos rfl]
  ·show(if b.2.root=_ then _ else _)=_;rw[if_pos rfl]
  ·refine HT.upOk_congr _ (fun x hx hne=>?_) h4 a1;rw[if_neg (fun e=>h3 x hx (by rw[e];exact HT.root_mem _)),if_neg hne]
  ·refine HT.upOk_congr _ (fun x hx hne=>?_) h5 b1;rw[if_neg hne,if_neg (fun e=>h3 _ (HT.root_mem _) (by rw[<-e];exact hx))]
  ·exact fun x hx=>hg.lt a ha x hx
  ·exact fun x hx=>hg.lt b hb x hx
theorem HT.down {up D:Nat->Int}:∀(t:HT) (top:Nat),t.root<=top->t.upOk up->t.inc->(∀x,x<top->D x=D (up x).toNat+1)->∀d:Nat,D t.root=(d:Int)->∀q∈t.deep d,D q.1=(q.2:Int)
 |.leaf n,_,_,_,_,_,d,hd,q,hq=>by
  obtain rfl:=dC.1 hq;exact hd
 |.node n l r,top,ht,⟨h1,h2,h3,h4⟩,⟨i1,i2,i3,i4⟩,hD,d,hd,q,hq=>by
  have hl:=i1 _ (HT.root_mem l);have hr:=i2 _ (HT.root_mem r);have ht':n<=top:=ht;have hd':D n=(d:Int):=hd;have e1:D l.root=((d+1:Nat):Int):=by rw[hD _ (by omega),h1,eG,hd'];omega
  have e2:D r.root=((d+1:Nat):Int):=by rw[hD _ (by omega),h2,eG,hd'];omega
  rcases cU.1 hq with hq|hq
  ·exact HT.down l top (by omega) h3 i3 hD (d+1) e1 q hq
  ·exact HT.down r top (by omega) h4 i4 hD (d+1) e2 q hq
theorem jT.start (ws:List Int):jT ws.length ws.length (bP ws 0):=by
 have e:(bP ws 0).flatMap (fun p=>p.2.nums)=dG ws.length:=by
  unfold bP;rw[List.flatMap_map];have:(fun a:Int×Nat=>(HT.leaf a.2).nums)=fun a=>[a.2]:=rfl
  simp only[this];rw[<-List.map_eq_flatMap];apply jA;intro i
  by_cases h:i<ws.length<;>simp[h]
 have hmem:∀p∈bP ws 0,∃j,j<ws.length/\p=(ws.getD j 0,.leaf j):=fun p hp=>by
  unfold bP at hp;obtain⟨q,hq,rfl⟩:=dU.1 hp;obtain⟨i,hi,he⟩:=qA.1 hq;simp at hi he;refine⟨i,hi,?_⟩;rw[<-he];simp[hi]
 refine⟨by rw[e];exact List.nodup_range,fun p hp x hx=>?_,fun j hj=>?_,?_⟩
 ·obtain⟨j,hj,rfl⟩:=hmem p hp;obtain rfl:=dC.1 hx;exact hj
 ·refine⟨(ws.getD j 0,.leaf j),?_,dC.2 rfl⟩;unfold bP;refine dU.2 ⟨(ws.getD j 0,j),qA.2 ⟨j,by simpa using hj,by simp[hj]⟩,rfl⟩
 ·unfold bP;rw[List.pairwise_iff_getElem];intro i j hi hj hij;simp at hi hj ⊢;exact hij
theorem bQ.start_mem {ws:List Int} {p:Int×HT} (hp:p∈bP ws 0):∃j,j<ws.length/\p=(ws.getD j 0,.leaf j):=by
 unfold bP at hp;obtain⟨q,hq,rfl⟩:=dU.1 hp;obtain⟨i,hi,he⟩:=qA.1 hq;simp at hi he;refine⟨i,hi,?_⟩;rw[<-he];simp[hi]
theorem jT.all (ws:List Int):∀t,t<ws.length->jT ws.length (ws.length+t) (bP ws t)
 |0,_=>jT.start ws
 |t+1,h=>(jT.all ws t (by omega)).step (by have:=pR ws t (by omega);omega)
def gO (ws:List Int):Nat->List Int
 |0=>bB ws.length 0
 |t+1=>jJ (gO ws t) ((bM (bP ws t)).1.2.leaves++(bM (bM (bP ws t)).2).1.2.leaves)
theorem rN (ws:List Int):∀t,(gO ws t).length=ws.length
 |0=>by simp[gO]
 |t+1=>by unfold gO;rw[CS,rN ws t]
theorem qM.all (ws:List Int):∀t,t<ws.length->qM ws.length (bP ws t) (gO ws t)
 |0,_=>⟨by simp[gO],fun p hp q hq=>by
   obtain⟨j,hj,rfl⟩:=bQ.start_mem hp;obtain rfl:=dC.1 hq;exact⟨hj,by simp[gO,hj]⟩⟩
 |t+1,h=>(qM.all ws t (by omega)).step (jT.all ws t (by omega)) (by have:=pR ws t (by omega);omega)
def iJ (ws:List Int):Nat->Nat->Int
 |0=>fun _=>0
 |t+1=>fun x=>if x=(bM (bM (bP ws t)).2).1.2.root then((ws.length+t:Nat):Int) else if x=(bM (bP ws t)).1.2.root then((ws.length+t:Nat):Int) else iJ ws t x
theorem HUp.all (ws:List Int):∀t,t<ws.length->HUp (bP ws t) (iJ ws t)
 |0,_=>fun p hp=>by
   obtain⟨j,hj,rfl⟩:=bQ.start_mem hp;exact⟨trivial,trivial⟩
 |t+1,h=>(HUp.all ws t (by omega)).step (jT.all ws t (by omega)) (by have:=pR ws t (by omega);omega)
def kL (ws:List Int):List Int:=gO ws (ws.length-1)
theorem CT (ws:List Int) (h:2<=ws.length):∃p,bP ws (ws.length-1)=[p]/\p.2.root=2*ws.length-2:=by
 obtain⟨t,ht⟩:∃t,ws.length=t+2:=⟨ws.length-2,by omega⟩;have hl:=pR ws (ws.length-1) (by omega);obtain⟨p,hp⟩:=List.length_eq_one_iff.1 (show(bP ws (ws.length-1)).length=1 by omega);refine⟨p,hp,?_⟩;rw[ht,show t+2-1=t+1 by omega] at hp;have he:bP ws (t+1)=nH (ws.length+t) (bP ws t):=rfl;obtain⟨a,b,s,_,h2,_⟩:=qL (ws.length+t) (bP ws t) (by have:=pR ws t (by omega);omega);rw[he,h2] at hp;have:s=[]:=by
  have:=congrArg tM hp;simp at this;exact this
 rw[this] at hp;simp at hp;rw[<-hp];show ws.length+t=_;omega
def HT.wt (f:Nat->Int):HT->Int
 |.leaf n=>f n
 |.node _ l r=>l.wt f+r.wt f
def HT.kids (f:Nat->Int) (x:Int):HT->Prop
 |.leaf _=>True
 |.node _ l r=>l.wt f<=x/\r.wt f<=x
def HT.even (f:Nat->Int):HT->Prop
 |.leaf n=>1<=f n
 |.node _ l r=>l.even f/\r.even f/\l.kids f (r.wt f)/\r.kids f (l.wt f)
def kM:Nat->Int
 |0=>1
 |1=>2
 |n+2=>kM (n+1)+kM n
theorem JN:∀n,1<=kM n
 |0=>by decide
 |1=>by decide
 |n+2=>by have:=JN (n+1);have:=JN n;unfold kM;omega
theorem aGf (n:Nat):kM n<=kM (n+1):=by
 cases n with
 |zero=>decide
 |succ n=>have:=JN n;show _<=kM (n+1)+kM n;omega
theorem RN {m n:Nat} (h:m<=n):kM m<=kM n:=by
 induction h with
 |refl=>exact lJ _
 |step _ ih=>exact Int.le_trans ih (aGf _)
theorem HT.wt_pos {f:Nat->Int}:∀t:HT,t.even f->1<=t.wt f
 |.leaf _,h=>h
 |.node _ l r,h=>by have:=HT.wt_pos l h.1;have:=HT.wt_pos r h.2.1;unfold HT.wt;omega
theorem HT.wt_high2 {f:Nat->Int}:∀t:HT,t.even f->kM t.high<=t.wt f/\∀x,1<=x->t.kids f x->kM (t.high+1)<=t.wt f+x
 |.leaf n,h=>⟨h,fun x hx _=>by
   have h1:1<=f n:=h;show(2:Int)<=f n+x;omega⟩
 |.node n l r,h=>by
  obtain⟨hl,hl2⟩:=HT.wt_high2 l h.1;obtain⟨hr,hr2⟩:=HT.wt_high2 r h.2.1;have e1:=hl2 _ (HT.wt_pos r h.2.1) h.2.2.1;have e2:=hr2 _ (HT.wt_pos l h.1) h.2.2.2;have first:kM (max l.high r.high+1)<=l.wt f+r.wt f:=by
   rcases Nat.le_total l.high r.high with q|q
   ·rw[Nat.max_eq_right q];omega
   ·rw[Nat.max_eq_left q];omega
  refine⟨first,fun x _ hk=>?_⟩;show kM (max l.high r.high+1)+kM (max l.high r.high)<=l.wt f+r.wt f+x;have k1:l.wt f<=x:=hk.1;have k2:r.wt f<=x:=hk.2;have:kM (max l.high r.high)<=x:=by
   rcases Nat.le_total l.high r.high with q|q
   ·rw[Nat.max_eq_right q];omega
   ·rw[Nat.max_eq_left q];omega
  omega
theorem HT.wt_high {f:Nat->Int} (t:HT) (h:t.even f):kM t.high<=t.wt f:=(HT.wt_high2 t h).1
theorem aGg {l m:List Int} (h:l.Perm m):l.sum=m.sum:=by
 induction h with
 |nil=>rfl
 |cons x _ ih=>simp only[pV];omega
 |swap x y l=>simp only[pV];omega
 |trans _ _ h1 h2=>omega
structure rO (f:Nat->Int) (r:bQ):Prop where
 wt:∀p∈r,p.1=p.2.wt f
 even:∀p∈r,p.2.even f
 kids:∀p∈r,∀q∈r,p.2.kids f (q.2.wt f)
theorem HT.kids_le {f:Nat->Int} {x y:Int} (h:x<=y):∀t:HT,t.kids f x->t.kids f y
 |.leaf _,_=>trivial
 |.node _ _ _,⟨h1,h2⟩=>⟨by omega,by omega⟩
theorem rO.step {f:Nat->Int} {n:Nat} {r:bQ} (hg:rO f r) (h:2<=r.length):rO f (nH n r)/\((nH n r).map (·.1)).sum=(r.map (·.1)).sum:=by
 obtain⟨a,b,s,hp,he,ea,eb,es,hlast,hab⟩:=qL n r h;have ha:a∈r:=hp.mem_iff.1 (by simp);have hb:b∈r:=hp.mem_iff.1 (by simp);have hs:∀x∈s,x∈r:=fun x hx=>hp.mem_iff.1 (by simp[hx])
 have wa:=hg.wt a ha;have wb:=hg.wt b hb;have pa:=HT.wt_pos _ (hg.even a ha);have pb:=HT.wt_pos _ (hg.even b hb);rw[he];refine⟨⟨fun p hp2=>?_,fun p hp2=>?_,fun p hp2 q hq=>?_⟩,?_⟩
 ·rcases cU.1 hp2 with q|q
  ·exact hg.wt p (hs p q)
  ·obtain rfl:=dC.1 q;show a.1+b.1=a.2.wt f+b.2.wt f;omega
 ·rcases cU.1 hp2 with q|q
  ·exact hg.even p (hs p q)
  ·obtain rfl:=dC.1 q;exact⟨hg.even a ha,hg.even b hb,hg.kids a ha b hb,hg.kids b hb a ha⟩
 ·have hq1:∀u∈r,u.2.kids f (q.2.wt f):=fun u hu=>by
   rcases cU.1 hq with k|k
   ·exact hg.kids u hu q (hs q k)
   ·obtain rfl:=dC.1 k;exact HT.kids_le (show a.2.wt f<=a.2.wt f+b.2.wt f by omega) _ (hg.kids u hu a ha)
  rcases cU.1 hp2 with k|k
  ·exact hq1 p (hs p k)
  ·obtain rfl:=dC.1 k;have hbq:b.2.wt f<=q.2.wt f:=by
    rcases cU.1 hq with k2|k2
    ·have:=hlast q k2;rw[<-wb,<-hg.wt q (hs q k2)];exact this
    ·obtain rfl:=dC.1 k2;show _<=a.2.wt f+b.2.wt f;omega
   exact⟨by omega,hbq⟩
 ·have:(r.map (·.1)).sum=((a::b::s).map (·.1)).sum:=(aGg (hp.map _)).symm;rw[this];simp only[fI,pG,List.map_nil,List.sum_append,pV,List.sum_nil];omega
theorem rO.all (ws:List Int) (h1:∀x∈ws,1<=x):∀t,t<ws.length->rO (fun j=>ws.getD j 0) (bP ws t)/\((bP ws t).map (·.1)).sum=ws.sum
 |0,_=>by
  refine⟨⟨fun p hp=>?_,fun p hp=>?_,fun p hp q _=>?_⟩,?_⟩
  ·obtain⟨j,hj,rfl⟩:=bQ.start_mem hp;rfl
  ·obtain⟨j,hj,rfl⟩:=bQ.start_mem hp;show 1<=ws.getD j 0;rw[aV,aN hj];exact h1 _ (gT hj)
  ·obtain⟨j,hj,rfl⟩:=bQ.start_mem hp;trivial
  ·congr 1
   unfold bP;rw[xJ];apply jA;intro i
   by_cases h:i<ws.length<;>simp[h]
 |t+1,h=>by
  obtain⟨k1,k2⟩:=rO.all ws h1 t (by omega);obtain⟨k3,k4⟩:=k1.step (n:=ws.length+t) (by have:=pR ws t (by omega);omega);exact⟨k3,by rw[<-k2];exact k4⟩
theorem aGh (ws:List Int) (h:2<=ws.length) (h1:∀x∈ws,1<=x) (hs:ws.sum<28657):(kL ws).length=ws.length/\∀x∈kL ws,1<=x/\x<=20:=by
 refine⟨rN _ _,fun x hx=>?_⟩;obtain⟨p,hp,hr⟩:=CT ws h;have hg:=jT.all ws (ws.length-1) (by omega);have hd:=qM.all ws (ws.length-1) (by omega);obtain⟨he,hsum⟩:=rO.all ws h1 (ws.length-1) (by omega);rw[hp] at hg hd he hsum;obtain⟨j,hj,rfl⟩:=qA.1 hx;have hj2:j<ws.length:=by have:=rN ws (ws.length-1);unfold kL at hj;omega
 obtain⟨p',hp',hj'⟩:=hg.leaves j hj2;obtain rfl:=dC.1 hp';rw[<-HT.deep_map p'.2 0] at hj';obtain⟨q,hq,hqj⟩:=dU.1 hj';have e2:=(hd.2 p' (dC.2 rfl) q hq).2;rw[show q.1=j from hqj] at e2;have e3:(kL ws)[j]=(q.2:Int):=by
  rw[<-e2,aV,show(gO ws (ws.length-1))[j]? =some (kL ws)[j] from aN hj];rfl
 rw[e3];have hb:=HT.deep_bd p'.2 0 q hq;have hw:=HT.wt_high p'.2 (he.even p' (dC.2 rfl));have hwt:=he.wt p' (dC.2 rfl);have hsum':p'.1=ws.sum:=by simpa using hsum
 have hh:p'.2.high<=20:=by
  rcases Nat.lt_or_ge 20 p'.2.high with k|k
  ·have:=RN (show 21<=p'.2.high from k);have e:kM 21=28657:=by decide
   omega
  ·exact k
 refine⟨?_,by omega⟩;rcases fJ q.2 with k|k
 ·exfalso
  cases ht:p'.2 with
  |leaf m=>
   have hroot:m=2*ws.length-2:=by rw[<-hr,ht];rfl
   obtain⟨p0,hp0,h0⟩:=hg.leaves 0 (by omega);obtain⟨p2,hp2,h2⟩:=hg.leaves 1 (by omega);obtain rfl:=dC.1 hp0;obtain rfl:=dC.1 hp2;rw[ht] at h0 h2;have:=dC.1 h0;have:=dC.1 h2;omega
  |node m l r=>
   rw[ht] at hq;rcases cU.1 hq with hq|hq
   ·have:=HT.deep_bd l _ q hq;omega
   ·have:=HT.deep_bd r _ q hq;omega
 ·omega
end
end Go.Proofs.YtmcogmmncfihhaaGreatDoor
