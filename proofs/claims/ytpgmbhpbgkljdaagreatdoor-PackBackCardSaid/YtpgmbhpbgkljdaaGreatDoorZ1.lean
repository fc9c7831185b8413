/-
  Texts put together (part 1): the walks and the plain laws on which the statement stands.
-/
import Derived.Test.YtpgmbhpbgkljdaaGreatDoorRows
import Derived.WalkKit
import Derived.WalkSpells
import Derived.WalkLawsBesides
import Derived.Deep.QuietTactic
import Derived.BigQuiet
import Derived.Deep.LoopGhost
import Derived.Lib.Strings
import Derived.Deep.RegionWith
import Derived.Deep.DeepCutAuto
set_option maxRecDepth 100000
set_option maxHeartbeats 12800000
open Array renaming getElem?_eq_some_iff->gQ
open Decidable renaming not_not->dK
open Go renaming Operand->iM,Program->gD,heap_alloc_new->FL
open Go.Ending renaming returned->NI
open Go.Value renaming int->bO
open Go.World.ownsRow renaming alloc->aBy,kept->NH,lt->aT4
open Int renaming le_refl->lJ,toNat_natCast->eG
open List renaming countP_append->NN,countP_cons->NL,ext_getElem?->jA,getD->fF,getD_eq_getElem?_getD->aV,getElem?_append_left->gS,getElem?_append_right->jY,getElem?_eq_getElem->aN,getElem?_eq_none->dL,getElem?_map->dY,getElem?_range->pF,getElem?_set_ne->qU,getElem?_take->lW,length_append->aL,length_singleton->fK,length_take->aX,map_cons->pG,mem_cons_of_mem->jD,mem_cons_self->lY,mem_range->jF,range->dG,replicate->bB,sum_cons->pV
open Nat renaming add_sub_cancel->jZ,eq_zero_or_pos->fJ,le_mul_of_pos_right->FM,le_refl->aA,le_trans->aW,lt_of_le_of_lt->xI,lt_of_lt_of_le->dR,mod_eq_of_lt->kU,mod_lt->jQ,mul_assoc->vH,mul_comm->oG,pow_add->aUb,pow_le_pow_right->jC,pow_pos->xL,pow_succ->nQ,sub_self->oI,testBit_lt_two_pow->FR,zero_le->aU
open Option renaming getD_some->vG
open UInt8 renaming ofNat->eK,toNat_ofNat'->nP
namespace Go.Proofs.YtpgmbhpbgkljdaaGreatDoor
section
open Go.RowKit
theorem hid {p:Prop} (h:p):Hid p:=h
def Rd (w:World) (v:Value) (n:Nat) (xs:List Value):Prop:=
 ∃a cap,v=.slice a n cap/\n<=cap/\cap<=maxLen/\
  (xs=[]\/∃b off,a=some ⟨b,off,none⟩/\b<w.heap.size/\∀j,j<xs.length->w.cell? ⟨b,off+j,none⟩=some (xs.getD j undef))
def RdI (w:World) (v:Value) (l:List Int):Prop:=Rd w v l.length (l.map (bO .i64))
theorem lP {W w1:World} (hb:Below W.heap.size W w1):(∀b o,b<W.heap.size->w1.cell? ⟨b,o,none⟩=W.cell? ⟨b,o,none⟩)/\(∀b o,b<W.heap.size->w1.frozen? ⟨b,o,none⟩=W.frozen? ⟨b,o,none⟩):=
 ⟨fun b o h=>hb.cell (p:=⟨b,o,none⟩) h,fun b o h=>hb.frozen (p:=⟨b,o,none⟩) h⟩
theorem Rd.below {w w':World} {v:Value} {n:Nat} {xs:List Value} (h:Rd w v n xs) (hb:Below w.heap.size w w'):Rd w' v n xs:=by
 obtain⟨a,cap,rfl,h1,h2,h3⟩:=h;refine⟨a,cap,rfl,h1,h2,?_⟩;rcases h3 with h3|⟨b,off,rfl,hlt,hc⟩
 ·exact .inl h3
 ·exact .inr ⟨b,off,rfl,dR hlt hb.size,fun j hj=>by rw[(lP hb).1 _ _ hlt];exact hc j hj⟩
theorem RdI.below {w w':World} {v:Value} {l:List Int} (h:RdI w v l) (hb:Below w.heap.size w w'):RdI w' v l:=Rd.below h hb
theorem RdI.open {w:World} {v:Value} {l:List Int} (h:RdI w v l):
  ∃a cap,v=.slice a l.length cap/\l.length<=cap/\cap<=maxLen/\
   (0<l.length->∃b off,a=some ⟨b,off,none⟩/\b<w.heap.size/\∀j x,l[j]? =some x->w.cell? ⟨b,off+j,none⟩=some (.int .i64 x)):=by
 obtain⟨a,cap,rfl,h1,h2,h3⟩:=h;refine⟨a,cap,rfl,h1,h2,fun hne=>?_⟩;rcases h3 with h3|⟨b,off,rfl,hlt,hc⟩
 ·have:=congrArg List.length h3;simp at this;simp[this] at hne
 ·refine⟨b,off,rfl,hlt,fun j x hx=>?_⟩;obtain⟨hj,hx'⟩:=List.getElem?_eq_some_iff.1 hx;have:=hc j (by simpa using hj);rw[this];simp[aN hj,hx']
theorem dH {l:List Int} {k:Nat} (h:k<l.length):∃x,l[k]? =some x:=⟨_,aN h⟩
def WfI (l:List Int):Prop:=∀x∈l,-9223372036854775808<=x/\x<=9223372036854775807
theorem Rd.of_own {w:World} {base e size n:Nat} {v:Value} {xs:List Value} (h:w.ownsRow base e size v n xs):Rd w v n xs:=by
 obtain⟨hl,h⟩:=h;rcases h with⟨rfl,rfl⟩|⟨g,cap,cur,rfl,hb,hg,hnc,hcm,hcs,ht⟩
 ·refine⟨none,0,rfl,aA _,by simp[maxLen],.inl ?_⟩
  cases xs with
  |nil=>rfl
  |cons x l=>simp at hl
 ·refine⟨_,cap,rfl,hnc,hcm,.inr ⟨g,0,rfl,(gQ.1 hg).1,fun j hj=>?_⟩⟩;rw[Nat.zero_add,cell_of_row w g j cur e (0,0) hg];have:xs[j]? =cur[j]? :=by
   rw[<-ht,lW,if_pos (by rw[<-hl];exact hj)];simp
  rw[<-this,aN hj];simp[fF,hj]
theorem RdI.of_own {w:World} {base e n:Nat} {v:Value} {l:List Int} (h:w.ownsRow base e 1 v n (l.map (bO .i64))):RdI w v l:=by
 have hn:n=l.length:=by have:=h.1;simp at this;omega
 subst hn;exact Rd.of_own h
theorem GZ {w w':World} {B base e size n:Nat} {v:Value} {xs:List Value} (h:w.ownsRow base e size v n xs) (hb:Below B w w') (hB:w.heap.size<=B):w'.ownsRow base e size v n xs:=by
 refine⟨h.1,?_⟩;rcases h.2 with hn|⟨g,cap,cur,rfl,h1,hg,rest⟩
 ·exact .inl hn
 ·refine .inr ⟨g,cap,cur,rfl,h1,?_,rest⟩;rw[hb.block g (dR (gQ.1 hg).1 hB)];exact hg
theorem IA {w:World} {base base' e size n:Nat} {v:Value} {xs:List Value} (h:w.ownsRow base e size v n xs) (hb:base'<=base):w.ownsRow base' e size v n xs:=by
 refine⟨h.1,?_⟩;rcases h.2 with hn|⟨g,cap,cur,rfl,h1,rest⟩
 ·exact .inl hn
 ·exact .inr ⟨g,cap,cur,rfl,aW hb h1,rest⟩
def Arr (w:World) (b:Nat) (e:TypeId) (l:List Value):Prop:=w.heap[b]? =some (.cells l.toArray e (0,0))
theorem Arr.lt {w:World} {b:Nat} {e:TypeId} {l:List Value} (h:Arr w b e l):b<w.heap.size:=(gQ.1 h).1
theorem Arr.cell {w:World} {b:Nat} {e:TypeId} {l:List Value} (h:Arr w b e l) {i:Nat} {v:Value} (hi:l[i]? =some v):w.cell? ⟨b,i,none⟩=some v:=by
 rw[cell_of_row w b i _ e (0,0) h];simpa using hi
theorem Arr.free {w:World} {b:Nat} {e:TypeId} {l:List Value} (h:Arr w b e l) (i:Nat):w.frozen? ⟨b,i,none⟩=false:=frozen_of_row w b i _ e h
theorem Arr.set {w:World} {b:Nat} {e:TypeId} {l:List Value} (h:Arr w b e l) (i:Nat) (v:Value):Arr (w.setCell ⟨b,i,none⟩ v) b e (l.set i v):=by
 unfold Arr;rw[heap_setCell_same w b i _ e v h];simp
theorem Arr.other {w:World} {b:Nat} {e:TypeId} {l:List Value} (h:Arr w b e l) (p:Addr) (hp:p.block≠b) (v:Value):Arr (w.setCell p v) b e l:=by
 unfold Arr;rw[heap_setCell_other w p b v (fun e=>hp e.symm)];exact h
theorem Arr.below {w w':World} {B b:Nat} {e:TypeId} {l:List Value} (h:Arr w b e l) (hb:Below B w w') (hB:b<B):Arr w' b e l:=by
 unfold Arr;rw[hb.block b hB];exact h
theorem Arr.alloc {w:World} {b:Nat} {e:TypeId} {l:List Value} (h:Arr w b e l) (o:Obj):Arr (w.alloc o) b e l:=by
 unfold Arr;rw[Below.heap_alloc w o b h.lt];exact h
theorem Arr.drewN {w:World} {b:Nat} {e:TypeId} {l:List Value} (h:Arr w b e l) (n:Nat):Arr (w.drewN n) b e l:=h
theorem Arr.grown {w w':World} {b:Nat} {e:TypeId} {l:List Value} {row:Option Nat} (h:Arr w b e l) (hg:w.grownBy w' row) (hne:some b≠row):Arr w' b e l:=by
 unfold Arr;rw[hg.block b h.lt hne];exact h
theorem Arr.new (w:World) (e:TypeId) (l:List Value):Arr (w.alloc (.cells l.toArray e)) w.heap.size e l:=FL w _
def tab (n:Nat) (f:Nat->Int):List Value:=(dG n).map (fun d=>bO .i64 (f d))
theorem iS (n:Nat) (f:Nat->Int) (i:Nat) (h:i<n):(tab n f)[i]? =some (.int .i64 (f i)):=by simp[tab,h]
theorem qD (n:Nat) (f f':Nat->Int) (i:Nat) (v:Int) (h:∀d,d<n->f' d=if d=i then v else f d):(tab n f).set i (.int .i64 v)=tab n f':=by
 apply jA;intro j
 by_cases hj:j<n
 ·by_cases hij:i=j
  ·subst hij;simp[tab,hj,h i hj]
  ·rw[qU hij,iS n f j hj,iS n f' j hj,h j hj,if_neg (fun e=>hij e.symm)]
 ·rw[dL (by simp[tab];omega),dL (by simp[tab];omega)]
structure ElT (P:gD) (t e:TypeId) (bytes:Nat) (z:Value):Prop where
 under:P.underlying t=some (.slice e)
 info:∃i,P.info? e=some i/\i.zero=some z/\i.size=1/\i.bytes=bytes
 cells:z.cells=#[z]
 pos:1<=bytes
theorem ElT.mk' {P:gD} {t e:TypeId} {bytes:Nat} {z:Value} (h:(P.info? e).map (fun i=>(i.zero,i.size,i.bytes))=some (some z,1,bytes)) (hu:P.underlying t=some (.slice e)) (hc:z.cells=#[z]) (hb:1<=bytes):ElT P t e bytes z:=by
 obtain⟨i0,hi,hz0,hz1,hz2⟩:=info_parts h;exact⟨hu,⟨i0,hi,hz0,hz1,hz2⟩,hc,hb⟩
theorem rC {w w':World} {base e size n:Nat} {v:Value} {xs:List Value} (hown:w.ownsRow base e size v n xs) (hg:w.grownBy w' v.ownBlock) (hb:base<=w.heap.size):Below base w w':=
 (Below.refl base w).grown hg hb (fun k hk=>(hown.lt k hk).1)
theorem aDa {P:gD} {ops:Array Oper} {rest:List Oper} {o:Oper} {a:Act} {Q:Exit->Act->World->Prop} {w:World} {t e bytes:Nat} {z:Value} (E:ElT P t e bytes z) (hgd:o.guard=none) (s x:iM)
  (ho:o.op=.call {callee:=.builtin .append,args:=#[s,x],argTypes:=#[t,t]}) (base:Nat) (v:Value) (n:Nat) (xs:List Value) (hs:a.eval s=v) (hown:w.ownsRow base e 1 v n xs)
  (g:Nat) (u:Value) (hx:a.eval x=.slice (some ⟨g,0,none⟩) 1 1) (hc:w.cell? ⟨g,0,none⟩=some u) (h1:u.oneCell'=true) (hroom:(n+1)*bytes<=140737488355328) (hbase:base<=w.heap.size)
  (h:∀v' w',w'.ownsRow base e 1 v' (n+1) (xs++[u])->Below base w w'->w.grownBy w' v.ownBlock->wpList P ops Q rest (a.put o.dst v') w'):wpList P ops Q (o::rest) a w:=by
 obtain⟨i,hi,hz,h2,h3⟩:=E.info;have h4:z.cells.size=1:=by rw[E.cells];rfl
 have hpos:=E.pos;have hn:n+1<=140737488355328:=aW (FM _ hpos) hroom;refine wpList_append_own w hgd s x t ho base e i z 1 bytes E.under hi hz h2 h3 h4 (by decide) v n xs hs hown ⟨g,0,none⟩ 1 1 [u] hx rfl ?_ (by simpa using h1) (by simp only[maxLen];omega) hroom hbase (fun v' w' q1 q2 _=>h v' w' q1 (rC hown q2 hbase) q2);intro j u' hj
 cases j with
 |zero=>simp at hj;subst hj;simpa [Addr.add] using hc
 |succ j=>simp at hj
def Ow (w:World) (B:Nat) (e:TypeId) (v:Value) (xs:List Value):Prop:=w.ownsRow B e 1 v xs.length xs
theorem Ow.nil (w:World) (B:Nat) (e:TypeId):Ow w B e (.slice none 0 0) []:=World.ownsRow_nil _ _ _ _
theorem Ow.alloc {w:World} {B:Nat} {e:TypeId} {v:Value} {xs:List Value} (h:Ow w B e v xs) (o:Obj):Ow (w.alloc o) B e v xs:=aBy h o
theorem Ow.below {w w':World} {B C:Nat} {e:TypeId} {v:Value} {xs:List Value} (h:Ow w B e v xs) (hb:Below C w w') (hC:w.heap.size<=C):Ow w' B e v xs:=GZ h hb hC
theorem Ow.base {w:World} {B B':Nat} {e:TypeId} {v:Value} {xs:List Value} (h:Ow w B e v xs) (hb:B'<=B):Ow w B' e v xs:=IA h hb
theorem Ow.rd {w:World} {B:Nat} {e:TypeId} {v:Value} {xs:List Value} (h:Ow w B e v xs):Rd w v xs.length xs:=Rd.of_own h
theorem Ow.drewN {w:World} {B:Nat} {e:TypeId} {v:Value} {xs:List Value} (h:Ow w B e v xs) (n:Nat):Ow (w.drewN n) B e v xs:=h
theorem Ow.kept {w w':World} {B:Nat} {e:TypeId} {v:Value} {xs:List Value} {row:Option Nat} (h:Ow w B e v xs) (hg:w.grownBy w' row) (hne:v.ownBlock=none\/v.ownBlock≠row):Ow w' B e v xs:=NH h hg hne
theorem Ow.lt {w:World} {B:Nat} {e:TypeId} {v:Value} {xs:List Value} (h:Ow w B e v xs):∀k,v.ownBlock=some k->B<=k/\k<w.heap.size:=aT4 h
theorem rD {P:gD} {ops:Array Oper} {rest:List Oper} {o:Oper} {a:Act} {Q:Exit->Act->World->Prop} {w:World} {t e bytes:Nat} {z:Value} (E:ElT P t e bytes z) (hgd:o.guard=none) (s x:iM)
  (ho:o.op=.call {callee:=.builtin .append,args:=#[s,x],argTypes:=#[t,t]}) (base:Nat) (v:Value) (xs:List Value) (hs:a.eval s=v) (hown:Ow w base e v xs)
  (g:Nat) (u:Value) (hx:a.eval x=.slice (some ⟨g,0,none⟩) 1 1) (hc:w.cell? ⟨g,0,none⟩=some u) (h1:u.oneCell'=true) (hroom:(xs.length+1)*bytes<=140737488355328) (hbase:base<=w.heap.size)
  (h:∀v' w',Ow w' base e v' (xs++[u])->Below base w w'->w.grownBy w' v.ownBlock->wpList P ops Q rest (a.put o.dst v') w'):wpList P ops Q (o::rest) a w:=
 aDa E hgd s x ho base v xs.length xs hs hown g u hx hc h1 hroom hbase (fun v' w' q1 q2 q3=>h v' w' (by unfold Ow;rw[aL];exact q1) q2 q3)
def OwI (w:World) (B:Nat) (v:Value) (l:List Int):Prop:=Ow w B 3 v (l.map (bO .i64))
theorem OwI.nil (w:World) (B:Nat):OwI w B (.slice none 0 0) []:=Ow.nil _ _ _
theorem OwI.alloc {w:World} {B:Nat} {v:Value} {l:List Int} (h:OwI w B v l) (o:Obj):OwI (w.alloc o) B v l:=Ow.alloc h o
theorem OwI.below {w w':World} {B C:Nat} {v:Value} {l:List Int} (h:OwI w B v l) (hb:Below C w w') (hC:w.heap.size<=C):OwI w' B v l:=Ow.below h hb hC
theorem OwI.base {w:World} {B B':Nat} {v:Value} {l:List Int} (h:OwI w B v l) (hb:B'<=B):OwI w B' v l:=Ow.base h hb
theorem OwI.rd {w:World} {B:Nat} {v:Value} {l:List Int} (h:OwI w B v l):RdI w v l:=by
 unfold RdI;have:=Ow.rd h;rwa[List.length_map] at this
theorem gL:ElT Tryz.prog 39 3 8 (.int .i64 0):=ElT.mk' (by kernel_rfl) Tryz.underlying39 rfl (by decide)
theorem eN {ops:Array Oper} {rest:List Oper} {o:Oper} {a:Act} {Q:Exit->Act->World->Prop} {w:World} (hgd:o.guard=none) (s x:iM)
  (ho:o.op=.call {callee:=.builtin .append,args:=#[s,x],argTypes:=#[39,39]}) (base:Nat) (v:Value) (l:List Int) (hs:a.eval s=v) (hown:OwI w base v l)
  (g:Nat) (n:Int) (hx:a.eval x=.slice (some ⟨g,0,none⟩) 1 1) (hc:w.cell? ⟨g,0,none⟩=some (.int .i64 n)) (hroom:(l.length+1)*8<=140737488355328) (hbase:base<=w.heap.size)
  (h:∀v' w',OwI w' base v' (l++[n])->Below base w w'->w.grownBy w' v.ownBlock->wpList Tryz.prog ops Q rest (a.put o.dst v') w'):wpList Tryz.prog ops Q (o::rest) a w:=
 rD gL hgd s x ho base v _ hs hown g _ hx hc rfl (by simpa using hroom) hbase (fun v' w' q1 q2 q3=>h v' w' (by unfold OwI;rw[List.map_append];exact q1) q2 q3)
theorem eW (s:ByteArray) (j:Nat) (h:j<s.size):s.data.toList[j]? =some s[j]:=by
 rw[aN (by simpa using h)];rfl
def fB (z:Value) (n:Nat):Array Value:=(bB n z).toArray
theorem Arr.made (w:World) (e:TypeId) (z:Value) (n:Nat):Arr (w.alloc (.cells (fB z n) e)) w.heap.size e (bB n z):=FL w _
theorem mkA {P:gD} {ops:Array Oper} {rest:List Oper} {o:Oper} {a:Act} {Q:Exit->Act->World->Prop} {w:World} {t e bytes:Nat} {z:Value} (E:ElT P t e bytes z) (hgd:o.guard=none) (l c:iM)
  (ho:o.op=.makeSlice t l c) (n:Nat) (hl:a.eval l=.int .i64 (n:Int)) (hc:a.eval c=.int .i64 (n:Int)) (hroom:n*bytes<=140737488355328)
  (h:wpList P ops Q rest (a.put o.dst (.slice (some ⟨w.heap.size,0,none⟩) n n)) (w.alloc (.cells (fB z n) e))):wpList P ops Q (o::rest) a w:=by
 refine wpList_plain hgd fun K hK'=>?_
 obtain⟨i,hi,hz,h2,h3⟩:=E.info;have hpos:=E.pos;have hn:n<=140737488355328:=aW (FM _ hpos) hroom;have hb:(i.bytes:Int)*(n:Int)<=281474976710656:=by
  rw[h3,<-Int.natCast_mul,oG];omega
 have hrun:=run_make (P:=P) w t e i z E.under hi hz .i64 .i64 (n:Int) (n:Int) (by omega) (lJ _) hb (by omega);rw[h2,Nat.mul_one,eG,E.cells,show madeCells #[z] n=fB z n from by rw[fB,<-toList_madeCells_one]] at hrun;unfold Oper.wp;simp[execOp,ho,hl,hc,hrun,Result.andThen];exact hK' _ _ h
theorem BF (n:Nat):bB n (bO .i64 0)=tab n (fun _=>0):=by
 apply jA;intro j
 by_cases hj:j<n<;>simp[tab,hj]
theorem Arr.own {w:World} {b B:Nat} {e:TypeId} {l:List Value} (h:Arr w b e l) (hB:B<=b) (hl:l.length<=maxLen):Ow w B e (.slice (some ⟨b,0,none⟩) l.length l.length) l:=
 ⟨by simp,.inr ⟨b,l.length,l.toArray,rfl,hB,h,aA _,hl,by simp,by simp⟩⟩
theorem aDb {P:gD} {a:Act} {w:World} {Q:Exit->Act->World->Prop} {c T:Code} (l:Nat) (J:Nat->Act->World->Prop) (hf:findLabel c l=some (Code.skip.seq T))
  (pass:∀g a w,J g a w->T.wp P (Exit.jump l (fun a' w'=>∃g',g'<g/\J g' a' w') Q) a w)
  (first:Hid (∀g a w,J g a w->T.wp P (Exit.jump l (fun a w=>∃g,J g a w) Q) a w)->c.wp P (Exit.jump l (fun a w=>∃g,J g a w) Q) a w):(Code.scope c).wp P Q a w:=by
 refine wp_scope_jumps l (fun a w=>∃g,J g a w) (fun a w=>leastOf (fun g=>J g a w)) hf (first (hid fun g a w hJ=>Code.wp_mono ?_ (pass g a w hJ))) (fun a w h=>?_)
 ·intro e a' w' hq
  cases e with
  |goto l'=>
   obtain⟨rfl,g',_,hJ⟩:=hq;exact⟨rfl,g',hJ⟩
  |_=>exact hq
 ·apply wp_seq_k;intro K hK;apply wp_skip;refine hK _ _ (Code.wp_mono ?_ (pass _ a w (leastOf_spec h).1));intro e a' w' hq
  cases e with
  |goto l'=>
   obtain⟨rfl,g',hg',hJ⟩:=hq;exact⟨rfl,⟨g',hJ⟩,xI ((leastOf_spec ⟨g',hJ⟩).2 _ hJ) hg'⟩
  |_=>exact hq
def mkS (l:List UInt8):ByteArray:=⟨l.toArray⟩
@[simp] theorem fW (l:List UInt8):(mkS l).data.toList=l:=rfl
@[simp] theorem cP (l:List UInt8):(mkS l).size=l.length:=by simp[mkS,ByteArray.size]
theorem pL (s:ByteArray):mkS s.data.toList=s:=by cases s;simp[mkS]
theorem IB {s:ByteArray} {l:List UInt8} (h:s.data.toList=l):s=mkS l:=by rw[<-h,pL]
theorem pM (l m:List UInt8):mkS l++mkS m=mkS (l++m):=IB (by simp)
def eO (l:List UInt8):List Value:=l.map (fun b=>bO .u8 (b.toNat:Int))
@[simp] theorem rE (l:List UInt8):(eO l).length=l.length:=by simp[eO]
theorem IC (l m:List UInt8):eO (l++m)=eO l++eO m:=by simp[eO]
theorem BH {l:List UInt8} {k:Nat} {b:UInt8} (h:l[k]? =some b):(eO l)[k]? =some (.int .u8 (b.toNat:Int)):=by simp[eO,h]
theorem OR (l:List UInt8) (k:Nat) (b:UInt8):(eO l).set k (.int .u8 (b.toNat:Int))=eO (l.set k b):=by simp[eO,List.map_set]
def RdB (w:World) (v:Value) (l:List UInt8):Prop:=Rd w v l.length (eO l)
def OwB (w:World) (B:Nat) (v:Value) (l:List UInt8):Prop:=Ow w B 5 v (eO l)
theorem OwB.rd {w:World} {B:Nat} {v:Value} {l:List UInt8} (h:OwB w B v l):RdB w v l:=by
 unfold RdB;have:=Ow.rd h;rwa[rE] at this
theorem lQ {w:World} {v:Value} {l:List UInt8} (h:RdB w v l):(convert 75 9 v).run Tryz.prog w=.ok (.string (mkS l)) w:=by
 obtain⟨a,cap,rfl,h1,h2,h3⟩:=h;have key:∀(l:List UInt8),strOfNums (l.map (fun b=>(b.toNat:Int)))=mkS l:=fun l=>by
  simp[strOfNums,mkS,List.map_map,Function.comp_def]
 rcases h3 with h3|⟨b,off,rfl,hlt,hc⟩
 ·have hl:l=[]:=by cases l with|nil=>rfl|cons x l=>simp[eO] at h3
  subst hl
  cases a with
  |none=>exact run_convert_bytes_nil w _ _ Tryz.underlying75 Tryz.underlying5 0 cap _ Tryz.underlying9
  |some a=>
   rw[run_convert_bytes_string w _ _ _ _ _ _ Tryz.underlying75 Tryz.underlying5 Tryz.underlying9];rw[run_bytesToString w a _ cap [] (by simpa using run_loadCells_list (P:=Tryz.prog) w a [] (fun j u hj=>by simp at hj))];rfl
 ·rw[run_convert_bytes_arg w _ _ Tryz.underlying75 Tryz.underlying5 b off l.length cap (l.map (fun b=>(b.toNat:Int))) (by simp) (fun i hi=>by
   rw[hc i (by simpa using hi)];simp[eO,hi]) _ Tryz.underlying9,key]
theorem vQ:ElT Tryz.prog 75 5 1 (.int .u8 0):=ElT.mk' (by kernel_rfl) Tryz.underlying75 rfl (by decide)
theorem Arr.rdB {w:World} {b:Nat} {e:TypeId} {l:List UInt8} {n:Nat} (h:Arr w b e (eO l)) (hn:l.length=n) (hl:n<=maxLen):RdB w (.slice (some ⟨b,0,none⟩) n n) l:=by
 subst hn;have:=(h.own (B:=0) (aU _) (by simpa using hl)).rd;unfold RdB;simpa using this
theorem nT (s:ByteArray) (a b:Nat):s.extract a b=mkS ((s.data.toList.drop a).take (b-a)):=IB (Lib.extract_data s a b)
def nA {α:Type} (n:Nat) (z:α) (l:List α):List α:=l++bB (n-l.length) z
theorem OS {α:Type} (n:Nat) (z:α) (l:List α) (h:n<=l.length):nA n z l=l:=by simp[nA,Nat.sub_eq_zero_of_le h]
theorem aDc {α:Type} (n:Nat) (z:α) (l:List α) (h:l.length<=n):(nA n z l).length=n:=by simp[nA];omega
theorem aDd {α:Type} (n:Nat) (z x:α) (l:List α) (h:l.length<n):(nA n z l).set l.length x=nA n z (l++[x]):=by
 obtain⟨m,hm⟩:∃m,n-l.length=m+1:=⟨n-l.length-1,by omega⟩;have hm':n-(l++[x]).length=m:=by simp;omega
 simp only[nA,hm,hm',List.replicate_succ];simp
theorem aDe {α:Type} (n:Nat) (z:α) (l:List α) (k:Nat) (h:k<n) (hl:l.length<=n):∃x,(nA n z l)[k]? =some x:=
 ⟨_,aN (by rw[aDc n z l hl];exact h)⟩
theorem bS (w:World) (x:Value) (t:TypeId):(w.alloc (.cells #[x] t)).cell? ⟨w.heap.size,0,none⟩=some x:=by
 rw[World.cell?_alloc_at _ _ _ _ rfl];rfl
theorem xY (w:World) (e:TypeId) (xs:List Value) (n:Nat) (hn:xs.length=n) (hm:n<=maxLen):Rd (w.alloc (.cells xs.toArray e)) (.slice (some ⟨w.heap.size,0,none⟩) n n) n xs:=by
 subst hn;exact((Arr.new w e xs).own (B:=0) (aU _) hm).rd
theorem fX {k:IntKind} {a b:Int} (h:a=b):NI (.int k a)=.returned (.int k b):=by rw[h]
theorem sN {a b:Bool} (h:a=b):NI (.bool a)=.returned (.bool b):=by rw[h]
theorem tY {a b:ByteArray} (h:a=b):NI (.string a)=.returned (.string b):=by rw[h]
end
section
def dI (s:List UInt8) (i:Nat):Bool:=(s.getD (i/8) 0).toNat.testBit (7-i%8)
def tZ (l:List Bool):Nat:=(dG 8).foldl (fun n k=>2*n+(l.getD k false).toNat) 0
def uA (l:List Bool):UInt8:=eK (tZ l)
def aD (l:List Bool):List UInt8:=(dG ((l.length+7)/8)).map (fun j=>uA (l.drop (8*j)))
theorem gY (l:List Bool):(aD l).length=(l.length+7)/8:=by simp[aD]
theorem aDf (l:List Bool):tZ l<256:=by
 unfold tZ;simp only[dG,dG.loop,List.foldl];have h:∀b:Bool,b.toNat<=1:=fun b=>by cases b<;>decide
 have:=h (l.getD 0 false);have:=h (l.getD 1 false);have:=h (l.getD 2 false);have:=h (l.getD 3 false);have:=h (l.getD 4 false);have:=h (l.getD 5 false);have:=h (l.getD 6 false);have:=h (l.getD 7 false);omega
theorem aDg:∀b0 b1 b2 b3 b4 b5 b6 b7:Bool,∀k:Fin 8,(2*(2*(2*(2*(2*(2*(2*(2*0+b0.toNat)+b1.toNat)+b2.toNat)+b3.toNat)+b4.toNat)+b5.toNat)+b6.toNat)+b7.toNat).testBit (7-k.val)=[b0,b1,b2,b3,b4,b5,b6,b7][k]:=by decide+kernel
theorem aDh (l:List Bool) (k:Nat) (hk:k<8):(tZ l).testBit (7-k)=l.getD k false:=by
 unfold tZ;simp only[dG,dG.loop,List.foldl];have:=aDg (l.getD 0 false) (l.getD 1 false) (l.getD 2 false) (l.getD 3 false) (l.getD 4 false) (l.getD 5 false) (l.getD 6 false) (l.getD 7 false) ⟨k,hk⟩;rw[this];rcases(show k=0\/k=1\/k=2\/k=3\/k=4\/k=5\/k=6\/k=7 by omega) with rfl|rfl|rfl|rfl|rfl|rfl|rfl|rfl<;>rfl
theorem aDi (l:List Bool):(uA l).toNat=tZ l:=by
 unfold uA;rw[nP];exact kU (aDf l)
theorem sO (l:List Bool) (i:Nat):dI (aD l) i=l.getD i false:=by
 unfold dI
 by_cases h:i/8<(l.length+7)/8
 ·have e:(aD l).getD (i/8) 0=uA (l.drop (8*(i/8))):=by
   unfold aD;rw[aV,dY,pF h];rfl
  rw[e,aDi,aDh _ _ (jQ _ (by decide)),aV,List.getElem?_drop,aV]
  congr 2;omega
 ·have e:(aD l).getD (i/8) 0=0:=by
   rw[aV,dL (by rw[gY];omega)];rfl
  rw[e,aV,dL (by omega)];simp
theorem aDj {a b:UInt8} (h:∀k,k<8->a.toNat.testBit (7-k)=b.toNat.testBit (7-k)):a=b:=by
 apply UInt8.toNat_inj.1;apply Nat.eq_of_testBit_eq;intro i
 by_cases hi:i<8
 ·have:=h (7-i) (by omega);rw[show 7-(7-i)=i by omega] at this;exact this
 ·have ha:a.toNat<2^i:=dR a.toNat_lt (jC (by decide) (by omega));have hb:b.toNat<2^i:=dR b.toNat_lt (jC (by decide) (by omega));rw[FR ha,FR hb]
theorem OU {s t:List UInt8} (hl:s.length=t.length) (h:∀i,i<8*s.length->dI s i=dI t i):s=t:=by
 apply List.ext_getElem hl;intro j h1 h2;apply aDj;intro k hk;have:=h (8*j+k) (by omega);unfold dI at this;rw[show(8*j+k)/8=j by omega,show(8*j+k)%8=k by omega] at this
 simpa [fF,h1,h2] using this
def kW (s:List UInt8):List Bool:=(dG (8*s.length)).map (dI s)
theorem xZ (s:List UInt8):(kW s).length=8*s.length:=by simp[kW]
theorem sP (s:List UInt8) (i:Nat):(kW s)[i]? =if i<8*s.length then some (dI s i) else none:=by
 unfold kW;rw[dY]
 by_cases h:i<8*s.length
 ·rw[if_pos h,pF h];rfl
 ·rw[if_neg h,dL (by simpa using h)];rfl
theorem OV {s:List UInt8} {j:Nat} (hj:j<s.length) (x:UInt8) (i:Nat):dI (s.set j x) i=if i/8=j then x.toNat.testBit (7-i%8) else dI s i:=by
 unfold dI
 by_cases h:i/8=j
 ·rw[if_pos h,aV,h,List.getElem?_set_self hj];rfl
 ·rw[if_neg h,aV,qU (fun e=>h e.symm),aV]
theorem OW (s t:List UInt8) (i:Nat):dI (s++t) i=if i<8*s.length then dI s i else dI t (i-8*s.length):=by
 unfold dI
 by_cases h:i<8*s.length
 ·rw[if_pos h,aV,gS (by omega),aV]
 ·rw[if_neg h,aV,jY (by omega),aV];rw[show i/8-s.length=(i-8*s.length)/8 by omega,show(i-8*s.length)%8=i%8 by omega]
theorem orB:∀x:Fin 256,∀k:Fin 8,∀q:Fin 8,(x.val|||(128>>>k.val)).testBit (7-q.val)=(x.val.testBit (7-q.val)||decide (q=k)):=by decide+kernel
theorem aDk {l:List Bool} (h:l.length%8=0) (b:Bool):aD (l++[b])=aD l++[if b then 128 else 0]:=by
 have hn:(aD l).length=l.length/8:=by rw[gY];omega
 apply OU
 ·rw[gY];simp[gY];omega
 ·intro i hi;rw[gY] at hi;simp at hi;rw[sO,OW,hn]
  by_cases h8:i<8*(l.length/8)
  ·rw[if_pos h8,sO,aV,gS (by omega),aV]
  ·rw[if_neg h8];obtain⟨k,rfl⟩:∃k,i=l.length+k:=⟨i-l.length,by omega⟩;have hk:k<8:=by omega
   rw[aV,jY (by omega),show l.length+k-l.length=k by omega,show l.length+k-8*(l.length/8)=k by omega];unfold dI;rw[show k/8=0 by omega,show k%8=k by omega];rcases(show k=0\/k=1\/k=2\/k=3\/k=4\/k=5\/k=6\/k=7 by omega) with rfl|rfl|rfl|rfl|rfl|rfl|rfl|rfl<;>cases b<;>rfl
theorem OX {l:List Bool} (h:l.length%8≠0) (b:Bool):aD (l++[b])=(aD l).set ((aD l).length-1) (eK (((aD l).getD ((aD l).length-1) 0).toNat|||(if b then 128>>>(l.length%8) else 0))):=by
 have hn:(aD l).length=l.length/8+1:=by rw[gY];omega
 apply OU
 ·rw[gY];simp[gY];omega
 ·intro i hi;rw[gY] at hi;simp at hi;rw[sO,OV (by omega),hn,jZ];have hold:dI (aD l) i=l.getD i false:=sO l i
  by_cases h8:i/8=l.length/8
  ·rw[if_pos h8];have hx:((aD l).getD (l.length/8) 0).toNat<256:=UInt8.toNat_lt _;have hbit:((aD l).getD (l.length/8) 0).toNat.testBit (7-i%8)=l.getD i false:=by rw[<-hold];unfold dI;rw[h8]
   have hor:∀y,y<256->(eK (((aD l).getD (l.length/8) 0).toNat|||y)).toNat=(((aD l).getD (l.length/8) 0).toNat|||y):=fun y hy=>by
    rw[nP];exact kU (Nat.or_lt_two_pow (n:=8) hx hy)
   cases b with
   |false=>
    rw[if_neg (by decide),hor _ (by decide),Nat.or_zero,hbit]
    by_cases hi2:i<l.length
    ·rw[aV,gS hi2,aV]
    ·rw[aV,jY (by omega),aV,dL (l:=l) (by omega)];rcases fJ (i-l.length) with e|e
     ·rw[e];rfl
     ·rw[dL (by simp;omega)]
   |true=>
    have hs:128>>>(l.length%8)<256:=xI (Nat.shiftRight_le _ _) (by decide);rw[if_pos rfl,hor _ hs];have:=orB ⟨_,hx⟩ ⟨l.length%8,jQ _ (by decide)⟩ ⟨i%8,jQ _ (by decide)⟩;simp only at this;rw[this,hbit]
    by_cases hi2:i<l.length
    ·rw[aV,gS hi2,aV];rw[decide_eq_false (by intro e;injection e;omega),Bool.or_false]
    ·rw[aV,jY (by omega),aV,dL (l:=l) (by omega)];rcases fJ (i-l.length) with e|e
     ·rw[e,decide_eq_true (by ext;show i%8=l.length%8;omega)];rfl
     ·rw[dL (by simp;omega),decide_eq_false (by intro e;injection e;omega)];rfl
  ·rw[if_neg h8,hold];rw[aV,gS (by omega),aV]
def bY (l:List Bool):Nat:=l.foldl (fun v b=>2*v+b.toNat) 0
theorem rF (l:List Bool) (b:Bool):bY (l++[b])=2*bY l+b.toNat:=by unfold bY;rw[List.foldl_append];rfl
theorem yA {α:Type} {P:List α->Prop} (h0:P []) (h1:∀l b,P l->P (l++[b])):∀l,P l:=fun l=>by
 have h:∀m:List α,P m.reverse:=fun m=>by
  induction m with
  |nil=>exact h0
  |cons b m ih=>rw[List.reverse_cons];exact h1 _ _ ih
 have:=h l.reverse;rwa[List.reverse_reverse] at this
theorem qE (l:List Bool):bY l<2^l.length:=by
 refine yA (P:=fun l=>bY l<2^l.length) (by decide) (fun l b ih=>?_) l
 ·rw[rF,aL,fK,nQ];have:b.toNat<=1:=by cases b<;>decide
  omega
def aY (v n:Nat):List Bool:=(dG n).map (fun i=>v.testBit (n-1-i))
theorem cY (v n:Nat):(aY v n).length=n:=by simp[aY]
theorem ID (v n i:Nat) (h:i<n):(aY v n)[i]? =some (v.testBit (n-1-i)):=by simp[aY,h]
theorem BJ (l:List Bool):∀i,i<l.length->(bY l).testBit i=l.getD (l.length-1-i) false:=by
 refine yA (P:=fun l=>∀i,i<l.length->(bY l).testBit i=l.getD (l.length-1-i) false) (fun i h=>by simp at h) (fun l b ih=>?_) l
 ·intro i hi;rw[rF];simp only[aL,fK] at hi ⊢
  cases i with
  |zero=>
   rw[aV,jY (by omega)];simp only[jZ,Nat.sub_zero,oI,List.getElem?_cons_zero,vG];rw[Nat.testBit_zero]
   cases b<;>simp<;>omega
  |succ i=>
   rw[Nat.testBit_succ,show(2*bY l+b.toNat)/2=bY l by cases b<;>simp<;>omega,ih i (by omega)];rw[aV,aV,gS (by omega)]
   congr 2;omega
theorem yB (l:List Bool):aY (bY l) l.length=l:=by
 apply List.ext_getElem (cY _ _);intro i h1 h2;have:=ID (bY l) l.length i h2;rw[aN h1] at this
 injection this with this
 rw[this,BJ l _ (by omega),aV,show l.length-1-(l.length-1-i)=i by omega,aN h2];rfl
theorem OY {v n:Nat} (h:v<2^n):bY (aY v n)=v:=by
 apply Nat.eq_of_testBit_eq;intro i
 by_cases hi:i<n
 ·rw[BJ _ _ (by rw[cY];exact hi),cY,aV,ID _ _ _ (by omega)];simp only[vG]
  congr 1;omega
 ·rw[FR (dR h (jC (by decide) (by omega)))];have:=qE (aY v n);rw[cY] at this;rw[FR (dR this (jC (by decide) (by omega)))]
def bU (l:List Int) (n:Nat):Nat:=l.countP (fun x=>x==(n:Int))
def fC (l:List Int):Nat->Nat
 |0=>0
 |n+1=>2*(fC l n+bU l n)
def fY (l:List Int):Prop:=2<=l.length/\l.length<=258/\∀x∈l,1<=x/\x<=20
instance (l:List Int):Decidable (fY l):=inferInstanceAs (Decidable (2<=l.length/\l.length<=258/\∀x∈l,1<=x/\x<=20))
def jR (l:List Int):Nat:=(l.map (fun x=>2^(20-x.toNat))).sum
def bL (l:List Int):Int:=if ¬fY l then 1 else if jR l>1048576 then 6 else 0
theorem eH {l:List Int} (h:bL l=0):fY l/\jR l<=1048576:=by
 unfold bL at h;split at h
 ·omega
 ·next h1=>
  split at h
  ·omega
  ·exact⟨dK.1 h1,by omega⟩
theorem aDm {l:List Int} (h1:fY l) (h2:jR l<=1048576):bL l=0:=by
 unfold bL;rw[if_neg (fun k=>k h1),if_neg (by omega)]
theorem OZ {l:List Int} (h:∀x∈l,1<=x):bU l 0=0:=by
 unfold bU;rw[List.countP_eq_zero];intro x hx;have:=h x hx;simp;omega
theorem PA {l:List Int} (h:∀x∈l,1<=x):fC l 1=0:=by unfold fC;rw[OZ h];rfl
def lB (l:List Int) (n:Nat):Nat:=(l.map (fun x=>if x.toNat<=n then 2^(n-x.toNat) else 0)).sum
theorem PB (l:List Int) (n:Nat) (h:∀x∈l,1<=x):lB l (n+1)=2*lB l n+bU l (n+1):=by
 induction l with
 |nil=>rfl
 |cons x l ih=>
  have ih:=ih (fun y hy=>h y (jD _ hy));have hx:=h x (lY ..);unfold lB bU at*
  simp only[pG,pV,NL];rw[ih]
  by_cases h1:x.toNat<=n
  ·rw[if_pos h1,if_pos (by omega),if_neg (by simp;omega),show n+1-x.toNat=n-x.toNat+1 by omega,nQ];omega
  ·rw[if_neg h1]
   by_cases h2:x.toNat=n+1
   ·rw[if_pos (by omega),if_pos (by simp;omega),h2,oI];omega
   ·rw[if_neg (by omega),if_neg (by simp;omega)];omega
theorem PC (l:List Int) (h:∀x∈l,1<=x):∀n,lB l n=fC l n+bU l n:=by
 intro n
 induction n with
 |zero=>
  have:lB l 0=bU l 0:=by
   induction l with
   |nil=>rfl
   |cons x l ih=>
    have ih:=ih (fun y hy=>h y (jD _ hy));have hx:=h x (lY ..);unfold lB bU at*
    simp only[pG,pV,NL,ih];rw[if_neg (by omega),if_neg (by simp;omega)];omega
  rw[this];unfold fC;omega
 |succ n ih=>rw[PB l n h,ih];rfl
theorem PD (l:List Int) (n k:Nat):lB l n*2^k<=lB l (n+k):=by
 unfold lB
 induction l with
 |nil=>simp
 |cons x l ih=>
  simp only[pG,pV];rw[Nat.add_mul];refine Nat.add_le_add ?_ ih
  by_cases h:x.toNat<=n
  ·rw[if_pos h,if_pos (by omega),<-aUb,show n-x.toNat+k=n+k-x.toNat by omega];exact aA _
  ·rw[if_neg h];simp
theorem IE {l:List Int} (h:∀x∈l,1<=x/\x<=20):lB l 20=jR l:=by
 unfold lB jR
 congr 1
 apply List.map_congr_left;intro x hx;have:=h x hx;rw[if_pos (by omega)]
theorem PE {l:List Int} (h:∀x∈l,1<=x/\x<=20) (hk:jR l<=1048576) {n:Nat} (hn:n<=20):fC l n+bU l n<=2^n:=by
 rw[<-PC l (fun x hx=>(h x hx).1)];have:=PD l n (20-n);rw[show n+(20-n)=20 by omega,IE h] at this;have h2:2^n*2^(20-n)=1048576:=by rw[<-aUb,show n+(20-n)=20 by omega]
 have h3:lB l n*2^(20-n)<=2^n*2^(20-n):=by omega
 exact Nat.le_of_mul_le_mul_right h3 (xL (by decide))
def pN (l:List Int):Nat->Int
 |0=>1-(bU l 0:Int)
 |n+1=>2*pN l n-(bU l (n+1):Int)
theorem IF (l:List Int) (h:∀x∈l,1<=x):∀n,pN l n=2^n-(lB l n:Int):=by
 intro n
 induction n with
 |zero=>
  have:lB l 0=bU l 0:=by rw[PC l h];unfold fC;omega
  unfold pN;rw[this];rfl
 |succ n ih=>
  unfold pN;rw[ih,PB l n h];rw[Int.pow_succ];push_cast;omega
theorem aDn {l:List Int} (h:∀x∈l,1<=x/\x<=20) {n:Nat} (hn:n<=20) (hl:pN l n<0):1048576<jR l:=by
 rw[IF l (fun x hx=>(h x hx).1)] at hl;have h2:2^n<lB l n:=by
  have:((2^n:Nat):Int)<(lB l n:Int):=by push_cast;omega
  exact Int.ofNat_lt.1 this
 have:=PD l n (20-n);rw[show n+(20-n)=20 by omega,IE h] at this;have h3:2^n*2^(20-n)=1048576:=by rw[<-aUb,show n+(20-n)=20 by omega]
 have h4:(2^n+1)*2^(20-n)<=lB l n*2^(20-n):=Nat.mul_le_mul_right _ h2;have h5:0<2^(20-n):=xL (by decide);rw[Nat.add_mul] at h4;omega
theorem aDo {l:List Int} (h:∀x∈l,1<=x/\x<=20) (hl:∀n,n<=20->0<=pN l n):jR l<=1048576:=by
 have:=hl 20 (aA _);rw[IF l (fun x hx=>(h x hx).1),IE h] at this;have e:(2:Int)^20=1048576:=by decide
 omega
theorem aDp {l:List Int} (h:∀x∈l,1<=x) {n:Nat}:pN l n<=2^n:=by
 rw[IF l h];omega
def bG (l:List Int) (s:Nat):Nat:=(l.getD s 0).toNat
def fO (l:List Int) (s:Nat):Nat:=fC l (bG l s)+bU (l.take s) (bG l s)
theorem jG {l:List Int} (h:fY l) {s:Nat} (hs:s<l.length):1<=bG l s/\bG l s<=20/\l[s]? =some ((bG l s:Nat):Int):=by
 have:=h.2.2 l[s] (List.getElem_mem hs);unfold bG;rw[aV,aN hs];simp only[vG];exact⟨by omega,by omega,by congr 1;omega⟩
theorem BK {l:List Int} {s:Nat} (hs:s<l.length) {n:Nat} (hn:l[s]? =some (n:Int)):bU (l.take s) n<bU l n:=by
 unfold bU;have e:l=l.take s++l[s]::l.drop (s+1):=by rw[List.getElem_cons_drop,List.take_append_drop]
 conv=>rhs;rw[e]
 rw[NN,NL];have:l[s]=(n:Int):=by rw[aN hs] at hn;injection hn
 rw[this];simp
theorem BM {l:List Int} (h:fY l) {s:Nat} (hs:s<l.length):fC l (bG l s)<=fO l s/\fO l s<fC l (bG l s)+bU l (bG l s):=by
 have:=BK hs (jG h hs).2.2;unfold fO;omega
theorem IG {l:List Int} (h:fY l) (hk:jR l<=1048576) {s:Nat} (hs:s<l.length):fO l s<2^bG l s:=by
 have:=BM h hs;have:=PE h.2.2 hk (jG h hs).2.1;omega
theorem aDq (l:List Int) (n k:Nat):(fC l n+bU l n)*2^(k+1)<=fC l (n+k+1):=by
 induction k with
 |zero=>show _<=2*(fC l n+bU l n);rw[oG];exact aA _
 |succ k ih=>
  show _<=2*(fC l (n+(k+1))+_);rw[nQ,<-vH];have e:n+(k+1)=n+k+1:=by omega
  rw[e];omega
def lR (l:List Int) (n m:Nat):List Nat:=(dG m).filter (fun s=>l.getD s 0==(n:Int))
theorem II (l:List Int) (n m:Nat):lR l n (m+1)=lR l n m++if l.getD m 0==(n:Int) then[m] else[]:=by
 unfold lR;rw[List.range_succ,List.filter_append]
 congr 1
 rw[List.filter_cons,List.filter_nil]
theorem BN {l:List Int} {m:Nat} (hm:m<l.length) (n:Nat):bU (l.take (m+1)) n=bU (l.take m) n+if l.getD m 0==(n:Int) then 1 else 0:=by
 unfold bU;rw[List.take_add_one,NN,aN hm,aV,aN hm];simp
theorem BO (l:List Int) (n:Nat):∀m,m<=l.length->(lR l n m).length=bU (l.take m) n:=by
 intro m
 induction m with
 |zero=>intro _;rfl
 |succ m ih=>
  intro hm;rw[II,aL,ih (by omega),BN (by omega)];split<;>rfl
theorem PF (l:List Int) (n:Nat):∀m,m<=l.length->∀k s,(lR l n m)[k]? =some s->s<m/\l.getD s 0=(n:Int)/\bU (l.take s) n=k:=by
 intro m
 induction m with
 |zero=>intro _ k s h;simp[lR] at h
 |succ m ih=>
  intro hm k s h;rw[II] at h
  by_cases hk:k<(lR l n m).length
  ·rw[gS hk] at h;obtain⟨h1,h2,h3⟩:=ih (by omega) k s h;exact⟨by omega,h2,h3⟩
  ·rw[jY (by omega)] at h;split at h
   ·next e=>
    have hk0:k-(lR l n m).length=0:=by
     rcases fJ (k-(lR l n m).length) with q|q
     ·exact q
     ·rw[dL (by simp;omega)] at h;simp at h
    rw[hk0] at h;simp at h;subst h;refine⟨by omega,by simpa using e,?_⟩;rw[<-BO l n m (by omega)];omega
   ·simp at h
def seg (s:List UInt8) (a n:Nat):List Bool:=((kW s).drop a).take n
theorem vR {s:List UInt8} {a n:Nat} (h:a+n<=8*s.length):(seg s a n).length=n:=by
 unfold seg;rw[aX,List.length_drop,xZ];omega
theorem aDr (l m:List Bool):bY (l++m)=bY l*2^m.length+bY m:=by
 refine yA (P:=fun m=>bY (l++m)=bY l*2^m.length+bY m) (by simp[bY]) (fun m b ih=>?_) m;rw[<-List.append_assoc,rF,rF,ih,aL,fK,nQ,<-vH];omega
theorem PG {s:List UInt8} {a n k:Nat}:seg s a (n+k)=seg s a n++seg s (a+n) k:=by
 unfold seg;rw[List.take_add,List.drop_drop]
theorem aDs {s:List UInt8} {a n k:Nat} (h:a+(n+k)<=8*s.length):bY (seg s a (n+k))/2^k=bY (seg s a n):=by
 rw[PG,aDr,vR (by omega)];have h1:=qE (seg s (a+n) k);rw[vR (by omega)] at h1;rw[oG,Nat.mul_add_div (xL (by decide)),Nat.div_eq_of_lt h1,Nat.add_zero]
def gZ (l:List Int) (s:List UInt8) (a i:Nat):Prop:=a+bG l i<=8*s.length/\bY (seg s a (bG l i))=fO l i
instance (l:List Int) (s:List UInt8) (a i:Nat):Decidable (gZ l s a i):=inferInstanceAs (Decidable (_/\_))
theorem PH {l:List Int} (hl:fY l) {s:List UInt8} {a i j:Nat} (hi:i<l.length) (hj:j<l.length) (h1:gZ l s a i) (h2:gZ l s a j):¬bG l i<bG l j:=by
 intro hlt;obtain⟨k,hk⟩:∃k,bG l j=bG l i+(k+1):=⟨bG l j-bG l i-1,by omega⟩;have hw:=(BM hl hi).2;have hw2:=(BM hl hj).1;have hm:=aDq l (bG l i) k;have e:bG l i+k+1=bG l j:=by omega
 rw[e] at hm;have hv:=aDs (s:=s) (a:=a) (n:=bG l i) (k:=k+1) (by have:=h2.1;omega);rw[<-hk,h2.2,h1.2] at hv;have:fC l (bG l i)+bU l (bG l i)<=fO l j/2^(k+1):=by
  rw[Nat.le_div_iff_mul_le (xL (by decide))];omega
 omega
theorem BP {l:List Int} {i j n:Nat} (hij:i<j) (hj:j<l.length) (hi:l[i]? =some (n:Int)):bU (l.take i) n<bU (l.take j) n:=by
 have hi2:(l.take j)[i]? =some (n:Int):=by rw[lW,if_pos hij,hi]
 have h:=BK (l:=l.take j) (s:=i) (by rw[aX];omega) hi2;rwa[List.take_take,Nat.min_eq_left (by omega)] at h
theorem aDt {l:List Int} (hl:fY l) {s:List UInt8} {a i j:Nat} (hi:i<l.length) (hj:j<l.length) (h1:gZ l s a i) (h2:gZ l s a j):i=j:=by
 have e1:=PH hl hi hj h1 h2;have e2:=PH hl hj hi h2 h1;have e:bG l i=bG l j:=by omega
 have hv:=h1.2;rw[e,h2.2] at hv;unfold fO at hv;rw[e] at hv;rcases Nat.lt_trichotomy i j with h|h|h
 ·have hh:=(jG hl hi).2.2;rw[e] at hh;have:=BP h hj hh;omega
 ·exact h
 ·have hh:=(jG hl hj).2.2;have:=BP h hi hh;omega
def kF (l:List Int):Int:=l.foldl max 0
def bZ (l:List Int) (s:List UInt8) (at':Int):Int×Int×Int:=
 if bL l≠0 then(0,0,bL l)
 else if at'<0 then(0,0,1)
 else match (dG l.length).find? (fun i=>decide (gZ l s at'.toNat i)) with
  |some i=>((i:Int),at'+(bG l i:Int),0)
  |none=>if at'>8*(s.length:Int)-kF l then(0,0,2) else(0,0,3)
theorem uB {l:List Int} (hc:bL l=0) {s:List UInt8} {a i:Nat} (hi:i<l.length) (h:gZ l s a i):bZ l s (a:Int)=((i:Int),(a:Int)+(bG l i:Int),0):=by
 unfold bZ;rw[if_neg (fun k=>k hc),if_neg (by omega),eG];have e:(dG l.length).find? (fun i=>decide (gZ l s a i))=some i:=by
  cases q:(dG l.length).find? (fun i=>decide (gZ l s a i)) with
  |none=>
   have:=List.find?_eq_none.1 q i (jF.2 hi);simp at this;exact absurd h this
  |some j=>
   have h1:=List.find?_some q;have h2:=jF.1 (List.mem_of_find?_eq_some q);rw[aDt (eH hc).1 hi h2 h (by simpa using h1)]
 rw[e]
theorem uD {l:List Int} (hc:bL l=0) {s:List UInt8} {a:Nat} (h:∀i,i<l.length->¬gZ l s a i):bZ l s (a:Int)=if(a:Int)>8*(s.length:Int)-kF l then(0,0,2) else(0,0,3):=by
 unfold bZ;rw[if_neg (fun k=>k hc),if_neg (by omega),eG];have e:(dG l.length).find? (fun i=>decide (gZ l s a i))=none:=by
  rw[List.find?_eq_none];intro i hi
  simpa using h i (jF.1 hi)
 rw[e]
end
section
open Go.RowKit
theorem bV {a b c:World} (h:Below a.heap.size a b) (k:Below b.heap.size b c):Below a.heap.size a c:=h.trans (k.mono h.size)
theorem bD {a b:World} (h:Below a.heap.size a b) (o:Obj):Below a.heap.size a (b.alloc o):=h.alloc h.size o
def gA (c n:Int):Int:=(if c<0 then-(c+1) else c)%n
theorem vU (c n:Int) (h:1<=n):0<=gA c n/\gA c n<n:=⟨Int.emod_nonneg _ (by omega),Int.emod_lt_of_pos _ (by omega)⟩
theorem yI (n:Nat) (k:Int) (hk:0<=k):∃m:Nat,(if k<(n:Int) then k else(n:Int))=(m:Int)/\(m:Int)<=k/\m<=n:=by
 by_cases h:k<(n:Int)
 ·obtain⟨m,rfl⟩:=Int.eq_ofNat_of_zero_le hk;exact⟨m,by rw[if_pos h],lJ _,by omega⟩
 ·exact⟨n,by rw[if_neg h],by omega,aA _⟩
end
end Go.Proofs.YtpgmbhpbgkljdaaGreatDoor
