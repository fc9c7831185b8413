/-
  Texts put together (part 20): the walks and the plain laws on which the statement stands.
-/
import Derived.Test.YtmcogmmncfihhaaGreatDoorZ17
set_option maxRecDepth 100000
set_option maxHeartbeats 12800000
set_option linter.unusedVariables false
set_option linter.unusedSimpArgs false
open List renaming getElem?_append_left->gS,getElem?_append_right->jY
open Nat renaming le_refl->aA,sub_self->oI
open Option.some renaming inj->bW
namespace Go.Proofs.YtmcogmmncfihhaaGreatDoor
open Go.RowKit Go Go.Shelf
def jP (b0 b1:Nat) (A B:World):Prop:=A.heap.size<=B.heap.size/\∀k,k<A.heap.size->k≠b0->k≠b1->B.heap[k]? =A.heap[k]?
theorem jP.refl (b0 b1:Nat) (A:World):jP b0 b1 A A:=⟨aA _,fun _ _ _ _=>rfl⟩
theorem jP.trans {b0 b1:Nat} {A B C:World} (h:jP b0 b1 A B) (k:jP b0 b1 B C):jP b0 b1 A C:=⟨Nat.le_trans h.1 k.1,fun i hi h0 h1=>(k.2 i (Nat.lt_of_lt_of_le hi h.1) h0 h1).trans (h.2 i hi h0 h1)⟩
theorem jP.cell {b0 b1:Nat} {A B:World} (h:jP b0 b1 A B) {b o:Nat} {v:Value} (hc:A.cell? ⟨b,o,none⟩=some v) (h0:b≠b0) (h1:b≠b1):B.cell? ⟨b,o,none⟩=some v:=by
 rw[<-hc];exact World.cell?_of_block (h.2 b (World.block_lt_of_cell? A _ hc) h0 h1)
theorem jP.arr {b0 b1:Nat} {A B:World} (h:jP b0 b1 A B) {b e:Nat} {l:List Value} (hA:Arr A b e l) (h0:b≠b0) (h1:b≠b1):Arr B b e l:=(h.2 b hA.lt h0 h1).trans hA
theorem jP.ow {b0 b1:Nat} {A B:World} (h:jP b0 b1 A B) {base e:Nat} {v:Value} {xs:List Value} (ho:Ow A base e v xs) (h0:b0<base) (h1:b1<base):Ow B base e v xs:=by
 refine⟨ho.1,?_⟩;rcases ho.2 with hn|⟨g,cap,cur,e1,hb,hg,rest⟩
 ·exact .inl hn
 ·exact .inr ⟨g,cap,cur,e1,hb,(h.2 g (Array.getElem?_eq_some_iff.1 hg).1 (by omega) (by omega)).trans hg,rest⟩
theorem kS.kept {w w':World} {B B':Nat} {v u:Value} {l:List Int} {ys:List Value} (h:kS w B v l) (ho:Ow w B' 57 u ys) (hg:w.grownBy w' u.ownBlock):kS w' B v l:=by
 obtain⟨b,R,e,hB,hA⟩:=h;exact⟨b,R,e,hB,hA.grown hg (DF hA ho (by decide))⟩
theorem kS.one {w:World} {B:Nat} {v:Value} {l:List Int} (h:kS w B v l):v.oneCell'=true:=by
 obtain⟨b,R,e,_,_⟩:=h;rw[e];rfl
theorem WrL.below {w w':World} {p B:Nat} {ls:List (List Bool)} (h:WrL w p B ls) (hb:Below w.heap.size w w'):WrL w' p B ls:=by
 obtain⟨v,h1,h2⟩:=h;exact⟨v,h1.below hb h1.lt,h2.below hb (aA _)⟩
end Go.Proofs.YtmcogmmncfihhaaGreatDoor
