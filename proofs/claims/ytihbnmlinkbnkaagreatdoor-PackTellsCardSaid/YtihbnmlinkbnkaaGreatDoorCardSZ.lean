/-
  A slice of texts that came in, for the tied cards.
-/
import Derived.ChangeSlices
import Derived.ChangeSlices
import Derived.SliceStrings
import Derived.Test.YtihbnmlinkbnkaaGreatDoorZ38
set_option linter.unusedVariables false
set_option linter.unusedSimpArgs false
set_option maxRecDepth 100000
set_option maxHeartbeats 12800000
namespace Go.Proofs.YtihbnmlinkbnkaaGreatDoor
open Go.RowKit Go Go.Shelf Go.ChangeMaps Go.ChangeShapes
theorem cardRowS {w:World} {a:Option Addr} {len cap:Nat} {zs:List ByteArray}
  (h:(a=none/\len=0/\cap=0/\zs=[])\/∃x,a=some x/\len<=cap/\cap<=maxLen/\zs.length=cap/\(∀i,i<zs.length->w.cell? (x.add i)=some (.string (zs.getD i ByteArray.empty)))/\∀n∈zs,n.size<=maxLen):
  RdT w (.slice a len cap) (zs.take len)/\∀t∈zs.take len,t.size<=maxLen:=by
 rcases h with⟨rfl,rfl,rfl,rfl⟩|⟨⟨b,off,spot⟩,rfl,hl,hm,hz,hc,hw⟩
 ·exact⟨⟨none,0,rfl,Nat.le_refl _,by simp[maxLen],.inl rfl⟩,by simp⟩
 ·have hlen:(zs.take len).length=len:=by simp;omega
  refine⟨⟨some ⟨b,off,spot⟩,cap,by rw[hlen],by grind,hm,?_⟩,fun x hx=>hw x (List.mem_of_mem_take hx)⟩;rcases Nat.eq_zero_or_pos len with h0|h0
  ·left;subst h0;rfl
  ·right
   have h1:=hc 0 (by omega);have hsp:spot=none:=by simpa [Addr.add] using World.cell?_spot h1
   subst hsp;refine⟨b,off,rfl,World.block_lt_of_cell? w _ h1,fun j hj=>?_⟩;have hj':j<len:=by grind [FX,RdT]
   have h2:=hc j (by omega);have e:(⟨b,off,none⟩:Addr).add j=⟨b,off+j,none⟩:=by unfold Addr.add;split<;>simp_all
   grind [oI,RdT]
section
variable {H:Type} {enc:TypeId×Value->H} {w:World} {base:Nat} {held:Bool}
theorem card_texts {s:Option Addr} {n c:Nat} {d:DataW H} {p:List MemPlace} (h:DataW.Trod enc Tryz.prog w base (fun _=>true) held 22 (.slice s n c) d p):∃l,RdT w (.slice s n c) l/\∀t∈l,t.size<=maxLen:=by
 obtain⟨fuel,hf⟩:=h;rcases open_strings Tryz.underlying22 Tryz.underlying9 (by kernel_rfl) hf with⟨hc,_⟩|⟨a,len,cap,zs,hc,_,hl,hm,hz,_,hcell,hwf⟩
 ·have hc:Value.slice s n c=.slice none 0 0:=by simpa [Value.cells] using hc
  rw[hc];exact⟨_,cardRowS (zs:=[]) (.inl ⟨rfl,rfl,rfl,rfl⟩)⟩
 ·have hc:Value.slice s n c=.slice (some a) len cap:=by simpa [Value.cells] using hc
  rw[hc];exact⟨_,cardRowS (zs:=zs) (.inr ⟨a,rfl,hl,hm,by simpa using hz,hcell,hwf⟩)⟩
end
end Go.Proofs.YtihbnmlinkbnkaaGreatDoor
