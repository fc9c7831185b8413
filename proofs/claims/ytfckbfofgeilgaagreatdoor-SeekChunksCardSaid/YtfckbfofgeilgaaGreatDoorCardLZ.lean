/-
  The reading of parameters of the types uint32 and []int.
-/
import Derived.ChangeSlices
import Derived.Test.YtfckbfofgeilgaaGreatDoorZ40
set_option linter.unusedVariables false
set_option linter.unusedSimpArgs false
set_option maxRecDepth 100000
set_option maxHeartbeats 12800000
namespace Go.Proofs.YtfckbfofgeilgaaGreatDoor
open Go.ChangeShapes Go.WideShapes Go.ChangeAt Go.RowKit Go.Joins
theorem cardRow {w:World} {a:Option Addr} {len cap:Nat} {zs:List Int}
  (h:(a=none/\len=0/\cap=0/\zs=[])\/∃x,a=some x/\len<=cap/\cap<=maxLen/\zs.length=cap/\(∀i,i<zs.length->w.cell? (x.add i)=some (.int .i64 (zs.getD i 0)))/\∀n∈zs,(Lit.int .i64 n).wf=true):
  RdI w (.slice a len cap) (zs.take len)/\WfI (zs.take len):=by
 rcases h with⟨rfl,rfl,rfl,rfl⟩|⟨⟨b,off,spot⟩,rfl,hl,hm,hz,hc,hw⟩
 ·exact⟨⟨none,0,rfl,Nat.le_refl _,by simp[maxLen],.inl rfl⟩,by simp[RdI,WfI]⟩
 ·have hlen:(zs.take len).length=len:=by simp;omega
  refine⟨⟨some ⟨b,off,spot⟩,cap,by rw[hlen],by grind,hm,?_⟩,fun x hx=>?_⟩
  ·rcases Nat.eq_zero_or_pos len with h0|h0
   ·grind
   ·right
    have h1:=hc 0 (by omega);have hsp:spot=none:=by simpa [Addr.add] using World.cell?_spot h1
    subst hsp;refine⟨b,off,rfl,World.block_lt_of_cell? w _ h1,fun j hj=>?_⟩;have hj':j<len:=by rw[List.length_map,hlen] at hj;exact hj
    have h2:=hc j (by omega);have e:(⟨b,off,none⟩:Addr).add j=⟨b,off+j,none⟩:=by unfold Addr.add;split<;>simp_all
    grind
  ·have:=hw x (List.mem_of_mem_take hx);simp[Lit.wf,IntKind.min,IntKind.max,IntKind.signed,IntKind.bits] at this;omega
theorem card_u32 {n:Int} (h:(Lit.int .u32 n).wf=true):0<=n/\n<4294967296:=by
 simp[Lit.wf,IntKind.min,IntKind.max,IntKind.signed,IntKind.bits] at h;omega
section
variable {H:Type} {enc:TypeId×Value->H} {w:World} {base:Nat} {held:Bool}
theorem card_ints {s:Option Addr} {n c:Nat} {d:DataW H} {p:List MemPlace} (h:DataW.Trod enc Tryz.prog w base (fun _=>true) held 53 (.slice s n c) d p):∃l,RdI w (.slice s n c) l/\WfI l:=by
 obtain⟨fuel,hf⟩:=h;rcases open_ints Tryz.underlying53 Tryz.underlying3 (by kernel_rfl) hf with⟨hc,_⟩|⟨a,len,cap,zs,hc,_,hl,hm,hz,_,hcell,hwf⟩
 ·have hc:Value.slice s n c=.slice none 0 0:=by simpa [Value.cells] using hc
  rw[hc];exact⟨_,cardRow (zs:=[]) (.inl ⟨rfl,rfl,rfl,rfl⟩)⟩
 ·have hc:Value.slice s n c=.slice (some a) len cap:=by simpa [Value.cells] using hc
  rw[hc];exact⟨_,cardRow (zs:=zs) (.inr ⟨a,rfl,hl,hm,by simpa using hz,hcell,hwf⟩)⟩
end
end Go.Proofs.YtfckbfofgeilgaaGreatDoor
