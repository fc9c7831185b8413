/-
  The listed variable's cell, as the row's condition has it (chapter 20's seat).
-/
import Derived.Test.YtjkjeamepgjicaaGreatDoorZ16
set_option linter.unusedVariables false
set_option linter.unusedSimpArgs false
set_option maxRecDepth 100000
set_option maxHeartbeats 12800000
namespace Go.Proofs.YtjkjeamepgjicaaGreatDoor
open Go.ChangeShapes Go.WideShapes Go.ChangeAt Go.RowKit Go.Joins
theorem e20Et:Tryz.prog.globalNamed "errors.errorType"=some 0:=by kernel_rfl
theorem e20Rt:(Tryz.prog.cutTypes.find? (·.1== "internal/reflectlite.rtype")).map (·.2)=some 84:=by kernel_rfl
theorem e20Size:Tryz.prog.types.size=256:=by kernel_rfl
theorem e20One:((List.range 256).filter fun t=>Tryz.prog.rowNamed t [101,114,114,111,114])=[45]:=by kernel_rfl
theorem errVar_of_laid {W:World} (h:laidMetH Tryz.prog pE W):iF W:=by
 have h':laidMet Tryz.prog [] W/\handlesMet Tryz.prog pE W:=h;obtain⟨name,u,ty,e1,e2,e3,e4,e5⟩:=h'.2 _ (List.mem_singleton.2 rfl);have en:name=[101,114,114,111,114]:=(Option.some.inj e1).symm;subst en;obtain rfl:=Option.some.inj (e20Rt.symm.trans e2);have hm:ty∈(List.range 256).filter fun t=>Tryz.prog.rowNamed t [101,114,114,111,114]:=List.mem_filter.2 ⟨List.mem_range.2 (by rw[<-e20Size];exact e3),e4⟩
 rw[e20One] at hm;obtain rfl:=List.mem_singleton.1 hm;have hh:typeHandle Tryz.prog 45=.pointer (some ⟨1,45,none⟩):=by kernel_rfl
 rw[hh] at e5;have:=World.var?_cell e20Et e5 0;unfold iF
 simpa using this
end Go.Proofs.YtjkjeamepgjicaaGreatDoor
