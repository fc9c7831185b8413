/-
  The reading of parameters of the type [3]int.
-/
import Derived.ProofKit
import Derived.OpenShut
import Derived.ShutString
import Derived.ChangeOld
import Derived.ChangeVars
import Derived.JoinedOf
import Derived.LaidLaws
import Derived.LaidHandle
import Derived.Stop.Joined
import Derived.Deep.Slices
import Derived.Lib.SmallJoins
import Derived.SizedLaws
import Derived.ProofKit
import Derived.OpenShut
import Derived.ShutString
import Derived.ChangeOld
import Derived.ChangeVars
import Derived.JoinedOf
import Derived.LaidLaws
import Derived.LaidHandle
import Derived.Stop.Joined
import Derived.Deep.Slices
import Derived.Lib.SmallJoins
import Derived.SizedLaws
import Derived.ProofKit
import Derived.OpenShut
import Derived.ShutString
import Derived.ChangeOld
import Derived.ChangeVars
import Derived.JoinedOf
import Derived.LaidLaws
import Derived.LaidHandle
import Derived.Stop.Joined
import Derived.Deep.Slices
import Derived.Lib.SmallJoins
import Derived.SizedLaws
import Derived.Test.YtfckbfofgeilgaaGreatDoorZ19
set_option linter.unusedVariables false
set_option linter.unusedSimpArgs false
set_option maxRecDepth 100000
set_option maxHeartbeats 12800000
namespace Go.Proofs.YtfckbfofgeilgaaGreatDoor
open Go.ChangeShapes Go.WideShapes Go.ChangeAt Go.RowKit Go.Joins
theorem card_i64g {n:Int} (h:(Lit.int .i64 n).wf=true): -9223372036854775808<=n/\n<=9223372036854775807:=by
 simp[Lit.wf,IntKind.min,IntKind.max,IntKind.signed,IntKind.bits] at h;omega
theorem card_threeG {α:Type}:∀{l:List α},l.length=3->∃x y z,l=[x,y,z]
 |[x,y,z],_=>⟨x,y,z,rfl⟩
section
variable {H:Type} {enc:TypeId×Value->H} {w:World} {base:Nat} {held:Bool}
theorem card_arr3 {r:Reach} {b0:Nat} {v:Value} {d:DataW H} {p:List MemPlace} (hv:Value.okWide Tryz.prog w r b0 60 v) (h:DataW.Trod enc Tryz.prog w base (fun _=>true) held 60 v d p):
  ∃a b c:Int,v=.agg #[.int .i64 a,.int .i64 b,.int .i64 c]/\(-9223372036854775808<=a/\a<=9223372036854775807)/\(-9223372036854775808<=b/\b<=9223372036854775807)/\(-9223372036854775808<=c/\c<=9223372036854775807):=by
 have c2:Tryz.prog.cellsOf 60=3:=by kernel_rfl
 have c1:Tryz.prog.cellsOf 3=1:=by kernel_rfl
 unfold Value.okWide at hv;rw[Tryz.underlying60] at hv;obtain⟨cs,rfl,hsz,-⟩:=hv;rw[c2] at hsz;obtain⟨fuel,ht⟩:=h;obtain⟨u0,u1,u2,hcs⟩:=card_threeG (l:=cs.toList) (by rw[Array.length_toList];exact hsz);have hcs':cs=#[u0,u1,u2]:=by rw[<-Array.toList_inj,hcs]
 subst hcs';have ht:DataW.trod enc Tryz.prog w base (fun _=>true) held fuel 60 [u0,u1,u2]=some (d,p):=ht;obtain⟨xs,k,_,_,_,hx2,hel⟩:=DataW.trod_array Tryz.underlying60 ht;obtain⟨y0,y1,y2,rfl⟩:=card_threeG hx2;have e0:=hel 0 (by decide);have e1:=hel 1 (by decide);have e2:=hel 2 (by decide);rw[c1] at e0 e1 e2;obtain⟨m0,q0,_,b0⟩:=DataW.trod_int Tryz.underlying3 (show DataW.trod enc Tryz.prog w base (fun _=>true) held k 3 [u0]=some y0 from e0);obtain⟨m1,q1,_,b1⟩:=DataW.trod_int Tryz.underlying3 (show DataW.trod enc Tryz.prog w base (fun _=>true) held k 3 [u1]=some y1 from e1)
 obtain⟨m2,q2,_,b2⟩:=DataW.trod_int Tryz.underlying3 (show DataW.trod enc Tryz.prog w base (fun _=>true) held k 3 [u2]=some y2 from e2);have r0:u0=.int .i64 m0:=List.singleton_inj.1 q0;have r1:u1=.int .i64 m1:=List.singleton_inj.1 q1;have r2:u2=.int .i64 m2:=List.singleton_inj.1 q2;subst r0 r1 r2;exact⟨m0,m1,m2,rfl,card_i64g b0,card_i64g b1,card_i64g b2⟩
end
end Go.Proofs.YtfckbfofgeilgaaGreatDoor
