/-
  The reading of parameters of the types [2]int and byte.
-/
import Derived.Test.YtfplbbphficcjaaGreatDoorZ32
set_option linter.unusedVariables false
set_option linter.unusedSimpArgs false
set_option maxRecDepth 100000
set_option maxHeartbeats 12800000
namespace Go.Proofs.YtfplbbphficcjaaGreatDoor
open Go.ChangeShapes Go.WideShapes Go.ChangeAt Go.RowKit Go.Joins
theorem card_i64a {n:Int} (h:(Lit.int .i64 n).wf=true): -9223372036854775808<=n/\n<=9223372036854775807:=by
 simp[Lit.wf,IntKind.min,IntKind.max,IntKind.signed,IntKind.bits] at h;omega
theorem card_u8 {n:Int} (h:(Lit.int .u8 n).wf=true):0<=n/\n<=255:=by
 simp[Lit.wf,IntKind.min,IntKind.max,IntKind.signed,IntKind.bits] at h;omega
theorem card_twoA {α:Type}:∀{l:List α},l.length=2->∃x y,l=[x,y]
 |[x,y],_=>⟨x,y,rfl⟩
section
variable {H:Type} {enc:TypeId×Value->H} {w:World} {base:Nat} {held:Bool}
theorem card_arr2 {r:Reach} {b0:Nat} {v:Value} {d:DataW H} {p:List MemPlace} (hv:Value.okWide Tryz.prog w r b0 25 v) (h:DataW.Trod enc Tryz.prog w base (fun _=>true) held 25 v d p):
  ∃a b:Int,v=.agg #[.int .i64 a,.int .i64 b]/\(-9223372036854775808<=a/\a<=9223372036854775807)/\(-9223372036854775808<=b/\b<=9223372036854775807):=by
 have c2:Tryz.prog.cellsOf 25=2:=by kernel_rfl
 have c1:Tryz.prog.cellsOf 3=1:=by kernel_rfl
 unfold Value.okWide at hv;rw[Tryz.underlying25] at hv;obtain⟨cs,rfl,hsz,-⟩:=hv;rw[c2] at hsz;obtain⟨fuel,ht⟩:=h;obtain⟨u0,u1,hcs⟩:=card_twoA (l:=cs.toList) (by rw[Array.length_toList];exact hsz);have hcs':cs=#[u0,u1]:=by rw[<-Array.toList_inj,hcs]
 subst hcs';have ht:DataW.trod enc Tryz.prog w base (fun _=>true) held fuel 25 [u0,u1]=some (d,p):=ht;obtain⟨xs,k,_,_,_,hx2,hel⟩:=DataW.trod_array Tryz.underlying25 ht;obtain⟨y0,y1,rfl⟩:=card_twoA hx2;have e0:=hel 0 (by decide);have e1:=hel 1 (by decide);rw[c1] at e0 e1;obtain⟨m0,q0,_,b0⟩:=DataW.trod_int Tryz.underlying3 (show DataW.trod enc Tryz.prog w base (fun _=>true) held k 3 [u0]=some y0 from e0);obtain⟨m1,q1,_,b1⟩:=DataW.trod_int Tryz.underlying3 (show DataW.trod enc Tryz.prog w base (fun _=>true) held k 3 [u1]=some y1 from e1);have q0':u0=.int .i64 m0:=List.singleton_inj.1 q0
 have q1':u1=.int .i64 m1:=List.singleton_inj.1 q1;subst q0' q1';exact⟨m0,m1,rfl,card_i64a b0,card_i64a b1⟩
end
end Go.Proofs.YtfplbbphficcjaaGreatDoor
