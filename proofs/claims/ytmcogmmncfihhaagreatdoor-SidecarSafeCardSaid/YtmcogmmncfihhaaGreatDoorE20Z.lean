/-
  The walks of sidecars (chapter 20): errors.Is of what is wrong with a sidecar, at a code; the number of an error.
-/
import Derived.Test.YtmcogmmncfihhaaGreatDoorP20Z
import Derived.LaidEql
import Derived.Stop.Asserts
import Derived.Lib.IfaceEq
import Derived.RowKitTokens
set_option linter.unusedVariables false
set_option linter.unusedSimpArgs false
set_option maxRecDepth 100000
set_option maxHeartbeats 12800000
namespace Go.Proofs.YtmcogmmncfihhaaGreatDoor
open Go.RowKit Go.Extern.Stop Go.Stop Go.Extern
theorem s20Type (v:Value) (w:World):(ReflectliteType.typeOf #[.iface 69 v]).run Tryz.prog w=.ok (.iface 150 (.agg #[.pointer (some ⟨1,69,none⟩)])) w:=by kernel_rfl
def cmp20:TypeId->Sem Value:=fun t=>do Rtype.noPackHeld "Comparable" t;pure (.bool (<-typeInfo t).comparable)
theorem s20Comp (w:World):(ReflectliteType.method cmp20 #[.agg #[.pointer (some ⟨1,69,none⟩)]]).run Tryz.prog w=.ok (.bool true) w:=by kernel_rfl
theorem s20MComp (v:Value) (w:World):(Go.method 416 150 v "Comparable").run Tryz.prog w=.ok (201,v) w:=by kernel_rfl
theorem s20MIs (v:Value) (w:World):(Go.method 416 69 v "Is").run Tryz.prog w=.ok (196,v) w:=by kernel_rfl
theorem s20MUn (v:Value) (w:World):(Go.method 416 71 v "Unwrap").run Tryz.prog w=.ok (198,v) w:=by kernel_rfl
theorem s20Cmp:(Tryz.prog.info? 69).map (·.comparable)=some true:=by kernel_rfl
theorem s20hasIs (v:Value) (xT:TypeId) (w:World):(Instr.typeAssert (.iface 69 v) xT 152 true).run Tryz.prog w=.ok (.tuple #[.iface 69 v,.bool true]) w:=run_typeAssert_hasB Tryz.underlying152 (by kernel_rfl) v xT w
theorem s20noUn (v:Value) (xT:TypeId) (w:World):(Instr.typeAssert (.iface 69 v) xT 155 true).run Tryz.prog w=.ok (.tuple #[.nilIface,.bool false]) w:=run_typeAssert_lacksB Tryz.underlying155 (by kernel_rfl) (by kernel_rfl) v xT w
theorem s20noUns (v:Value) (xT:TypeId) (w:World):(Instr.typeAssert (.iface 69 v) xT 157 true).run Tryz.prog w=.ok (.tuple #[.nilIface,.bool false]) w:=run_typeAssert_lacksB Tryz.underlying157 (by kernel_rfl) (by kernel_rfl) v xT w
theorem s20noIsW (v:Value) (xT:TypeId) (w:World):(Instr.typeAssert (.iface 71 v) xT 152 true).run Tryz.prog w=.ok (.tuple #[.nilIface,.bool false]) w:=run_typeAssert_lacksB Tryz.underlying152 (by kernel_rfl) (by kernel_rfl) v xT w
theorem s20hasUnW (v:Value) (xT:TypeId) (w:World):(Instr.typeAssert (.iface 71 v) xT 155 true).run Tryz.prog w=.ok (.tuple #[.iface 71 v,.bool true]) w:=run_typeAssert_hasB Tryz.underlying155 (by kernel_rfl) v xT w
theorem s20code (c:Int) (w:World):(Instr.typeAssert (.iface 69 (.int .i64 c)) 66 69 true).run Tryz.prog w=.ok (.tuple #[.int .i64 c,.bool true]) w:=by kernel_rfl
theorem unw20_any (p:ByteArray) (x:Int) (w:World):
  Calls Tryz.prog 198 #[.agg #[.string p,.iface 69 (.int .i64 x)]] w fun e w'=>e=.returned (.iface 69 (.int .i64 x))/\Below w.heap.size w w':=by
 have hb:Below w.heap.size w (w.alloc (.cells #[.string p,.iface 69 (.int .i64 x)] 71)):=bD (Below.refl _ _) _;go_enter Tryz.func198,Tryz.ntmps198;go_wp2;go_ret;exact⟨rfl,hb⟩
theorem cis20_any (x c:Int) (w:World):
  Calls Tryz.prog 196 #[.int .i64 x,.iface 69 (.int .i64 c)] w fun e w'=>e=.returned (.bool (x==c))/\w'=w:=by
 have hc:=s20code;go_enter Tryz.func196,Tryz.ntmps196;go_wp2;go_ret;exact⟨rfl,rfl⟩
theorem isIn20_any (p:ByteArray) (x c:Int) (w:World):
  Calls Tryz.prog 65 #[.iface 71 (.agg #[.string p,.iface 69 (.int .i64 x)]),.iface 69 (.int .i64 c),.bool true] w fun e w'=>e=.returned (.bool (x==c))/\Below w.heap.size w w':=by
 have q1:=s20hasIs;have q2:=s20noUn;have q3:=s20noUns;have q4:=s20noIsW;have q5:=s20hasUnW;have m1:=s20MIs;have m2:=s20MUn;have n1:∀w,(binOp .eql 66 (.iface 71 (.agg #[.string p,.iface 69 (.int .i64 x)])) (.iface 69 (.int .i64 c))).run Tryz.prog w=.ok (.bool false) w:=run_eql_iface_types (P:=Tryz.prog) _ _ _ _ Tryz.underlying66 (by decide);have n2:∀w,(binOp .eql 66 (.iface 69 (.int .i64 x)) (.iface 69 (.int .i64 c))).run Tryz.prog w=.ok (.bool (x==c)) w:=fun w=>Lib.run_eql_iface_int (P:=Tryz.prog) w x c Tryz.underlying66 s20Cmp Tryz.underlying69
 have n3:∀w,(binOp .eql 66 (.iface 69 (.int .i64 x)) .nilIface).run Tryz.prog w=.ok (.bool false) w:=fun w=>by kernel_rfl
 obtain⟨r,hr⟩:∃r:Bool,r=(x==c):=⟨_,rfl⟩;have hci:=fun W=>cis20_any x c W
 have hun:=fun W=>unw20_any p x W
 rw[<-hr] at n2 ⊢;rw[<-hr] at hci;clear hr;go_enter Tryz.func65,Tryz.ntmps65;go_wp2_with fail;refine wp_loop_rounds 2 ?_;rw[rounds_succ];go_wp2_with fail;refine(hun _).mono ?_;rintro e w1 ⟨rfl,h1⟩;go_wp2_with fail;rw[rounds_succ]
 cases r with
 |true=>
  go_wp2_with fail;go_ret;exact⟨rfl,h1⟩
 |false=>
  go_wp2_with fail;refine(hci _).mono ?_;rintro e w2 ⟨rfl,rfl⟩;go_wp2_with fail;go_ret;exact⟨rfl,h1⟩
theorem is20_any (p:ByteArray) (x c:Int) (w:World):
  Calls Tryz.prog 46 #[.iface 71 (.agg #[.string p,.iface 69 (.int .i64 x)]),.iface 69 (.int .i64 c)] w fun e w'=>e=.returned (.bool (x==c))/\Below w.heap.size w w':=by
 have h8:=@run_callFunc_extern Tryz.prog 64 _ ReflectliteType.typeOf Tryz.func64 (by kernel_rfl) (by kernel_rfl) (by kernel_rfl) (by kernel_rfl);have h32:=@run_callFunc_extern Tryz.prog 201 _ (ReflectliteType.method cmp20) Tryz.func201 (by kernel_rfl) (by kernel_rfl) (by kernel_rfl) (by kernel_rfl);have tT:=s20Type;have cT:=s20Comp;have mR:=s20MComp;have n3:∀w,(binOp .eql 66 (.iface 71 (.agg #[.string p,.iface 69 (.int .i64 x)])) .nilIface).run Tryz.prog w=.ok (.bool false) w:=fun w=>by kernel_rfl
 have n4:∀w,(binOp .eql 66 (.iface 69 (.int .i64 c)) .nilIface).run Tryz.prog w=.ok (.bool false) w:=fun w=>by kernel_rfl
 have hin:=fun W=>isIn20_any p x c W
 go_enter Tryz.func46,Tryz.ntmps46;go_wp2_with fail;refine(hin _).mono ?_;rintro e w1 ⟨rfl,h1⟩;go_wp2_with fail;go_ret;exact⟨rfl,h1⟩
theorem isNil20_any (c:Int) (w:World):
  Calls Tryz.prog 46 #[.nilIface,.iface 69 (.int .i64 c)] w fun e w'=>e=.returned (.bool false)/\w'=w:=by
 have hn:=run_eql_iface_nil_left (P:=Tryz.prog) w 69 (.int .i64 c) Tryz.underlying66;go_enter Tryz.func46,Tryz.ntmps46;go_wp2;go_ret;exact⟨rfl,rfl⟩
theorem errno20_any (p:ByteArray) (x:Int) (w:World) (hx:x=2\/x=3\/x=7):
  Calls Tryz.prog 29 #[.iface 71 (.agg #[.string p,.iface 69 (.int .i64 x)])] w fun e w'=>e=.returned (.int .i64 x)/\Below w.heap.size w w':=by
 have his:=fun c W=>is20_any p x c W
 have a0:∀w,(Instr.index 97 (.agg #[.int .i64 2,.int .i64 3,.int .i64 7]) (.int .i64 0)).run Tryz.prog w=.ok (.int .i64 2) w:=fun w=>by kernel_rfl
 have a1:∀w,(Instr.index 97 (.agg #[.int .i64 2,.int .i64 3,.int .i64 7]) (.int .i64 1)).run Tryz.prog w=.ok (.int .i64 3) w:=fun w=>by kernel_rfl
 have a2:∀w,(Instr.index 97 (.agg #[.int .i64 2,.int .i64 3,.int .i64 7]) (.int .i64 2)).run Tryz.prog w=.ok (.int .i64 7) w:=fun w=>by kernel_rfl
 have i2:=his 2;have i3:=his 3;have i7:=his 7;clear his;go_enter Tryz.func29,Tryz.ntmps29;go_wp2_with fail;refine wp_loop_rounds 4 ?_;rw[rounds_succ];go_wp2_with fail;refine(i2 _).mono ?_;rintro e w1 ⟨rfl,h1⟩;rcases hx with rfl|hx
 ·go_wp2_with fail;go_ret;exact⟨rfl,h1⟩
 have n2:(x==2)=false:=beq_eq_false_iff_ne.2 (by omega);rw[n2];go_wp2_with fail;rw[rounds_succ];go_wp2_with fail;refine(i3 _).mono ?_;rintro e w2 ⟨rfl,h2⟩;rcases hx with rfl|rfl
 ·go_wp2_with fail;go_ret;exact⟨rfl,bV h1 h2⟩
 go_wp2_with fail;rw[rounds_succ];go_wp2_with fail;refine(i7 _).mono ?_;rintro e w3 ⟨rfl,h3⟩;go_wp2_with fail;go_ret;exact⟨rfl,bV (bV h1 h2) h3⟩
theorem errnoNil20_any (w:World):
  Calls Tryz.prog 29 #[.nilIface] w fun e w'=>e=.returned (.int .i64 0)/\w'=w:=by
 have a0:∀w,(Instr.index 97 (.agg #[.int .i64 2,.int .i64 3,.int .i64 7]) (.int .i64 0)).run Tryz.prog w=.ok (.int .i64 2) w:=fun w=>by kernel_rfl
 have a1:∀w,(Instr.index 97 (.agg #[.int .i64 2,.int .i64 3,.int .i64 7]) (.int .i64 1)).run Tryz.prog w=.ok (.int .i64 3) w:=fun w=>by kernel_rfl
 have a2:∀w,(Instr.index 97 (.agg #[.int .i64 2,.int .i64 3,.int .i64 7]) (.int .i64 2)).run Tryz.prog w=.ok (.int .i64 7) w:=fun w=>by kernel_rfl
 have i2:=fun W=>isNil20_any 2 W
 have i3:=fun W=>isNil20_any 3 W
 have i7:=fun W=>isNil20_any 7 W
 go_enter Tryz.func29,Tryz.ntmps29;go_wp2_with fail;refine wp_loop_rounds 4 ?_;rw[rounds_succ];go_wp2_with fail;refine(i2 _).mono ?_;rintro e w1 ⟨rfl,rfl⟩;go_wp2_with fail;rw[rounds_succ];go_wp2_with fail;refine(i3 _).mono ?_;rintro e w1 ⟨rfl,rfl⟩;go_wp2_with fail;rw[rounds_succ];go_wp2_with fail;refine(i7 _).mono ?_;rintro e w1 ⟨rfl,rfl⟩;go_wp2_with fail;rw[rounds_succ];go_wp2_with fail;go_ret;exact⟨rfl,rfl⟩
end Go.Proofs.YtmcogmmncfihhaaGreatDoor
