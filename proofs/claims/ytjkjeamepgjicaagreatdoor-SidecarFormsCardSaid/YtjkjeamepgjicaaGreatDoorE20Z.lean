/-
  The walks of sidecars (chapter 20): errors.Is of what is wrong with a sidecar, at a code; the number of an error.
-/
import Derived.Test.YtjkjeamepgjicaaGreatDoorP20Z
import Derived.LaidEql
import Derived.Stop.Asserts
import Derived.Lib.IfaceEq
import Derived.RowKitTokens
set_option linter.unusedVariables false
set_option linter.unusedSimpArgs false
set_option maxRecDepth 100000
set_option maxHeartbeats 12800000
namespace Go.Proofs.YtjkjeamepgjicaaGreatDoor
open Go.RowKit Go.Extern.Stop Go.Stop Go.Extern
theorem s20Type (v:Value) (w:World):(ReflectliteType.typeOf #[.iface 50 v]).run Tryz.prog w=.ok (.iface 84 (.agg #[.pointer (some ⟨1,50,none⟩)])) w:=by kernel_rfl
def cmp20:TypeId->Sem Value:=fun t=>do Rtype.noPackHeld "Comparable" t;pure (.bool (<-typeInfo t).comparable)
theorem s20Comp (w:World):(ReflectliteType.method cmp20 #[.agg #[.pointer (some ⟨1,50,none⟩)]]).run Tryz.prog w=.ok (.bool true) w:=by kernel_rfl
theorem s20MComp (v:Value) (w:World):(Go.method 356 84 v "Comparable").run Tryz.prog w=.ok (137,v) w:=by kernel_rfl
theorem s20MIs (v:Value) (w:World):(Go.method 356 50 v "Is").run Tryz.prog w=.ok (132,v) w:=by kernel_rfl
theorem s20MUn (v:Value) (w:World):(Go.method 356 52 v "Unwrap").run Tryz.prog w=.ok (134,v) w:=by kernel_rfl
theorem s20Cmp:(Tryz.prog.info? 50).map (·.comparable)=some true:=by kernel_rfl
theorem s20hasIs (v:Value) (xT:TypeId) (w:World):(Instr.typeAssert (.iface 50 v) xT 86 true).run Tryz.prog w=.ok (.tuple #[.iface 50 v,.bool true]) w:=run_typeAssert_hasB Tryz.underlying86 (by kernel_rfl) v xT w
theorem s20noUn (v:Value) (xT:TypeId) (w:World):(Instr.typeAssert (.iface 50 v) xT 89 true).run Tryz.prog w=.ok (.tuple #[.nilIface,.bool false]) w:=run_typeAssert_lacksB Tryz.underlying89 (by kernel_rfl) (by kernel_rfl) v xT w
theorem s20noUns (v:Value) (xT:TypeId) (w:World):(Instr.typeAssert (.iface 50 v) xT 91 true).run Tryz.prog w=.ok (.tuple #[.nilIface,.bool false]) w:=run_typeAssert_lacksB Tryz.underlying91 (by kernel_rfl) (by kernel_rfl) v xT w
theorem s20noIsW (v:Value) (xT:TypeId) (w:World):(Instr.typeAssert (.iface 52 v) xT 86 true).run Tryz.prog w=.ok (.tuple #[.nilIface,.bool false]) w:=run_typeAssert_lacksB Tryz.underlying86 (by kernel_rfl) (by kernel_rfl) v xT w
theorem s20hasUnW (v:Value) (xT:TypeId) (w:World):(Instr.typeAssert (.iface 52 v) xT 89 true).run Tryz.prog w=.ok (.tuple #[.iface 52 v,.bool true]) w:=run_typeAssert_hasB Tryz.underlying89 (by kernel_rfl) v xT w
theorem s20code (c:Int) (w:World):(Instr.typeAssert (.iface 50 (.int .i64 c)) 45 50 true).run Tryz.prog w=.ok (.tuple #[.int .i64 c,.bool true]) w:=by kernel_rfl
theorem unw20_any (p:ByteArray) (x:Int) (w:World):
  Calls Tryz.prog 134 #[.agg #[.string p,.iface 50 (.int .i64 x)]] w fun e w'=>e=.returned (.iface 50 (.int .i64 x))/\Below w.heap.size w w':=by
 have hb:Below w.heap.size w (w.alloc (.cells #[.string p,.iface 50 (.int .i64 x)] 52)):=bD (Below.refl _ _) _;go_enter Tryz.func134,Tryz.ntmps134;go_wp2;go_ret;exact⟨rfl,hb⟩
theorem cis20_any (x c:Int) (w:World):
  Calls Tryz.prog 132 #[.int .i64 x,.iface 50 (.int .i64 c)] w fun e w'=>e=.returned (.bool (x==c))/\w'=w:=by
 have hc:=s20code;go_enter Tryz.func132,Tryz.ntmps132;go_wp2;go_ret;exact⟨rfl,rfl⟩
theorem isIn20_any (p:ByteArray) (x c:Int) (w:World):
  Calls Tryz.prog 27 #[.iface 52 (.agg #[.string p,.iface 50 (.int .i64 x)]),.iface 50 (.int .i64 c),.bool true] w fun e w'=>e=.returned (.bool (x==c))/\Below w.heap.size w w':=by
 have q1:=s20hasIs;have q2:=s20noUn;have q3:=s20noUns;have q4:=s20noIsW;have q5:=s20hasUnW;have m1:=s20MIs;have m2:=s20MUn;have n1:∀w,(binOp .eql 45 (.iface 52 (.agg #[.string p,.iface 50 (.int .i64 x)])) (.iface 50 (.int .i64 c))).run Tryz.prog w=.ok (.bool false) w:=run_eql_iface_types (P:=Tryz.prog) _ _ _ _ Tryz.underlying45 (by decide);have n2:∀w,(binOp .eql 45 (.iface 50 (.int .i64 x)) (.iface 50 (.int .i64 c))).run Tryz.prog w=.ok (.bool (x==c)) w:=fun w=>Lib.run_eql_iface_int (P:=Tryz.prog) w x c Tryz.underlying45 s20Cmp Tryz.underlying50
 have n3:∀w,(binOp .eql 45 (.iface 50 (.int .i64 x)) .nilIface).run Tryz.prog w=.ok (.bool false) w:=fun w=>by kernel_rfl
 obtain⟨r,hr⟩:∃r:Bool,r=(x==c):=⟨_,rfl⟩;have hci:=fun W=>cis20_any x c W
 have hun:=fun W=>unw20_any p x W
 rw[<-hr] at n2 ⊢;rw[<-hr] at hci;clear hr;go_enter Tryz.func27,Tryz.ntmps27;go_wp2_with fail;refine wp_loop_rounds 2 ?_;rw[rounds_succ];go_wp2_with fail;refine(hun _).mono ?_;rintro e w1 ⟨rfl,h1⟩;go_wp2_with fail;rw[rounds_succ]
 cases r with
 |true=>
  go_wp2_with fail;go_ret;exact⟨rfl,h1⟩
 |false=>
  go_wp2_with fail;refine(hci _).mono ?_;rintro e w2 ⟨rfl,rfl⟩;go_wp2_with fail;go_ret;exact⟨rfl,h1⟩
theorem is20_any (p:ByteArray) (x c:Int) (w:World):
  Calls Tryz.prog 21 #[.iface 52 (.agg #[.string p,.iface 50 (.int .i64 x)]),.iface 50 (.int .i64 c)] w fun e w'=>e=.returned (.bool (x==c))/\Below w.heap.size w w':=by
 have h8:=@run_callFunc_extern Tryz.prog 26 _ ReflectliteType.typeOf Tryz.func26 (by kernel_rfl) (by kernel_rfl) (by kernel_rfl) (by kernel_rfl);have h32:=@run_callFunc_extern Tryz.prog 137 _ (ReflectliteType.method cmp20) Tryz.func137 (by kernel_rfl) (by kernel_rfl) (by kernel_rfl) (by kernel_rfl);have tT:=s20Type;have cT:=s20Comp;have mR:=s20MComp;have n3:∀w,(binOp .eql 45 (.iface 52 (.agg #[.string p,.iface 50 (.int .i64 x)])) .nilIface).run Tryz.prog w=.ok (.bool false) w:=fun w=>by kernel_rfl
 have n4:∀w,(binOp .eql 45 (.iface 50 (.int .i64 c)) .nilIface).run Tryz.prog w=.ok (.bool false) w:=fun w=>by kernel_rfl
 have hin:=fun W=>isIn20_any p x c W
 go_enter Tryz.func21,Tryz.ntmps21;go_wp2_with fail;refine(hin _).mono ?_;rintro e w1 ⟨rfl,h1⟩;go_wp2_with fail;go_ret;exact⟨rfl,h1⟩
theorem isNil20_any (c:Int) (w:World):
  Calls Tryz.prog 21 #[.nilIface,.iface 50 (.int .i64 c)] w fun e w'=>e=.returned (.bool false)/\w'=w:=by
 have hn:=run_eql_iface_nil_left (P:=Tryz.prog) w 50 (.int .i64 c) Tryz.underlying45;go_enter Tryz.func21,Tryz.ntmps21;go_wp2;go_ret;exact⟨rfl,rfl⟩
theorem errno20_any (p:ByteArray) (x:Int) (w:World) (hx:x=2\/x=3\/x=7):
  Calls Tryz.prog 16 #[.iface 52 (.agg #[.string p,.iface 50 (.int .i64 x)])] w fun e w'=>e=.returned (.int .i64 x)/\Below w.heap.size w w':=by
 have his:=fun c W=>is20_any p x c W
 have a0:∀w,(Instr.index 59 (.agg #[.int .i64 2,.int .i64 3,.int .i64 7]) (.int .i64 0)).run Tryz.prog w=.ok (.int .i64 2) w:=fun w=>by kernel_rfl
 have a1:∀w,(Instr.index 59 (.agg #[.int .i64 2,.int .i64 3,.int .i64 7]) (.int .i64 1)).run Tryz.prog w=.ok (.int .i64 3) w:=fun w=>by kernel_rfl
 have a2:∀w,(Instr.index 59 (.agg #[.int .i64 2,.int .i64 3,.int .i64 7]) (.int .i64 2)).run Tryz.prog w=.ok (.int .i64 7) w:=fun w=>by kernel_rfl
 have i2:=his 2;have i3:=his 3;have i7:=his 7;clear his;go_enter Tryz.func16,Tryz.ntmps16;go_wp2_with fail;refine wp_loop_rounds 4 ?_;rw[rounds_succ];go_wp2_with fail;refine(i2 _).mono ?_;rintro e w1 ⟨rfl,h1⟩;rcases hx with rfl|hx
 ·go_wp2_with fail;go_ret;exact⟨rfl,h1⟩
 have n2:(x==2)=false:=beq_eq_false_iff_ne.2 (by omega);rw[n2];go_wp2_with fail;rw[rounds_succ];go_wp2_with fail;refine(i3 _).mono ?_;rintro e w2 ⟨rfl,h2⟩;rcases hx with rfl|rfl
 ·go_wp2_with fail;go_ret;exact⟨rfl,bV h1 h2⟩
 go_wp2_with fail;rw[rounds_succ];go_wp2_with fail;refine(i7 _).mono ?_;rintro e w3 ⟨rfl,h3⟩;go_wp2_with fail;go_ret;exact⟨rfl,bV (bV h1 h2) h3⟩
theorem errnoNil20_any (w:World):
  Calls Tryz.prog 16 #[.nilIface] w fun e w'=>e=.returned (.int .i64 0)/\w'=w:=by
 have a0:∀w,(Instr.index 59 (.agg #[.int .i64 2,.int .i64 3,.int .i64 7]) (.int .i64 0)).run Tryz.prog w=.ok (.int .i64 2) w:=fun w=>by kernel_rfl
 have a1:∀w,(Instr.index 59 (.agg #[.int .i64 2,.int .i64 3,.int .i64 7]) (.int .i64 1)).run Tryz.prog w=.ok (.int .i64 3) w:=fun w=>by kernel_rfl
 have a2:∀w,(Instr.index 59 (.agg #[.int .i64 2,.int .i64 3,.int .i64 7]) (.int .i64 2)).run Tryz.prog w=.ok (.int .i64 7) w:=fun w=>by kernel_rfl
 have i2:=fun W=>isNil20_any 2 W
 have i3:=fun W=>isNil20_any 3 W
 have i7:=fun W=>isNil20_any 7 W
 go_enter Tryz.func16,Tryz.ntmps16;go_wp2_with fail;refine wp_loop_rounds 4 ?_;rw[rounds_succ];go_wp2_with fail;refine(i2 _).mono ?_;rintro e w1 ⟨rfl,rfl⟩;go_wp2_with fail;rw[rounds_succ];go_wp2_with fail;refine(i3 _).mono ?_;rintro e w1 ⟨rfl,rfl⟩;go_wp2_with fail;rw[rounds_succ];go_wp2_with fail;refine(i7 _).mono ?_;rintro e w1 ⟨rfl,rfl⟩;go_wp2_with fail;rw[rounds_succ];go_wp2_with fail;go_ret;exact⟨rfl,rfl⟩
end Go.Proofs.YtjkjeamepgjicaaGreatDoor
