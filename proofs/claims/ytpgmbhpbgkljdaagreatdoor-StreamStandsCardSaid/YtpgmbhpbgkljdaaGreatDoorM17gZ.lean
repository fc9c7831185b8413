/-
  The mathematics of streams (chapter 17), more: how many parts there are at most.
-/
import Derived.Test.YtpgmbhpbgkljdaaGreatDoorM17fZ
set_option linter.unusedVariables false
set_option linter.unusedSimpArgs false
set_option maxRecDepth 100000
set_option maxHeartbeats 12800000
namespace Go.Proofs.YtpgmbhpbgkljdaaGreatDoor
open Go.RowKit Go Go.Shelf
theorem strF_parts {s:List UInt8} {r:Int}:∀(f:Nat) (a:Int) (acc:List Prt),(strF s r f a acc).2.2=0->96*((strF s r f a acc).1.length:Int)+a+80<=96*(acc.length:Int)+(strF s r f a acc).2.1
 |0,_,_,h=>absurd h (by show(2:Int)≠0;decide)
 |f+1,a,acc,h=>by
  have hok:=strF_ok (s:=s) (r:=r) (f+1) a acc h;unfold strF at h hok ⊢
  by_cases q1:aO s.length a 48≠0
  ·rw[if_pos q1] at h;exact absurd h q1
  rw[if_neg q1] at h hok ⊢
  by_cases q2:aE s a 48=0x177245385090
  ·rw[if_pos q2] at h hok ⊢;show 96*(acc.length:Int)+a+80<=96*(acc.length:Int)+(endD s a (sumsP acc)).1;have:a+80<=(endD s a (sumsP acc)).1:=hok.1;omega
  rw[if_neg q2] at h hok ⊢
  by_cases q3:aE s a 48≠0x314159265359
  ·rw[if_pos q3] at h;exact absurd h (by show(3:Int)≠0;decide)
  rw[if_neg q3] at h hok ⊢
  by_cases q4:(cL s a r).2.2.2≠0
  ·rw[if_pos q4] at h;exact absurd h q4
  rw[if_neg q4] at h hok ⊢;have hk:=YK (Decidable.not_not.1 q4);have ih:=strF_parts f _ _ h;rw[List.length_append,List.length_singleton] at ih;push_cast at ih;omega
theorem strD_parts {s:List UInt8} {a:Int} (_h0:0<=a) (h:(strD s a).2.2=0):96*((strD s a).1.length:Int)+a<=(strD s a).2.1:=by
 unfold strD at h ⊢
 by_cases q:(roomL s (a/8).toNat).2≠0
 ·rw[if_pos q] at h;exact absurd h q
 rw[if_neg q] at h ⊢;have:=strF_parts _ _ _ h;simp only[List.length_nil] at this;omega
theorem strD_count {s:List UInt8} {a:Int} (h0:0<=a) (h:a<=8*(s.length:Int)):96*((strD s a).1.length:Int)+a<=8*(s.length:Int)+32:=by
 unfold strD;split
 ·show 96*(([]:List Prt).length:Int)+a<=_;simp only[List.length_nil];omega
 ·next q=>
  by_cases k:a+32<=8*(s.length:Int)
  ·have:=strF_count (s:=s) (r:=(roomL s (a/8).toNat).1) (8*s.length+1) (a+32) [] (by omega) k;simp only[List.length_nil] at this;omega
  ·have:(strF s (roomL s (a/8).toNat).1 (8*s.length+1) (a+32) []).1=[]:=by
    unfold strF;have hg:aO s.length (a+32) 48≠0:=by unfold aO;rw[if_neg (by omega),if_pos (by omega)];decide
    rw[if_pos hg]
   rw[this];simp only[List.length_nil];omega
theorem arcF_count {s:List UInt8}:∀(f:Nat) (a:Int) (acc:List Prt),0<=a->a<=8*(s.length:Int)->96*((arcF s f a acc).1.length:Int)+a<=96*(acc.length:Int)+8*(s.length:Int)+32
 |0,a,acc,_,h=>by show 96*(acc.length:Int)+a<=_;omega
 |f+1,a,acc,h0,h=>by
  unfold arcF;have hd:=strD_count (s:=s) h0 h;split
  ·show 96*(acc.length:Int)+a<=_;omega
  split
  ·show 96*((acc++(strD s a).1).length:Int)+a<=_;rw[List.length_append];push_cast;omega
  ·next q=>
   have hk:=strD_ok (Decidable.not_not.1 q);have hp:=strD_parts (s:=s) (a:=a) h0 (Decidable.not_not.1 q);have ih:=arcF_count (s:=s) f (strD s a).2.1 (acc++(strD s a).1) (by omega) hk.2;rw[List.length_append] at ih;push_cast at ih;omega
theorem arcT_count (s:ByteArray) {T:List (Prt×Int)} (h:T=arcT s.data.toList):T.length<=8*s.size+2:=by
 have hl:s.data.toList.length=s.size:=by simp
 have:((arcD s.data.toList).1.length:Int)*96<=8*(s.size:Int)+32:=by
  unfold arcD;split
  ·simp;omega
  ·have:=arcF_count (s:=s.data.toList) (8*s.data.toList.length+1) 0 [] (by decide) (by omega);simp only[List.length_nil] at this;rw[hl] at this ⊢;omega
 rw[h];unfold arcT okP;rw[List.length_append,List.length_map];split<;>simp<;>omega
end Go.Proofs.YtpgmbhpbgkljdaaGreatDoor
