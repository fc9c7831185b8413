/-
  The mathematics of streams (chapter 17), more: an archive's parts, as they are handed on one behind the other.
-/
import Derived.Test.YtpgmbhpbgkljdaaGreatDoorM17dZ
set_option linter.unusedVariables false
set_option linter.unusedSimpArgs false
set_option maxRecDepth 100000
set_option maxHeartbeats 12800000
namespace Go.Proofs.YtpgmbhpbgkljdaaGreatDoor
open Go.RowKit Go Go.Shelf
def zeroP:Prt:=⟨cW,0,0,0,0⟩
def okP (l:List Prt):List (Prt×Int):=l.map (fun p=>(p,0))
theorem okP_append (l m:List Prt):okP (l++m)=okP l++okP m:=List.map_append
theorem okP_one (p:Prt):okP [p]=[(p,0)]:=rfl
def arcT (s:List UInt8):List (Prt×Int):=okP (arcD s).1++if(arcD s).2=0 then[] else[(zeroP,(arcD s).2)]
theorem strF_acc {s:List UInt8} {r:Int}:∀(f:Nat) (a:Int) (acc:List Prt),∃m,(strF s r f a acc).1=acc++m
 |0,a,acc=>⟨[],by unfold strF;rw[List.append_nil]⟩
 |f+1,a,acc=>by
  unfold strF;split
  ·exact⟨[],by rw[List.append_nil]⟩
  split
  ·exact⟨[],by rw[List.append_nil]⟩
  split
  ·exact⟨[],by rw[List.append_nil]⟩
  split
  ·exact⟨[],by rw[List.append_nil]⟩
  ·obtain⟨m,hm⟩:=strF_acc (s:=s) (r:=r) f (cL s a r).2.2.1 (acc++[⟨(cL s a r).1,(cL s a r).2.1,a,(cL s a r).2.2.1,r⟩]);exact⟨_::m,by rw[hm,List.append_assoc];rfl⟩
theorem arcF_acc {s:List UInt8}:∀(f:Nat) (a:Int) (acc:List Prt),∃m,(arcF s f a acc).1=acc++m
 |0,a,acc=>⟨[],by unfold arcF;rw[List.append_nil]⟩
 |f+1,a,acc=>by
  unfold arcF;split
  ·exact⟨[],by rw[List.append_nil]⟩
  split
  ·exact⟨_,rfl⟩
  ·obtain⟨m,hm⟩:=arcF_acc (s:=s) f (strD s a).2.1 (acc++(strD s a).1);exact⟨(strD s a).1++m,by rw[hm,List.append_assoc]⟩
structure InT (s:List UInt8) (a:Int) (pre T:List (Prt×Int)):Prop where
 part:∀acc p m,(strD s a).1=acc++p::m->∃r,T=(pre++okP acc)++(p,0)::r
 bad:(strD s a).2.2≠0->T=(pre++okP (strD s a).1)++[(zeroP,(strD s a).2.2)]
theorem inT_of {s:List UInt8} {f:Nat} {a:Int} {acc:List Prt} (h:arcD s=arcF s (f+1) a acc) (ha:a<8*(s.length:Int)):InT s a (okP acc) (arcT s):=by
 have hu:arcF s (f+1) a acc=if 8*(s.length:Int)<=a then(acc,0) else if(strD s a).2.2≠0 then(acc++(strD s a).1,(strD s a).2.2) else arcF s f (strD s a).2.1 (acc++(strD s a).1):=rfl;rw[hu,if_neg (by omega)] at h;refine⟨fun ac p m hp=>?_,fun hb=>?_⟩
 ·have:∃r,(arcD s).1=acc++(strD s a).1++r:=by
   rw[h];split
   ·exact⟨[],by rw[List.append_nil]⟩
   ·exact arcF_acc f _ _
  obtain⟨r,hr⟩:=this;unfold arcT;rw[hr,hp];simp only[okP_append,List.append_assoc];exact⟨okP m++(okP r++if(arcD s).2=0 then[] else[(zeroP,(arcD s).2)]),by simp[okP]⟩
 ·rw[if_pos hb] at h;unfold arcT;rw[h];simp only
  rw[if_neg hb,okP_append]
theorem arc_next {s:List UInt8} {f:Nat} {a:Int} {acc:List Prt} (h:arcD s=arcF s (f+1) a acc) (ha:a<8*(s.length:Int)) (hb:(strD s a).2.2=0):arcD s=arcF s f (strD s a).2.1 (acc++(strD s a).1):=by
 rw[h];show(if 8*(s.length:Int)<=a then(acc,0) else if(strD s a).2.2≠0 then(acc++(strD s a).1,(strD s a).2.2) else arcF s f (strD s a).2.1 (acc++(strD s a).1))=_;rw[if_neg (by omega),if_neg (fun k=>k hb)]
theorem arc_done {s:List UInt8} {f:Nat} {a:Int} {acc:List Prt} (h:arcD s=arcF s (f+1) a acc) (ha:8*(s.length:Int)<=a):arcT s=okP acc/\(arcD s).2=0:=by
 have:arcD s=(acc,0):=by
  rw[h];show(if 8*(s.length:Int)<=a then(acc,0) else if(strD s a).2.2≠0 then(acc++(strD s a).1,(strD s a).2.2) else arcF s f (strD s a).2.1 (acc++(strD s a).1))=_;rw[if_pos ha]
 unfold arcT;rw[this];exact⟨by simp,rfl⟩
theorem arcT_nil:arcT []=[(zeroP,3)]:=by
 have:arcD []=([],3):=rfl;unfold arcT;rw[this];rfl
theorem strF_count {s:List UInt8} {r:Int}:∀(f:Nat) (a:Int) (acc:List Prt),0<=a->a<=8*(s.length:Int)->96*((strF s r f a acc).1.length:Int)+a<=96*(acc.length:Int)+8*(s.length:Int)
 |0,a,acc,_,h=>by show 96*(acc.length:Int)+a<=_;omega
 |f+1,a,acc,h0,h=>by
  unfold strF;split
  ·show 96*(acc.length:Int)+a<=_;omega
  split
  ·show 96*(acc.length:Int)+a<=_;omega
  split
  ·show 96*(acc.length:Int)+a<=_;omega
  split
  ·show 96*(acc.length:Int)+a<=_;omega
  ·next q=>
   have hk:=YK (Decidable.not_not.1 q);have ih:=strF_count (s:=s) (r:=r) f (cL s a r).2.2.1 (acc++[⟨(cL s a r).1,(cL s a r).2.1,a,(cL s a r).2.2.1,r⟩]) (by omega) hk.2.2.2.2.2.2.2.1;rw[List.length_append,List.length_singleton] at ih;push_cast at ih;omega
theorem strF_mod {s:List UInt8} {r:Int}:∀(f:Nat) (a:Int) (acc:List Prt),0<=a->(strF s r f a acc).2.2=0->(strF s r f a acc).2.1%8=0
 |0,_,_,_,h=>absurd h (by show(2:Int)≠0;decide)
 |f+1,a,acc,h0,h=>by
  unfold strF at h ⊢
  by_cases q1:aO s.length a 48≠0
  ·rw[if_pos q1] at h;exact absurd h q1
  rw[if_neg q1] at h ⊢
  by_cases q2:aE s a 48=0x177245385090
  ·rw[if_pos q2] at h ⊢;unfold endD at h ⊢
   by_cases r1:aO s.length (a+48) 32≠0
   ·rw[if_pos r1] at h;exact absurd h r1
   rw[if_neg r1] at h ⊢
   by_cases r2:aE s (a+48) 32≠(sumsP acc).toNat
   ·rw[if_pos r2] at h;exact absurd h (by show(7:Int)≠0;decide)
   rw[if_neg r2] at h ⊢
   by_cases r3:aE s (a+80) (padN (a+80).toNat)≠0
   ·rw[if_pos r3] at h;exact absurd h (by show(3:Int)≠0;decide)
   rw[if_neg r3];have:=padN_up (a+80).toNat;show(a+80+(padN (a+80).toNat:Int))%8=0;omega
  rw[if_neg q2] at h ⊢
  by_cases q3:aE s a 48≠0x314159265359
  ·rw[if_pos q3] at h;exact absurd h (by show(3:Int)≠0;decide)
  rw[if_neg q3] at h ⊢
  by_cases q4:(cL s a r).2.2.2≠0
  ·rw[if_pos q4] at h;exact absurd h q4
  rw[if_neg q4] at h ⊢;have hk:=YK (Decidable.not_not.1 q4);exact strF_mod f _ _ (by omega) h
theorem strD_mod {s:List UInt8} {a:Int} (h0:0<=a) (h:(strD s a).2.2=0):(strD s a).2.1%8=0:=by
 unfold strD at h ⊢
 by_cases q:(roomL s (a/8).toNat).2≠0
 ·rw[if_pos q] at h;exact absurd h q
 rw[if_neg q] at h ⊢;exact strF_mod _ _ _ (by omega) h
theorem arcT_bad {s:List UInt8} {pre r:List (Prt×Int)} {x:Prt×Int} (h:arcT s=pre++x::r) (hx:x.2≠0):x=(zeroP,(arcD s).2)/\(arcD s).2≠0:=by
 have hm:x∈arcT s:=by rw[h];simp
 unfold arcT at hm;rcases List.mem_append.1 hm with hm|hm
 ·obtain⟨p,_,rfl⟩:=List.mem_map.1 hm;exact absurd rfl hx
 ·by_cases q:(arcD s).2=0
  ·rw[if_pos q] at hm;simp at hm
  ·rw[if_neg q] at hm;exact⟨by simpa using hm,q⟩
theorem arcT_ok {s:List UInt8} (h:∀x∈arcT s,x.2=0):(arcD s).2=0/\arcT s=okP (arcD s).1:=by
 by_cases q:(arcD s).2=0
 ·exact⟨q,by unfold arcT;rw[if_pos q,List.append_nil]⟩
 ·exfalso;refine q (h (zeroP,(arcD s).2) ?_);unfold arcT;rw[if_neg q];simp
end Go.Proofs.YtpgmbhpbgkljdaaGreatDoor
