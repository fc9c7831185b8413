/-
  The mathematics of streams (chapter 17), more: which block stands where; a sum that is another one is told.
-/
import Derived.Test.YtpgmbhpbgkljdaaGreatDoorM17bZ
set_option linter.unusedVariables false
set_option linter.unusedSimpArgs false
set_option maxRecDepth 100000
set_option maxHeartbeats 12800000
namespace Go.Proofs.YtpgmbhpbgkljdaaGreatDoor
open Go.RowKit Go Go.Shelf
theorem bodyW_cons (t:ByteArray) (l:List ByteArray):bodyW (t::l)=cB t++bodyW l:=rfl
theorem bodyW_append (x y:List ByteArray):bodyW (x++y)=bodyW x++bodyW y:=by unfold bodyW;simp
theorem bodyW_take {l:List ByteArray} {i:Nat} {t:ByteArray} (h:l[i]? =some t):bodyW (l.take (i+1))=bodyW (l.take i)++cB t:=by
 rw[List.take_add_one,h];show bodyW (l.take i++[t])=_;rw[bodyW_append,bodyW_cons];show _++(cB t++[])=_;rw[List.append_nil]
theorem posW_get (r:Int):∀(l:List ByteArray) (a i:Nat) (t:ByteArray),l[i]? =some t->
  (posW r a l)[i]? =some ⟨t,((fG t.data.toList).toNat:Int),((a+(bodyW (l.take i)).length:Nat):Int),((a+(bodyW (l.take (i+1))).length:Nat):Int),r⟩
 |[],_,i,_,h=>by simp at h
 |t0::l,a,0,t,h=>by
  obtain rfl:t0=t:=by simpa using h
  rw[bodyW_take h];show some (⟨t0,_,(a:Int),_,r⟩:Prt)=some ⟨t0,_,((a+0:Nat):Int),((a+([]++cB t0).length:Nat):Int),r⟩;rw[List.nil_append,Nat.add_zero]
 |t0::l,a,i+1,t,h=>by
  have h':l[i]? =some t:=by simpa using h
  have ih:=posW_get r l (a+(cB t0).length) i t h';show(posW r (a+(cB t0).length) l)[i]? =_;rw[ih,List.take_succ_cons,List.take_succ_cons,bodyW_cons,bodyW_cons,List.length_append,List.length_append,Nat.add_assoc,Nat.add_assoc]
theorem body_stands {s:List UInt8} {a:Nat} {l:List ByteArray} {m:List Bool} (h:fH s a (bodyW l++m)) {i:Nat} {t:ByteArray} (ht:l[i]? =some t):fH s (a+(bodyW (l.take i)).length) (cB t):=by
 have e:bodyW l=bodyW (l.take i)++(cB t++bodyW (l.drop (i+1))):=by
  have h1:l=l.take (i+1)++l.drop (i+1):=(List.take_append_drop _ _).symm
  conv=>lhs;rw[h1]
  rw[bodyW_append,bodyW_take ht,List.append_assoc]
 rw[e,List.append_assoc] at h;exact(jN (jN (jN h).2).1).1
theorem strW_parts {s:List UInt8} {a n:Nat} {l:List ByteArray} (h:fH s a (padW (strW n l))):
  fH s (a+32) (bodyW l++(aY 0x177245385090 48++(aY (sumW l).toNat 32++List.replicate (padN (strW n l).length) false))):=by
 unfold padW at h;have hsp:strW n l++List.replicate (padN (strW n l).length) false=kW (headW n)++(bodyW l++(aY 0x177245385090 48++(aY (sumW l).toNat 32++List.replicate (padN (strW n l).length) false))):=by
  unfold strW;simp only[List.append_assoc]
 rw[hsp] at h;have:=(jN h).2;rwa[xZ,show(headW n).length=4 from rfl] at this
theorem strF_sum {s:List UInt8} {r:Int} (hr:r<=360) {v:Nat} (hvb:v<2^32) {m:List Bool}:∀(l:List ByteArray) (f a:Nat) (acc:List Prt),(∀t∈l,okT r t)->l.length<f->
  fH s a (bodyW l++(aY 0x177245385090 48++(aY v 32++m)))->v≠(sumsP (acc++posW r a l)).toNat->(strF s r f (a:Int) acc).2.2=7
 |[],0,_,_,_,hf,_,_=>absurd hf (by simp)
 |[],f+1,a,acc,_,_,h,hv=>by
  have hb:bodyW []=[]:=rfl;rw[hb,List.nil_append] at h;obtain⟨h1,h2⟩:=jN h;rw[cY] at h2;obtain⟨h3,_⟩:=jN h2;have g1:=uX h1 (by decide);have g2:=uX h3 hvb;have e1:((a+48:Nat):Int)=(a:Int)+48:=by push_cast;rfl
  rw[e1] at g2;have hp:posW r a []=[]:=rfl;rw[hp,List.append_nil] at hv;unfold strF;rw[if_neg (fun k=>k g1.1),if_pos g1.2];unfold endD;rw[if_neg (fun k=>k g2.1),if_pos (by rw[g2.2];exact hv)]
 |t::l,0,_,_,_,hf,_,_=>absurd hf (by simp)
 |t::l,f+1,a,acc,ho,hf,h,hv=>by
  rw[bodyW_cons,List.append_assoc] at h;obtain⟨h1,h2⟩:=jN h;obtain⟨R,hR⟩:=blkT_head t;have h1':=h1;rw[hR] at h1';have g1:=uX (jN h1').1 (by decide);obtain⟨o1,o2,o3⟩:=ho t (List.mem_cons_self ..);have hbk:=EI o1 o2 o3 hr h1;have ih:=strF_sum hr hvb l f (a+(cB t).length) (acc++[⟨t,((fG t.data.toList).toNat:Int),(a:Int),((a+(cB t).length:Nat):Int),r⟩]) (fun x hx=>ho x (List.mem_cons_of_mem _ hx)) (by simp at hf;omega) h2 (by rw[List.append_assoc];exact hv);unfold strF;rw[if_neg (fun k=>k g1.1),if_neg (by rw[g1.2];decide),if_neg (fun k=>k g1.2),hbk]
  simp only
  rw[if_neg (fun k=>k rfl),ih]
end Go.Proofs.YtpgmbhpbgkljdaaGreatDoor
