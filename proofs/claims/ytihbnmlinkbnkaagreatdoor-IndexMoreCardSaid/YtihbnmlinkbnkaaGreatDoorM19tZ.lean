/-
  The mathematics of an archive's index (chapter 19): an entry's part of what the archive says.
-/
import Derived.Test.YtihbnmlinkbnkaaGreatDoorM19bZ
import Derived.Test.YtihbnmlinkbnkaaGreatDoorZ46
set_option linter.unusedVariables false
set_option linter.unusedSimpArgs false
set_option maxRecDepth 100000
set_option maxHeartbeats 12800000
namespace Go.Proofs.YtihbnmlinkbnkaaGreatDoor
open Go.RowKit Go
theorem catT_len:∀l:List Prt,(iH (l.map Prt.t)).size=vE l
 |[]=>rfl
 |p::l=>by
  have h:=congrArg List.length (MX [p.t] (l.map Prt.t));rw[List.length_append] at h;have e1:∀x:ByteArray,x.data.toList.length=x.size:=fun x=>by simp
  rw[e1,e1,e1,catT_len l] at h;have e2:(iH [p.t]).size=p.t.size:=by
   unfold iH;rw[cS];simp
  rw[List.map_cons,bEn,<-e2,<-h];rfl
theorem catT_part {P:List Prt} {i:Nat} {p:Prt} (h:P[i]? =some p):
  (iH (P.map Prt.t)).extract (vE (P.take i)) (vE (P.take i)+p.t.size)=p.t/\vE (P.take i)+p.t.size<=(iH (P.map Prt.t)).size:=by
 have hi:=(List.getElem?_eq_some_iff.1 h).1;have hP:P.map Prt.t=(P.take i).map Prt.t++([p.t]++(P.drop (i+1)).map Prt.t):=by
  conv=>lhs;rw[<-List.take_append_drop i P,List.drop_eq_getElem_cons hi]
  rw[List.getElem?_eq_getElem hi] at h;rw[Option.some.inj h,List.map_append,List.map_cons];rfl
 have hl:=catT_len (P.take i);have hd:(iH (P.map Prt.t)).data.toList=(iH ((P.take i).map Prt.t)).data.toList++(p.t.data.toList++(iH ((P.drop (i+1)).map Prt.t)).data.toList):=by
  rw[hP,MX,MX]
  congr 2
  unfold iH;simp
 have e1:∀x:ByteArray,x.data.toList.length=x.size:=fun x=>by simp
 refine⟨?_,?_⟩
 ·refine ByteArray.ext (Array.toList_inj.1 ?_);rw[iW,dP,hd,show vE (P.take i)+p.t.size-vE (P.take i)=p.t.data.toList.length by rw[e1];omega,List.drop_left' (by rw[e1,hl]),List.take_left]
 ·have:=congrArg List.length hd;rw[List.length_append,List.length_append,e1,e1,e1,e1,hl] at this;omega
end Go.Proofs.YtihbnmlinkbnkaaGreatDoor
