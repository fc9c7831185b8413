/-
  The mathematics of packing (chapter 18), more: how long archives of a text's pieces are.
-/
import Derived.Test.YtpgmbhpbgkljdaaGreatDoorW1
set_option maxRecDepth 100000
set_option maxHeartbeats 12800000
set_option linter.unusedVariables false
set_option linter.unusedSimpArgs false
namespace Go.Proofs.YtpgmbhpbgkljdaaGreatDoor
open Go.RowKit Go Go.Shelf
theorem blkT_len2 {t:ByteArray} (h0:0<t.size) (hp:(bC t.data.toList).length<=360) (hO:fS (mkS (bC t.data.toList))):
  (cB t).length<=22000+24*(bC t.data.toList).length:=by
 obtain⟨P,a,m,o,n,hI⟩:=BIn.of h0 (by omega) hO;have hml:m.length<=(bC t.data.toList).length+1:=by
  have:=(LW (mkS P)).1;rw[<-hI.hm,cP,hI.hP] at this;omega
 have h1:=CD a;have h2:=wL (dO (cT m n)) 2 (yW (DE m n));have h3:=wW (eH hI.c0).1;have h4:=wW (eH hI.c1).1;have h5:=YU (n:=n) (eH hI.c0).1 (eH hI.c1).1 hI.l0 hI.l1 (cT m n) (cK m) (fun g hg=>⟨(YV hg).1,fun x hx=>hI.rng x ((YV hg).2 x hx)⟩);rw[uU,wJ] at h2;rw[iD] at h5;have hn:=hI.hn;rw[hI.blk,<-hI.hP];rw[<-hI.hP] at hml;simp only[List.length_append,cY];omega
theorem bodyW_len2 {r:Int} (hr:r<=360):∀(l:List ByteArray),(∀t∈l,okT r t)->4*(bodyW l).length<=88000*l.length+120*(l.map (fun t=>t.size)).sum
 |[],_=>Nat.le_refl _
 |t::l,h=>by
  obtain⟨h0,h1,h2⟩:=h t (List.mem_cons_self ..);have ih:=bodyW_len2 hr l (fun x hx=>h x (List.mem_cons_of_mem _ hx));have h3:=blkT_len2 h0 (by omega) h1;have h4:=lnL_le t.data.toList.length t.data.toList (Nat.le_refl _);unfold lnL at h4;have h5:t.data.toList.length=t.size:=by simp
  rw[bodyW_cons,List.length_append,List.length_cons,List.map_cons,List.sum_cons];omega
end Go.Proofs.YtpgmbhpbgkljdaaGreatDoor
