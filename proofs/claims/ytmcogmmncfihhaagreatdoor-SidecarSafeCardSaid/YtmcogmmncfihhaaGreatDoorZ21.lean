/-
  Texts put together (part 21): the walks and the plain laws on which the statement stands.
-/
import Derived.Test.YtmcogmmncfihhaaGreatDoorZ15
set_option maxRecDepth 100000
set_option maxHeartbeats 12800000
set_option linter.unusedVariables false
set_option linter.unusedSimpArgs false
open List renaming length_append->aL,length_cons->cR
namespace Go.Proofs.YtmcogmmncfihhaaGreatDoor
open Go.RowKit Go Go.Shelf
theorem YU {t0 t1:List Int} {n:Nat} (h0:fY t0) (h1:fY t1) (l0:t0.length=n) (l1:t1.length=n):∀(cs:List Int) (gs:List (List Int)),(∀g∈gs,g.length<=10/\∀x∈g,0<=x/\x<(n:Int))->(gP t0 t1 cs gs).length<=200*gs.length
 |[],gs,_=>by cases gs<;>simp[gP]
 |_::_,[],_=>by simp[gP]
 |c::cs,g::gs,h=>by
  have ih:=YU h0 h1 l0 l1 cs gs (fun g' hg=>h g' (List.mem_cons_of_mem _ hg));obtain⟨k1,k2⟩:=h g (List.mem_cons_self ..);show(eR (if c=0 then t0 else t1) g++gP t0 t1 cs gs).length<=_;rw[aL,cR];have:(eR (if c=0 then t0 else t1) g).length<=20*g.length:=by
   split
   ·exact rR h0 g (by rw[l0];exact k2)
   ·exact rR h1 g (by rw[l1];exact k2)
  omega
theorem YV {m g:List Int} (h:g∈cK m):g.length<=10/\∀x∈g,x∈m:=by
 obtain⟨i,_,rfl⟩:=List.mem_map.1 h;refine⟨by rw[List.length_take];omega,fun x hx=>List.mem_of_mem_drop (List.mem_of_mem_take hx)⟩
theorem aOt (now x:Int):0<(jU now x).length:=by
 unfold jU;rw[aL,List.length_singleton];omega
theorem YW:∀(l:List Int) (now:Int),l.length<=(eI now l).length
 |[],_=>by simp
 |x::l,now=>by
  have ih:=YW l x;have:=aOt now x;unfold eI;rw[aL,cR];omega
theorem YX (l:List Int):5+l.length<=(dW l).length:=by
 have:=YW l (l.getD 0 0);unfold dW;rw[aL,cY];omega
theorem zR {t:ByteArray} (h0:0<t.size) (hp:(bC t.data.toList).length<=360) (hO:fS (mkS (bC t.data.toList))):
  (cB t).length<=28000/\96+(fZ (bK (bC t.data.toList))).length+18+2*(5+((bK (bC t.data.toList)).length+2))<(cB t).length:=by
 obtain⟨P,a,m,o,n,hI⟩:=BIn.of h0 (by omega) hO;have hml:m.length<=361:=by
  have:=(LW (mkS P)).1;rw[<-hI.hm,cP,hI.hP] at this;omega
 have h1:=CD a;have h2:=wL (dO (cT m n)) 2 (yW (DE m n));have h2':=YQ (l:=dO (cT m n)) (by rw[uU,wJ];have:=hI.m0;omega);have h3:=wW (eH hI.c0).1;have h4:=wW (eH hI.c1).1;have h3':=YX (dN m n 0);have h4':=YX (dN m n 1);have h5:=YU (n:=n) (eH hI.c0).1 (eH hI.c1).1 hI.l0 hI.l1 (cT m n) (cK m) (fun g hg=>⟨(YV hg).1,fun x hx=>hI.rng x ((YV hg).2 x hx)⟩);rw[uU,wJ] at h2;rw[iD] at h5;rw[hI.l0] at h3';rw[hI.l1] at h4';have hn:=hI.hn
 rw[hI.blk,<-hI.hP,<-hI.ha];simp only[aL,cY];omega
theorem aOu {t:ByteArray} {n:Int} (h:eZ t n=0):0<t.size/\1<=n/\n<=360/\((bC t.data.toList).length:Int)<=n:=by
 unfold eZ at h;split at h
 ·omega
 ·split at h
  ·omega
  ·omega
theorem wY {t:ByteArray} {n:Int} (h0:0<t.size) (h1:1<=n) (h2:n<=360) (h3:((bC t.data.toList).length:Int)<=n):eZ t n=0:=by
 unfold eZ;rw[if_neg (by omega),if_neg (by omega)]
end Go.Proofs.YtmcogmmncfihhaaGreatDoor
