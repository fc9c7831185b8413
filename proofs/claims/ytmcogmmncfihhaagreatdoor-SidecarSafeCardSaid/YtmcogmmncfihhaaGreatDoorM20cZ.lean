/-
  The mathematics of sidecars (chapter 20), more: the index of an archive is right, and its numbers have room; what is loaded is the archive's own sidecar.
-/
import Derived.Test.YtmcogmmncfihhaaGreatDoorM20bZ
import Derived.Test.YtmcogmmncfihhaaGreatDoorZ22
set_option linter.unusedVariables false
set_option linter.unusedSimpArgs false
set_option maxRecDepth 100000
set_option maxHeartbeats 12800000
namespace Go.Proofs.YtmcogmmncfihhaaGreatDoor
open Go
theorem scn20_right {s:List UInt8} {hi:Int}:∀(l:List Prt) (lo at' fr:Int),aUu s lo l hi->at'<lo->aU0 fr at' (aUj fr l)
 |[],_,_,_,_,_=>trivial
 |p::l,lo,at',fr,h,h0=>by
  obtain⟨h1,h2,h3⟩:=h;obtain⟨f1,f2,f3,f4,f5,f6⟩:=h2.facts;obtain⟨_,g2,g3,g4⟩:=h2;refine⟨⟨rfl,?_,?_,g2,g3,g4,?_⟩,scn20_right l p.z p.a _ h3 (by omega)⟩
  ·show(1:Int)<=(p.t.size:Int);omega
  ·show(p.t.size:Int)<=18720;omega
  ·show at'<p.a;omega
theorem scn20_fit {s:List UInt8} {hi:Int} (hs:s.length<=1000000):∀(l:List Prt) (lo fr:Int),aUu s lo l hi->0<=fr->fr+18720*(l.length:Int)<=9223372036854775807->∀x∈aUj fr l,x.fit
 |[],_,_,_,_,_,_,h=>nomatch h
 |p::l,lo,fr,h,h0,h9,x,hx=>by
  obtain⟨h1,h2,h3⟩:=h;obtain⟨f1,f2,f3,f4,f5,f6⟩:=h2.facts;obtain⟨_,g2,g3,g4⟩:=h2;have hc:=(fG p.t.data.toList).isLt;rw[List.length_cons] at h9;push_cast at h9;rcases List.mem_cons.1 hx with rfl|hx
  ·unfold Ent.fit;dsimp only
   rw[f1];omega
  ·exact scn20_fit hs l p.z _ h3 (by omega) (by omega) x hx
theorem own_right {s:List UInt8} (h:(hH s).2=0):aU1 (aUj 0 (hH s).1):=scn20_right _ 32 31 0 (aWs h) (by decide)
theorem own_fit {s:List UInt8} (h:(hH s).2=0) (hs:s.length<=1000000) (hl:(hH s).1.length<=100000000):∀x∈aUj 0 (hH s).1,x.fit:=
 scn20_fit hs _ 32 0 (aWs h) (Int.le_refl _) (by omega)
def loadE (a s:List UInt8):Int:=
 if(readD s).2.2.2≠0 then(readD s).2.2.2
 else if(readD s).2.1≠a.length\/(readD s).2.2.1≠(fG a).toNat then 7
 else if(hH a).2≠0 then(hH a).2
 else if aUj 0 (aUl a)≠(readD s).1 then 3 else 0
theorem load_own {a s:List UInt8} (hA:(hH a).2=0) (hs:a.length<=1000000) (hl:(hH a).1.length<=1000000):loadE a s=0↔s=sideB a.length (fG a).toNat (aUj 0 (aUl a)):=by
 have hr:aUl a=(hH a).1:=by unfold aUl;rw[if_pos hA]
 have hc:=(fG a).isLt;have hlen:(aUj 0 (aUl a)).length<=1000000:=by rw[aWd,hr];exact hl
 constructor
 ·intro h;unfold loadE at h
  by_cases q1:(readD s).2.2.2≠0
  ·rw[if_pos q1] at h;exact absurd h q1
  rw[if_neg q1] at h
  by_cases q2:(readD s).2.1≠a.length\/(readD s).2.2.1≠(fG a).toNat
  ·rw[if_pos q2] at h;exact absurd h (by decide)
  rw[if_neg q2,if_neg (by rw[hA];exact fun k=>k rfl)] at h
  by_cases q3:aUj 0 (aUl a)≠(readD s).1
  ·rw[if_pos q3] at h;exact absurd h (by decide)
  have k1:(readD s).2.1=a.length:=Decidable.not_not.1 (fun k=>q2 (.inl k));have k2:(readD s).2.2.1=(fG a).toNat:=Decidable.not_not.1 (fun k=>q2 (.inr k));have k3:aUj 0 (aUl a)=(readD s).1:=Decidable.not_not.1 q3;have:=(read_same (Decidable.not_not.1 q1)).1;rw[k1,k2,<-k3] at this;exact this.symm
 ·rintro rfl;have hb:=read_back (size:=a.length) (sum:=(fG a).toNat) (l:=aUj 0 (aUl a)) (by omega) hc (by omega) (by rw[hr];exact own_fit hA hs (by omega)) (by rw[hr];exact own_right hA);unfold loadE;rw[hb,hA];simp
theorem load_else {a s:List UInt8} {l:List Ent} {n c:Nat} (h:readD s=(l,n,c,0)) (hn:n≠a.length\/c≠(fG a).toNat):loadE a s=7:=by
 unfold loadE;rw[h,if_neg (fun k=>k rfl),if_pos hn]
end Go.Proofs.YtmcogmmncfihhaaGreatDoor
