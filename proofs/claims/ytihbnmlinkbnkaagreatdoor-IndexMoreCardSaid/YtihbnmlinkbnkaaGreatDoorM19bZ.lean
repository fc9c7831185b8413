/-
  The mathematics of indexes (chapter 19), more: the index of what is read.
-/
import Derived.Test.YtihbnmlinkbnkaaGreatDoorZ46
set_option linter.unusedVariables false
set_option linter.unusedSimpArgs false
set_option maxRecDepth 100000
set_option maxHeartbeats 12800000
namespace Go.Proofs.YtihbnmlinkbnkaaGreatDoor
open Go.RowKit Go Go.Shelf
theorem scanE_sum:∀(l:List Prt) (fr:Int),lF (gU fr l)=(vE l:Int)
 |[],_=>rfl
 |p::l,fr=>by
  show lF (_::gU _ l)=_;rw[GH,scanE_sum l,bEn];push_cast;rfl
theorem scan_right {s:List UInt8} {hi:Int}:∀{l:List Prt} {lo:Int} (fr at':Int),qZ s lo l hi->at'<lo->oL fr at' (gU fr l)
 |[],_,_,_,_,_=>trivial
 |p::l,lo,fr,at',h,ha=>by
  obtain⟨f1,f2,f3,f4,f5,f6⟩:=h.2.1.facts;obtain⟨-,g1,g2,g3⟩:=h.2.1;refine⟨⟨rfl,?_,?_,g1,g2,g3,?_⟩,?_⟩
  ·show 1<=(p.t.size:Int);omega
  ·show(p.t.size:Int)<=18720;omega
  ·show at'<p.a;have:=h.1;omega
  ·exact scan_right (fr+(p.t.size:Int)) p.a h.2.2 (by omega)
theorem scan_ok {s:List UInt8} (h:(cI s).2=0):jA (gU 0 (cI s).1):=scan_right 0 31 (ST h) (by decide)
theorem scanE_get:∀(l:List Prt) (fr:Int) (i:Nat) (p:Prt),l[i]? =some p->(gU fr l)[i]? =some ⟨p.a,p.r,fr+(vE (l.take i):Int),(p.t.size:Int),p.y⟩
 |[],_,i,p,h=>by simp at h
 |x::l,fr,0,p,h=>by
  obtain rfl:x=p:=by simpa using h
  show some _=some (⟨x.a,x.r,fr+((0:Nat):Int),_,x.y⟩:Ent);rw[Int.natCast_zero,Int.add_zero]
 |x::l,fr,i+1,p,h=>by
  have h':l[i]? =some p:=by simpa using h
  have ih:=scanE_get l (fr+(x.t.size:Int)) i p h';show(gU (fr+(x.t.size:Int)) l)[i]? =_;rw[ih,List.take_succ_cons,bEn]
  congr 2
  push_cast;omega
theorem scan_fit {s:List UInt8} (hs:8*(s.length:Int)<9223372036854775808) {hi:Int}:∀{l:List Prt} {lo:Int} (fr:Int),qZ s lo l hi->0<=fr->fr+(vE l:Int)<9223372036854775808->∀x∈gU fr l,x.fit
 |[],_,_,_,_,_,x,hx=>by simp[gU] at hx
 |p::l,lo,fr,h,h0,hb,x,hx=>by
  obtain⟨f1,f2,f3,f4,f5,f6⟩:=h.2.1.facts;obtain⟨-,g1,g2,g3⟩:=h.2.1;rw[bEn] at hb;have hc:=(cH p.t.data.toList).isLt;rcases List.mem_cons.1 hx with rfl|hx
  ·unfold Ent.fit;show 0<=p.a/\p.a<_/\0<=p.r/\p.r<_/\0<=fr/\fr<_/\0<=(p.t.size:Int)/\(p.t.size:Int)<_/\0<=p.y/\p.y<_;push_cast at hb;omega
  ·exact scan_fit hs (fr+(p.t.size:Int)) h.2.2 (by omega) (by push_cast at hb;omega) x hx
end Go.Proofs.YtihbnmlinkbnkaaGreatDoor
