/-
  The mathematics of sidecars (chapter 20), more: the index of raw numbers has numbers that have room; entries as the reader reads them.
-/
import Derived.Test.YtmcogmmncfihhaaGreatDoorM20Z
import Derived.Test.YtmcogmmncfihhaaGreatDoorZ5
set_option linter.unusedVariables false
set_option linter.unusedSimpArgs false
set_option maxRecDepth 100000
set_option maxHeartbeats 12800000
namespace Go.Proofs.YtmcogmmncfihhaaGreatDoor
open Go
instance entDec:DecidableEq Ent:=fun x y=>
 if h:x.a=y.a/\x.r=y.r/\x.f=y.f/\x.n=y.n/\x.y=y.y then isTrue (by
  obtain⟨a,r,f,n,c⟩:=x;obtain⟨a',r',f',n',c'⟩:=y;obtain⟨h1,h2,h3,h4,h5⟩:=h;dsimp only at h1 h2 h3 h4 h5;rw[h1,h2,h3,h4,h5]) else isFalse (fun e=>h (by rw[e];exact⟨rfl,rfl,rfl,rfl,rfl⟩))
theorem idxT_fit:∀(l:List QR) (p fr:Int),0<=p->p+300*(l.length:Int)<=1000000->0<=fr->fr+30*(l.length:Int)<=1000000->∀x∈aUp l p fr,x.fit
 |[],_,_,_,_,_,_,_,h=>nomatch h
 |x::l,p,fr,h1,h2,h3,h4,y,hy=>by
  obtain⟨p1,p2⟩:=vU x.1 300 (by decide);obtain⟨p3,p4⟩:=vU x.2.1 30 (by decide);obtain⟨p5,p6⟩:=vU x.2.2 9 (by decide);obtain⟨p7,p8⟩:=vU x.2.2 1000 (by decide);rw[List.length_cons] at h2 h4;push_cast at h2 h4;rcases List.mem_cons.1 hy with rfl|hy
  ·unfold Ent.fit aVe;dsimp only
   omega
  ·exact idxT_fit l (p+gA x.1 300+1) (fr+(1+gA x.2.1 30)) (by omega) (by omega) (by omega) (by omega) y hy
theorem idxL_fit (raw:List QR):∀x∈aUv raw,x.fit:=by
 have h:((raw.take 20).length:Int)<=20:=by rw[List.length_take];omega
 exact idxT_fit _ _ _ (by decide) (by omega) (by decide) (by omega)
def entW (s:List UInt8):Ent:=⟨IntKind.i64.wrap (valB (s.take 8):Int),valB ((s.drop 8).take 2),IntKind.i64.wrap (valB ((s.drop 10).take 8):Int),valB ((s.drop 18).take 4),valB ((s.drop 22).take 4)⟩
def greatW (s:List UInt8):Bool:=decide (9223372036854775808<=valB (s.take 8))||decide (9223372036854775808<=valB ((s.drop 10).take 8))
def entsW:Nat->List UInt8->List Ent
 |0,_=>[]
 |n+1,s=>entW s::entsW n (s.drop 26)
def greatsW:Nat->List UInt8->Bool
 |0,_=>false
 |n+1,s=>greatW s||greatsW n (s.drop 26)
theorem valB_lt' {s:List UInt8} {k n:Nat} (h:s.length<=k) (hn:256^k=n):valB s<n:=by
 have:=valB_lt s;have:=Nat.pow_le_pow_right (n:=256) (by decide) h;omega
theorem entsW_snoc:∀(n:Nat) (s:List UInt8),entsW (n+1) s=entsW n s++[entW (s.drop (26*n))]
 |0,s=>by simp[entsW]
 |n+1,s=>by
  show entW s::entsW (n+1) (s.drop 26)=entW s::(entsW n (s.drop 26)++_);rw[entsW_snoc n,List.drop_drop,show 26+26*n=26*(n+1) by omega]
theorem greatsW_snoc:∀(n:Nat) (s:List UInt8),greatsW (n+1) s=(greatsW n s||greatW (s.drop (26*n)))
 |0,s=>by simp[greatsW]
 |n+1,s=>by
  show(greatW s||greatsW (n+1) (s.drop 26))=(greatW s||greatsW n (s.drop 26)||_);rw[greatsW_snoc n,List.drop_drop,Bool.or_assoc,show 26+26*n=26*(n+1) by omega]
theorem entsW_length:∀(n:Nat) (s:List UInt8),(entsW n s).length=n
 |0,s=>rfl
 |n+1,s=>by
  show(entsW n _).length+1=_;rw[entsW_length n]
theorem entW_fine {s:List UInt8} (h:greatW s=false):entW s=entA s/\(entA s).a<9223372036854775808/\(entA s).f<9223372036854775808:=by
 unfold greatW at h;obtain⟨h1,h2⟩:=Bool.or_eq_false_iff.1 h;have h1:=of_decide_eq_false h1;have h2:=of_decide_eq_false h2;have e1:IntKind.i64.wrap (valB (s.take 8):Int)=(valB (s.take 8):Int):=by rw[IntKind.wrap_i64];omega
 have e2:IntKind.i64.wrap (valB ((s.drop 10).take 8):Int)=(valB ((s.drop 10).take 8):Int):=by rw[IntKind.wrap_i64];omega
 refine⟨by unfold entW entA;rw[e1,e2],?_,?_⟩
 ·show(valB (s.take 8):Int)<_;omega
 ·show(valB ((s.drop 10).take 8):Int)<_;omega
theorem greatW_iff (s:List UInt8):greatW s=false↔(entA s).a<9223372036854775808/\(entA s).f<9223372036854775808:=by
 refine⟨fun h=>(entW_fine h).2,fun h=>?_⟩;have h1:(valB (s.take 8):Int)<_:=h.1;have h2:(valB ((s.drop 10).take 8):Int)<_:=h.2;unfold greatW;rw[Bool.or_eq_false_iff];exact⟨decide_eq_false (by omega),decide_eq_false (by omega)⟩
theorem entsW_fine:∀(n:Nat) (s:List UInt8),greatsW n s=false->entsW n s=entsA n s
 |0,_,_=>rfl
 |n+1,s,h=>by
  obtain⟨h1,h2⟩:=Bool.or_eq_false_iff.1 h;show entW s::_=entA s::_;rw[(entW_fine h1).1,entsW_fine n _ h2]
theorem greatsW_iff:∀(n:Nat) (s:List UInt8),greatsW n s=false↔∀x∈entsA n s,x.a<9223372036854775808/\x.f<9223372036854775808
 |0,_=>⟨fun _ _ h=>(nomatch h),fun _=>rfl⟩
 |n+1,s=>by
  show(greatW s||greatsW n (s.drop 26))=false↔∀x∈entA s::entsA n (s.drop 26),_;rw[Bool.or_eq_false_iff,greatW_iff,greatsW_iff n,List.forall_mem_cons]
theorem read_len (s:List UInt8) (h:s.length<=1000000):(readD s).1.length<=1000000:=by
 unfold readD;split
 ·exact Nat.zero_le _
 split
 ·exact Nat.zero_le _
 split
 ·exact Nat.zero_le _
 split
 ·exact Nat.zero_le _
 split
 ·exact Nat.zero_le _
 ·show(entsA _ _).length<=_;rw[entsA_length];omega
end Go.Proofs.YtmcogmmncfihhaaGreatDoor
