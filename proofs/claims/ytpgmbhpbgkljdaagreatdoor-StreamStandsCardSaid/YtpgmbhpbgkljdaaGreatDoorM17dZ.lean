/-
  The mathematics of streams (chapter 17), more: whatever is read, its parts stand in order, and each is a block.
-/
import Derived.Test.YtpgmbhpbgkljdaaGreatDoorM17bZ
set_option linter.unusedVariables false
set_option linter.unusedSimpArgs false
set_option maxRecDepth 100000
set_option maxHeartbeats 12800000
namespace Go.Proofs.YtpgmbhpbgkljdaaGreatDoor
open Go.RowKit Go Go.Shelf
def goodP (s:List UInt8) (p:Prt):Prop:=cL s p.a p.r=(p.t,p.y,p.z,0)/\40<=p.r/\p.r<=360/\p.r%40=0
def chainP (s:List UInt8):Int->List Prt->Int->Prop
 |lo,[],hi=>lo<=hi
 |lo,p::l,hi=>lo<=p.a/\goodP s p/\chainP s p.z l hi
theorem goodP.facts {s:List UInt8} {p:Prt} (h:goodP s p):p.y=((fG p.t.data.toList).toNat:Int)/\1<=p.t.size/\(p.t.size:Int)<=52*p.r/\0<=p.a/\p.a+96<p.z/\p.z<=8*(s.length:Int):=by
 have hk:=YK (s:=s) (at':=p.a) (room:=p.r) (by rw[h.1]);rw[h.1] at hk;exact⟨hk.2.2.2.2.2.1,hk.2.2.2.1,hk.2.2.2.2.1,hk.1,hk.2.2.2.2.2.2.1,hk.2.2.2.2.2.2.2.1⟩
theorem chain_low {s:List UInt8} {lo lo' hi:Int} (h:lo'<=lo):∀{l:List Prt},chainP s lo l hi->chainP s lo' l hi
 |[],k=>Int.le_trans h k
 |_::_,k=>⟨Int.le_trans h k.1,k.2⟩
theorem chain_le {s:List UInt8} {hi:Int}:∀{l:List Prt} {lo:Int},chainP s lo l hi->lo<=hi
 |[],_,k=>k
 |p::l,lo,k=>by
  have:=chain_le k.2.2;have:=k.2.1.facts;have:=k.1;omega
theorem chain_join {s:List UInt8} {mid hi:Int} {m:List Prt} (hm:chainP s mid m hi):∀{l:List Prt} {lo:Int},chainP s lo l mid->chainP s lo (l++m) hi
 |[],_,k=>chain_low k hm
 |_::_,_,k=>⟨k.1,k.2.1,chain_join hm k.2.2⟩
theorem chain_up {s:List UInt8} {hi hi':Int} (h:hi<=hi'):∀{l:List Prt} {lo:Int},chainP s lo l hi->chainP s lo l hi'
 |[],_,k=>Int.le_trans k h
 |_::_,_,k=>⟨k.1,k.2.1,chain_up h k.2.2⟩
theorem room_ok {s:List UInt8} {k:Nat} (h:(roomL s k).2=0):40<=(roomL s k).1/\(roomL s k).1<=360/\(roomL s k).1%40=0:=by
 unfold roomL at h ⊢
 by_cases q1:s.length<k+4
 ·rw[if_pos q1] at h;exact absurd h (by decide)
 rw[if_neg q1] at h ⊢
 by_cases q2:(s.drop k).take 3≠[80,77,107]\/(s.getD (k+3) 0).toNat<49\/57<(s.getD (k+3) 0).toNat
 ·rw[if_pos q2] at h;exact absurd h (by decide)
 rw[if_neg q2];have a1:¬(s.getD (k+3) 0).toNat<49:=fun q=>q2 (.inr (.inl q))
 have a2:¬57<(s.getD (k+3) 0).toNat:=fun q=>q2 (.inr (.inr q))
 show 40<=40*(((s.getD (k+3) 0).toNat:Int)-48)/\40*(((s.getD (k+3) 0).toNat:Int)-48)<=360/\40*(((s.getD (k+3) 0).toNat:Int)-48)%40=0;omega
theorem strF_chain {s:List UInt8} {r:Int} (h1:40<=r) (h2:r<=360) (h3:r%40=0):∀(f:Nat) (a:Int) (acc:List Prt),(strF s r f a acc).2.2=0->∃m,(strF s r f a acc).1=acc++m/\chainP s a m (strF s r f a acc).2.1
 |0,_,_,h=>absurd h (by show(2:Int)≠0;decide)
 |f+1,a,acc,h=>by
  have hok:=strF_ok (f+1) a acc h;unfold strF at h hok ⊢
  by_cases q1:aO s.length a 48≠0
  ·rw[if_pos q1] at h;exact absurd h q1
  rw[if_neg q1] at h hok ⊢
  by_cases q2:aE s a 48=0x177245385090
  ·rw[if_pos q2] at h hok ⊢;exact⟨[],(List.append_nil _).symm,by show a<=_;omega⟩
  rw[if_neg q2] at h hok ⊢
  by_cases q3:aE s a 48≠0x314159265359
  ·rw[if_pos q3] at h;exact absurd h (by show(3:Int)≠0;decide)
  rw[if_neg q3] at h hok ⊢
  by_cases q4:(cL s a r).2.2.2≠0
  ·rw[if_pos q4] at h;exact absurd h q4
  rw[if_neg q4] at h hok ⊢;obtain⟨m,hm,hc⟩:=strF_chain h1 h2 h3 f _ _ h;refine⟨_::m,by rw[hm,List.append_assoc];rfl,Int.le_refl _,⟨?_,h1,h2,h3⟩,hc⟩;have q4:=Decidable.not_not.1 q4;show cL s a r=((cL s a r).1,(cL s a r).2.1,(cL s a r).2.2.1,0);rw[<-q4]
theorem strD_chain {s:List UInt8} {a:Int} (h:(strD s a).2.2=0):chainP s (a+32) (strD s a).1 (strD s a).2.1:=by
 unfold strD at h ⊢
 by_cases q:(roomL s (a/8).toNat).2≠0
 ·rw[if_pos q] at h;exact absurd h q
 rw[if_neg q] at h ⊢;obtain⟨r1,r2,r3⟩:=room_ok (Decidable.not_not.1 q);obtain⟨m,hm,hc⟩:=strF_chain r1 r2 r3 _ _ _ h;rw[hm,List.nil_append];exact hc
theorem arcF_chain {s:List UInt8}:∀(f:Nat) (a:Int) (acc:List Prt),a<=8*(s.length:Int)->(arcF s f a acc).2=0->∃m,(arcF s f a acc).1=acc++m/\chainP s a m (8*(s.length:Int))
 |0,_,_,_,h=>absurd h (by show(2:Int)≠0;decide)
 |f+1,a,acc,ha,h=>by
  unfold arcF at h ⊢
  by_cases q1:8*(s.length:Int)<=a
  ·rw[if_pos q1];exact⟨[],(List.append_nil _).symm,ha⟩
  rw[if_neg q1] at h ⊢
  by_cases q2:(strD s a).2.2≠0
  ·rw[if_pos q2] at h;exact absurd h q2
  rw[if_neg q2] at h ⊢;have q2:=Decidable.not_not.1 q2;obtain⟨m,hm,hc⟩:=arcF_chain f _ _ (strD_ok q2).2 h;exact⟨(strD s a).1++m,by rw[hm,List.append_assoc],chain_join hc (chain_low (by omega) (strD_chain q2))⟩
theorem arcD_chain {s:List UInt8} (h:(arcD s).2=0):chainP s 32 (arcD s).1 (8*(s.length:Int)):=by
 unfold arcD at h ⊢
 by_cases q:s=[]
 ·rw[if_pos q] at h;exact absurd h (by decide)
 rw[if_neg q] at h ⊢;have hl:=List.length_pos_iff.2 q;unfold arcF at h ⊢;rw[if_neg (by omega)] at h ⊢
 by_cases q2:(strD s 0).2.2≠0
 ·rw[if_pos q2] at h;exact absurd h q2
 rw[if_neg q2] at h ⊢;have q2:=Decidable.not_not.1 q2;obtain⟨m,hm,hc⟩:=arcF_chain (8*s.length) _ _ (strD_ok q2).2 h;rw[hm,List.nil_append];exact chain_join hc (strD_chain q2)
theorem chain_get {s:List UInt8} {hi:Int}:∀{l:List Prt} {lo:Int},chainP s lo l hi->∀(i:Nat) (p:Prt),l[i]? =some p->goodP s p/\lo<=p.a/\∀q,l[i+1]? =some q->p.z<=q.a
 |[],_,_,i,p,h=>by simp at h
 |x::l,lo,k,0,p,h=>by
  obtain rfl:x=p:=by simpa using h
  refine⟨k.2.1,k.1,fun q hq=>?_⟩
  cases l with
  |nil=>simp at hq
  |cons y l=>
   obtain rfl:y=q:=by simpa using hq
   exact k.2.2.1
 |x::l,lo,k,i+1,p,h=>by
  have h':l[i]? =some p:=by simpa using h
  obtain⟨h1,h2,h3⟩:=chain_get k.2.2 i p h';have:=k.2.1.facts;have:=k.1;exact⟨h1,by omega,fun q hq=>h3 q (by simpa using hq)⟩
end Go.Proofs.YtpgmbhpbgkljdaaGreatDoor
