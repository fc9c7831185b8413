/-
  The mathematics of pieces (chapters 4 and 18): how much of a text has room, and the text in such pieces.
-/
import Derived.Test.YtpgmbhpbgkljdaaGreatDoorZ6
set_option linter.unusedVariables false
set_option linter.unusedSimpArgs false
set_option maxRecDepth 100000
set_option maxHeartbeats 12800000
namespace Go.Proofs.YtpgmbhpbgkljdaaGreatDoor
def lnP (n:Nat):Nat:=if n<4 then n else 5
def lnL (s:List UInt8):Nat:=(bC s).length
theorem lnL_nil:lnL []=0:=rfl
theorem lnP_mono {a b:Nat} (h:a<=b):lnP a<=lnP b:=by unfold lnP;split<;>split<;>omega
theorem lnL_cons {s:List UInt8} (h:s≠[]):lnL s=lnP (dX s)+lnL (s.drop (dX s)):=by
 have hb:=pS s h;unfold lnL
 conv=>lhs;rw[yU s h]
 rw[List.length_append,TY _ _ hb.2.2];rfl
theorem piece_take {s:List UInt8} (h:s≠[]) {k:Nat} (h1:1<=k) (hk:k<=s.length):dX (s.take k)=min k (dX s):=by
 obtain⟨c,r,rfl⟩:=List.exists_cons_of_ne_nil h;have hb:=pS (c::r) h;obtain⟨p1,p2⟩:=aIz (s:=c::r) (c:=c) rfl;generalize hn:dX (c::r)=n at*
 have hsame:∀j,j<n->(c::r)[j]? =some c:=fun j hj=>by
  have:((c::r).take n)[j]? =some c:=by rw[p1,List.getElem?_replicate,if_pos hj]
  rwa[List.getElem?_take,if_pos hj] at this
 have hl:((c::r).take k).length=k:=by rw[List.length_take];omega
 have h0:((c::r).take k)[0]? =some c:=by rw[List.getElem?_take,if_pos (by omega)];rfl
 refine DV (by omega) (by omega) (fun j hj=>?_) ?_
 ·rw[h0,List.getElem?_take,if_pos (by omega)];exact hsame j (by omega)
 ·rw[h0]
  by_cases q:k<=n
  ·exact .inr (.inl (by omega))
  ·by_cases q2:n<255
   ·refine .inr (.inr ?_);have p2:=p2 q2;rw[List.head?_drop] at p2;rw[show min k n=n by omega,List.getElem?_take,if_pos (by omega)];exact p2
   ·exact .inl (by omega)
theorem lnL_take {s:List UInt8} (h:s≠[]) {k:Nat} (hk:k<=s.length):lnL (s.take k)=if k<=dX s then lnP k else lnP (dX s)+lnL ((s.drop (dX s)).take (k-dX s)):=by
 have hb:=pS s h
 by_cases h0:k=0
 ·subst h0;rw[if_pos (Nat.zero_le _)];rfl
 ·have hne:s.take k≠[]:=fun e=>by
   have:=congrArg List.length e;have:=List.length_pos_iff.2 h;rw[List.length_take,List.length_nil] at*
   omega
  have hp:=piece_take h (by omega) hk;rw[lnL_cons hne,hp];split
  ·next q=>
   rw[show min k (dX s)=k by omega,List.drop_take,Nat.sub_self,List.take_zero,lnL_nil,Nat.add_zero]
  ·next q=>
   rw[show min k (dX s)=dX s by omega,List.drop_take]
theorem lnL_mono:∀(n:Nat) (s:List UInt8),s.length<=n->∀k,k+1<=s.length->lnL (s.take k)<=lnL (s.take (k+1))
 |0,s,hn,k,hk=>by omega
 |n+1,s,hn,k,hk=>by
  have hne:s≠[]:=fun e=>by rw[e] at hk;simp at hk
  have hb:=pS s hne;rw[lnL_take hne (by omega),lnL_take hne hk]
  by_cases q1:k+1<=dX s
  ·rw[if_pos (by omega),if_pos q1];exact lnP_mono (by omega)
  ·rw[if_neg q1]
   by_cases q2:k<=dX s
   ·rw[if_pos q2];have:=lnP_mono (show k<=dX s by omega);omega
   ·rw[if_neg q2,show k+1-dX s=(k-dX s)+1 by omega];have:=lnL_mono n (s.drop (dX s)) (by rw[List.length_drop];omega) (k-dX s) (by rw[List.length_drop];omega);omega
theorem lnL_up (s:List UInt8) (k:Nat):∀d,k+d<=s.length->lnL (s.take k)<=lnL (s.take (k+d))
 |0,_=>Nat.le_refl _
 |d+1,h=>Nat.le_trans (lnL_up s k d (by omega)) (lnL_mono s.length s (Nat.le_refl _) (k+d) (by omega))
def cutF:Nat->List UInt8->Nat->Nat
 |0,_,_=>0
 |f+1,s,room=>
  if s=[] then 0
  else if lnP (dX s)<=room then dX s+cutF f (s.drop (dX s)) (room-lnP (dX s))
  else min (min room 3) (dX s)
def cutL (s:List UInt8) (room:Nat):Nat:=cutF s.length s room
def IsCut (s:List UInt8) (room k:Nat):Prop:=k<=s.length/\lnL (s.take k)<=room/\(k<s.length->room<lnL (s.take (k+1)))
theorem cutF_is:∀(f:Nat) (s:List UInt8) (room:Nat),s.length<=f->IsCut s room (cutF f s room)
 |0,s,room,hf=>by
  have:s=[]:=List.length_eq_zero_iff.1 (by omega);subst this;exact⟨Nat.le_refl _,Nat.zero_le _,fun h=>absurd h (by simp)⟩
 |f+1,s,room,hf=>by
  unfold cutF
  by_cases h:s=[]
  ·subst h;exact⟨Nat.le_refl _,Nat.zero_le _,fun h=>absurd h (by simp)⟩
  rw[if_neg h];have hb:=pS s h
  by_cases q:lnP (dX s)<=room
  ·rw[if_pos q];obtain⟨i1,i2,i3⟩:=cutF_is f (s.drop (dX s)) (room-lnP (dX s)) (by rw[List.length_drop];omega);rw[List.length_drop] at i1 i3;generalize cutF f (s.drop (dX s)) (room-lnP (dX s))=k at*
   refine⟨by omega,?_,fun hk=>?_⟩
   ·rw[lnL_take h (by omega)]
    by_cases q2:dX s+k<=dX s
    ·rw[if_pos q2,show dX s+k=dX s by omega];exact q
    ·rw[if_neg q2,show dX s+k-dX s=k by omega];omega
   ·have i3:=i3 (by omega);rw[lnL_take h (by omega),if_neg (by omega),show dX s+k+1-dX s=k+1 by omega];omega
  ·rw[if_neg q];have hl:lnP (dX s)=if dX s<4 then dX s else 5:=rfl;have hlt:min (min room 3) (dX s)<dX s:=by split at hl<;>omega
   refine⟨by omega,?_,fun _=>?_⟩
   ·rw[lnL_take h (by omega),if_pos (by omega)];unfold lnP;rw[if_pos (by omega)];omega
   ·rw[lnL_take h (by omega),if_pos (by omega)];unfold lnP;split at hl
    ·rw[if_pos (by omega)];omega
    ·split<;>omega
theorem cutL_is (s:List UInt8) (room:Nat):IsCut s room (cutL s room):=cutF_is _ s room (Nat.le_refl _)
theorem IsCut.uniq {s:List UInt8} {room j k:Nat} (h1:IsCut s room j) (h2:IsCut s room k):j=k:=by
 rcases Nat.lt_trichotomy j k with h|h|h
 ·exfalso;have a:=h1.2.2 (by have:=h2.1;omega);have b:=lnL_up s (j+1) (k-(j+1)) (by have:=h2.1;omega);rw[show j+1+(k-(j+1))=k by omega] at b;have:=h2.2.1;omega
 ·exact h
 ·exfalso;have a:=h2.2.2 (by have:=h1.1;omega);have b:=lnL_up s (k+1) (j-(k+1)) (by have:=h1.1;omega);rw[show k+1+(j-(k+1))=j by omega] at b;have:=h1.2.1;omega
theorem cutL_pos {s:List UInt8} {room:Nat} (h:s≠[]) (hr:1<=room):1<=cutL s room:=by
 have hi:=cutL_is s room;have hl:=List.length_pos_iff.2 h;refine Nat.pos_of_ne_zero fun e=>?_
 have:=hi.2.2 (by omega);rw[e,lnL_take h (by omega),if_pos (pS s h).1] at this;have h1:lnP (0+1)=1:=rfl;omega
theorem cutL_all {s:List UInt8} {room:Nat} (h:lnL s<=room):cutL s room=s.length:=by
 refine(cutL_is s room).uniq ⟨Nat.le_refl _,by rw[List.take_length];exact h,fun k=>absurd k (Nat.lt_irrefl _)⟩
theorem cutL_append {x y:List UInt8} {room:Nat} (h:cutL x room<x.length):cutL (x++y) room=cutL x room:=by
 have hi:=cutL_is x room;refine(cutL_is (x++y) room).uniq ⟨by rw[List.length_append];omega,?_,fun _=>?_⟩
 ·rw[List.take_append_of_le_length (by omega)];exact hi.2.1
 ·rw[List.take_append_of_le_length (by omega)];exact hi.2.2 h
theorem cutL_more (x y:List UInt8) (room:Nat):cutL x room<=cutL (x++y) room:=by
 rcases Nat.lt_or_ge (cutL x room) x.length with h|h
 ·rw[cutL_append h];exact Nat.le_refl _
 ·have hi:=cutL_is x room;have hj:=cutL_is (x++y) room;refine Nat.le_of_not_lt fun q=>?_
  have a:=hj.2.2 (by rw[List.length_append];have:=hi.1;omega);rw[List.take_append_of_le_length (by have:=hi.1;omega)] at a;have b:=lnL_up x (cutL (x++y) room+1) (cutL x room-(cutL (x++y) room+1)) (by have:=hi.1;omega);rw[show cutL (x++y) room+1+(cutL x room-(cutL (x++y) room+1))=cutL x room by omega] at b;have:=hi.2.1;omega
theorem cutL_room {s:List UInt8} {r q:Nat} (h:r<=q):cutL s r<=cutL s q:=by
 have hi:=cutL_is s r;have hj:=cutL_is s q;refine Nat.le_of_not_lt fun k=>?_
 have a:=hj.2.2 (by have:=hi.1;omega);have b:=lnL_up s (cutL s q+1) (cutL s r-(cutL s q+1)) (by have:=hi.1;omega);rw[show cutL s q+1+(cutL s r-(cutL s q+1))=cutL s r by omega] at b;have:=hi.2.1;omega
end Go.Proofs.YtpgmbhpbgkljdaaGreatDoor
