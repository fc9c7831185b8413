/-
  The mathematics of streams (chapter 17), more: what parts say and where they stand; what is cut off; what is read is whole.
-/
import Derived.Test.YtpgmbhpbgkljdaaGreatDoorM17Z
set_option linter.unusedVariables false
set_option linter.unusedSimpArgs false
set_option maxRecDepth 100000
set_option maxHeartbeats 12800000
namespace Go.Proofs.YtpgmbhpbgkljdaaGreatDoor
open Go.RowKit Go Go.Shelf
def Prt.up (d:Nat) (p:Prt):Prt:=⟨p.t,p.y,p.a+(d:Int),p.z+(d:Int),p.r⟩
theorem posW_t (r:Int):∀(l:List ByteArray) (a:Nat),(posW r a l).map Prt.t=l
 |[],_=>rfl
 |t::l,a=>by
  show t::(posW r (a+(cB t).length) l).map Prt.t=_;rw[posW_t r l]
theorem posW_r (r:Int):∀(l:List ByteArray) (a:Nat),(posW r a l).map Prt.r=l.map (fun _=>r)
 |[],_=>rfl
 |t::l,a=>by
  show r::(posW r (a+(cB t).length) l).map Prt.r=r::_;rw[posW_r r l]
theorem posW_length (r:Int) (l:List ByteArray) (a:Nat):(posW r a l).length=l.length:=by
 have:=congrArg List.length (posW_t r l a);rwa[List.length_map] at this
theorem posW_up (r:Int) (d:Nat):∀(l:List ByteArray) (a:Nat),posW r (a+d) l=(posW r a l).map (Prt.up d)
 |[],_=>rfl
 |t::l,a=>by
  have ih:=posW_up r d l (a+(cB t).length);rw[show a+(cB t).length+d=a+d+(cB t).length by omega] at ih;unfold posW;rw[ih,List.map_cons]
  congr 1
  unfold Prt.up;simp only[Prt.mk.injEq,true_and,and_true];omega
theorem arcP_t:∀(l:List (Nat×List ByteArray)) (a:Nat),(arcP a l).map Prt.t=(l.map (fun p=>p.2)).flatten
 |[],_=>rfl
 |p::l,a=>by
  unfold arcP;rw[List.map_append,posW_t,arcP_t l,List.map_cons,List.flatten_cons]
theorem arcP_r:∀(l:List (Nat×List ByteArray)) (a:Nat),(arcP a l).map Prt.r=(l.map (fun p=>p.2.map (fun _=>40*(p.1:Int)))).flatten
 |[],_=>rfl
 |p::l,a=>by
  unfold arcP;rw[List.map_append,posW_r,arcP_r l,List.map_cons,List.flatten_cons]
theorem arcP_up (d:Nat):∀(l:List (Nat×List ByteArray)) (a:Nat),arcP (a+d) l=(arcP a l).map (Prt.up d)
 |[],_=>rfl
 |p::l,a=>by
  unfold arcP;rw[List.map_append,<-posW_up,<-arcP_up d l,show a+d+32=a+32+d by omega,show a+d+(padW (strW p.1 p.2)).length=a+(padW (strW p.1 p.2)).length+d by omega]
theorem arcP_append:∀(x y:List (Nat×List ByteArray)) (a:Nat),arcP a (x++y)=arcP a x++arcP (a+(arcW x).length) y
 |[],y,a=>rfl
 |p::x,y,a=>by
  have hw:(arcW (p::x)).length=(padW (strW p.1 p.2)).length+(arcW x).length:=by
   show(padW (strW p.1 p.2)++arcW x).length=_;rw[List.length_append]
  show posW (40*(p.1:Int)) (a+32) p.2++arcP (a+(padW (strW p.1 p.2)).length) (x++y)=(posW (40*(p.1:Int)) (a+32) p.2++arcP (a+(padW (strW p.1 p.2)).length) x)++arcP (a+(arcW (p::x)).length) y;rw[arcP_append x y,hw,List.append_assoc,Nat.add_assoc]
theorem room_pre (s t:List UInt8) (k:Nat):(roomL s k).2=2\/roomL (s++t) k=roomL s k:=by
 by_cases h:s.length<k+4
 ·left
  unfold roomL;rw[if_pos h]
 ·right
  have e1:((s++t).drop k).take 3=(s.drop k).take 3:=by
   rw[List.drop_append_of_le_length (by omega),List.take_append_of_le_length (by rw[List.length_drop];omega)]
  have e2:(s++t).getD (k+3) 0=s.getD (k+3) 0:=by
   rw[List.getD_eq_getElem?_getD,List.getD_eq_getElem?_getD,List.getElem?_append_left (by omega)]
  unfold roomL;rw[e1,e2,if_neg h,if_neg (by rw[List.length_append];omega)]
theorem end_ok {s:List UInt8} {a:Int} {v:BitVec 32} (h:(endD s a v).2=0):0<=a+48/\a+80<=(endD s a v).1/\(endD s a v).1<=8*(s.length:Int):=by
 unfold endD at h ⊢
 by_cases q1:aO s.length (a+48) 32≠0
 ·rw[if_pos q1] at h;exact absurd h q1
 rw[if_neg q1] at h ⊢;have hg:=fQ (Decidable.not_not.1 q1)
 by_cases q2:aE s (a+48) 32≠v.toNat
 ·rw[if_pos q2] at h;simp at h
 rw[if_neg q2] at h ⊢
 by_cases q3:aE s (a+80) (padN (a+80).toNat)≠0
 ·rw[if_pos q3] at h;simp at h
 rw[if_neg q3];refine⟨hg.1,by show a+80<=a+80+_;omega,?_⟩;show a+80+(padN (a+80).toNat:Int)<=_;unfold padN;omega
theorem end_pre (s t:List UInt8) (a:Int) (v:BitVec 32):(endD s a v).2=2\/endD (s++t) a v=endD s a v:=by
 rcases oV s t (a+48) 32 with h|⟨h1,h2⟩
 ·left
  unfold endD;rw[if_pos (by rw[h];decide),h]
 ·by_cases q1:aO s.length (a+48) 32≠0
  ·right
   unfold endD;rw[h1,if_pos q1,if_pos q1]
  ·have hg:=fQ (Decidable.not_not.1 q1);have hz:aE (s++t) (a+80) (padN (a+80).toNat)=aE s (a+80) (padN (a+80).toNat):=by
    rcases oV s t (a+80) (padN (a+80).toNat) with k|⟨_,k⟩
    ·exfalso;have hp:padN (a+80).toNat=(8-(a+80).toNat%8)%8:=rfl;unfold aO at k;rw[if_neg (by omega)] at k;split at k
     ·omega
     ·omega
    ·exact k
   right
   unfold endD;rw[h1,h2,hz]
theorem strF_more {s:List UInt8} {r:Int}:∀(f g:Nat) (a:Int) (acc:List Prt),(strF s r f a acc).2.2≠2->f<=g->strF s r g a acc=strF s r f a acc
 |0,_,_,_,h,_=>absurd rfl h
 |f+1,0,_,_,_,h=>absurd h (by omega)
 |f+1,g+1,a,acc,h,hg=>by
  unfold strF at h ⊢
  by_cases q1:aO s.length a 48≠0
  ·rw[if_pos q1,if_pos q1]
  rw[if_neg q1] at h ⊢;rw[if_neg q1]
  by_cases q2:aE s a 48=0x177245385090
  ·rw[if_pos q2,if_pos q2]
  rw[if_neg q2] at h ⊢;rw[if_neg q2]
  by_cases q3:aE s a 48≠0x314159265359
  ·rw[if_pos q3,if_pos q3]
  rw[if_neg q3] at h ⊢;rw[if_neg q3]
  by_cases q4:(cL s a r).2.2.2≠0
  ·rw[if_pos q4,if_pos q4]
  rw[if_neg q4] at h ⊢;rw[if_neg q4];exact strF_more f g _ _ h (by omega)
theorem strF_pre {s:List UInt8} (t:List UInt8) {r:Int}:∀(f:Nat) (a:Int) (acc:List Prt),(strF s r f a acc).2.2=2\/strF (s++t) r f a acc=strF s r f a acc
 |0,_,_=>.inl rfl
 |f+1,a,acc=>by
  rcases oV s t a 48 with h|⟨h1,h2⟩
  ·left
   unfold strF;rw[if_pos (by rw[h];decide),h]
  ·unfold strF;rw[h1,h2]
   by_cases q1:aO s.length a 48≠0
   ·right;rw[if_pos q1,if_pos q1]
   rw[if_neg q1,if_neg q1]
   by_cases q2:aE s a 48=0x177245385090
   ·rw[if_pos q2,if_pos q2];rcases end_pre s t a (sumsP acc) with k|k
    ·exact .inl k
    ·right;rw[k]
   rw[if_neg q2,if_neg q2]
   by_cases q3:aE s a 48≠0x314159265359
   ·right;rw[if_pos q3,if_pos q3]
   rw[if_neg q3,if_neg q3];rcases aOp s t a r with k|k
   ·left
    rw[if_pos (by rw[k];decide)];exact k
   rw[k]
   by_cases q4:(cL s a r).2.2.2≠0
   ·right;rw[if_pos q4,if_pos q4]
   rw[if_neg q4,if_neg q4];exact strF_pre t f _ _
theorem strF_ok {s:List UInt8} {r:Int}:∀(f:Nat) (a:Int) (acc:List Prt),(strF s r f a acc).2.2=0->a+80<=(strF s r f a acc).2.1/\(strF s r f a acc).2.1<=8*(s.length:Int)
 |0,_,_,h=>absurd h (by show(2:Int)≠0;decide)
 |f+1,a,acc,h=>by
  unfold strF at h ⊢
  by_cases q1:aO s.length a 48≠0
  ·rw[if_pos q1] at h;exact absurd h q1
  rw[if_neg q1] at h ⊢
  by_cases q2:aE s a 48=0x177245385090
  ·rw[if_pos q2] at h ⊢;have:=end_ok h;exact⟨this.2.1,this.2.2⟩
  rw[if_neg q2] at h ⊢
  by_cases q3:aE s a 48≠0x314159265359
  ·rw[if_pos q3] at h;exact absurd h (by show(3:Int)≠0;decide)
  rw[if_neg q3] at h ⊢
  by_cases q4:(cL s a r).2.2.2≠0
  ·rw[if_pos q4] at h;exact absurd h q4
  rw[if_neg q4] at h ⊢;have hb:=YK (Decidable.not_not.1 q4);have ih:=strF_ok f _ _ h;omega
theorem strD_pre (s t:List UInt8) (a:Int):(strD s a).2.2=2\/strD (s++t) a=strD s a:=by
 unfold strD;rcases room_pre s t (a/8).toNat with h|h
 ·left;rw[if_pos (by rw[h];decide)];exact h
 ·rw[h]
  by_cases q:(roomL s (a/8).toNat).2≠0
  ·right;rw[if_pos q,if_pos q]
  rw[if_neg q,if_neg q];rcases strF_pre t (8*s.length+1) (a+32) [] (s:=s) (r:=(roomL s (a/8).toNat).1) with k|k
  ·exact .inl k
  ·by_cases q2:(strF s (roomL s (a/8).toNat).1 (8*s.length+1) (a+32) []).2.2=2
   ·exact .inl q2
   ·right
    rw[strF_more (8*s.length+1) (8*(s++t).length+1) _ _ (by rw[k];exact q2) (by rw[List.length_append];omega),k]
theorem strD_ok {s:List UInt8} {a:Int} (h:(strD s a).2.2=0):a+112<=(strD s a).2.1/\(strD s a).2.1<=8*(s.length:Int):=by
 unfold strD at h ⊢
 by_cases q:(roomL s (a/8).toNat).2≠0
 ·rw[if_pos q] at h;exact absurd h q
 rw[if_neg q] at h ⊢;have:=strF_ok _ _ _ h;omega
theorem arcF_skip {s:List UInt8}:∀(l:List (Nat×List ByteArray)) (f k:Nat) (acc:List Prt),(∀p∈l,1<=p.1/\p.1<=9/\∀t∈p.2,okT (40*(p.1:Int)) t)->l.length<=f->fH s (8*k) (arcW l)->
  arcF s f ((8*k:Nat):Int) acc=arcF s (f-l.length) ((8*k+(arcW l).length:Nat):Int) (acc++arcP (8*k) l)
 |[],f,k,acc,_,_,_=>by
  show _=arcF s f ((8*k+0:Nat):Int) (acc++[]);rw[List.append_nil,Nat.add_zero]
 |p::l,0,_,_,_,hf,_=>absurd hf (by simp)
 |p::l,f+1,k,acc,ho,hf,h=>by
  have hw:arcW (p::l)=padW (strW p.1 p.2)++arcW l:=rfl;rw[hw] at h ⊢;have hst:=h.1;rw[List.length_append] at hst ⊢;obtain⟨h1,h2⟩:=jN h;obtain⟨o1,o2,o3⟩:=ho p (List.mem_cons_self ..);have hs:=strD_back o1 o2 o3 h1;have hpl:=padW_length (strW p.1 p.2);have hup:=padN_up (strW p.1 p.2).length;have hsl:=strW_length p.1 p.2;obtain⟨m,hm⟩:∃m,(padW (strW p.1 p.2)).length=8*m:=⟨(padW (strW p.1 p.2)).length/8,by omega⟩;have e:8*k+(padW (strW p.1 p.2)).length=8*(k+m):=by omega
  rw[e] at h2 hs;have ih:=arcF_skip l f (k+m) (acc++posW (40*(p.1:Int)) (8*k+32) p.2) (fun x hx=>ho x (List.mem_cons_of_mem _ hx)) (by simp at hf;omega) h2;have ef:f+1-(p::l).length=f-l.length:=by simp
  rw[ef]
  conv=>lhs;unfold arcF
  rw[if_neg (by omega),hs];simp only
  rw[if_neg (fun k=>k rfl),ih,List.append_assoc];have ep:arcP (8*k) (p::l)=posW (40*(p.1:Int)) (8*k+32) p.2++arcP (8*(k+m)) l:=by rw[<-e];rfl
  rw[ep]
  congr 2
  omega
theorem packL_len8 (l:List (Nat×List ByteArray)):8*(aD (arcW l)).length=(arcW l).length:=by
 have:=(arcW_length l).1;rw[gY];omega
theorem arcD_cut {l:List (Nat×List ByteArray)} {n:Nat} {x:List ByteArray} {c:Nat} (ho:∀p∈l,1<=p.1/\p.1<=9/\∀t∈p.2,okT (40*(p.1:Int)) t) (h1:1<=n) (h9:n<=9) (hx:∀t∈x,okT (40*(n:Int)) t)
  (hc0:0<c) (hc:c<(aD (strW n x)).length):(arcD (aD (arcW l)++(aD (strW n x)).take c)).2=2:=by
 obtain⟨s,hs⟩:∃s,s=aD (arcW l)++(aD (strW n x)).take c:=⟨_,rfl⟩;obtain⟨t,ht⟩:∃t,t=(aD (strW n x)).drop c:=⟨_,rfl⟩;have hst:s++t=aD (arcW (l++[(n,x)])):=by rw[hs,ht,List.append_assoc,List.take_append_drop,arc_one,arc_join]
 have hsl:s.length=(aD (arcW l)).length+c:=by rw[hs,List.length_append,List.length_take];omega
 have h8:=packL_len8 l;have hal:=(arcW_length l).2;rw[<-hs];have hne:s≠[]:=fun e=>by rw[e] at hsl;simp at hsl;omega
 obtain⟨k,hk⟩:∃k,k=(aD (arcW l)).length:=⟨_,rfl⟩;rw[<-hk] at hsl h8;have hstands:fH s 0 (arcW l):=by
  have h0:=zP (arcW l);refine aOi (by omega) (fun i hi=>?_);rw[Nat.zero_add,hs,OW,if_pos (by omega)];have:=MD h0 (i:=i) hi;rwa[Nat.zero_add] at this
 have hsk:=arcF_skip (s:=s) l (8*s.length+1) 0 [] ho (by omega) hstands;rw[List.nil_append,show 8*0+(arcW l).length=8*k by omega] at hsk;unfold arcD;rw[if_neg hne];show(arcF s (8*s.length+1) ((8*0:Nat):Int) []).2=2;rw[hsk];obtain⟨f,hf⟩:∃f,8*s.length+1-l.length=f+1:=⟨8*s.length-l.length,by omega⟩;rw[hf];have herr:(strD s ((8*k:Nat):Int)).2.2=2:=by
  rcases strD_pre s t ((8*k:Nat):Int) with q|q
  ·exact q
  ·exfalso;have hW:fH (s++t) (8*k) (padW (strW n x)):=by
    have h0:=zP (arcW (l++[(n,x)]));rw[<-hst,arcW_append,arcW_one] at h0;have:=(jN h0).2;rw[Nat.zero_add,<-h8] at this;exact this
   have hb:=strD_back h1 h9 hx hW;rw[q] at hb;have hok:=strD_ok (s:=s) (a:=((8*k:Nat):Int)) (by rw[hb]);rw[hb] at hok;have hpl:(aD (strW n x)).length=((padW (strW n x)).length+7)/8:=by rw[<-packL_padW,gY]
   have hup:=padN_up (strW n x).length;have hpw:=padW_length (strW n x);have:=hok.2;simp only at this;omega
 unfold arcF;rw[if_neg (by omega),if_pos (by rw[herr];decide)];exact herr
theorem arcD_rest {l:List (Nat×List ByteArray)} {m:List UInt8} (ho:∀p∈l,1<=p.1/\p.1<=9/\∀t∈p.2,okT (40*(p.1:Int)) t) (h0:m≠[]) (h3:m.length<=3):(arcD (aD (arcW l)++m)).2=2:=by
 obtain⟨s,hs⟩:∃s,s=aD (arcW l)++m:=⟨_,rfl⟩;have hm:=List.length_pos_iff.2 h0;have hsl:s.length=(aD (arcW l)).length+m.length:=by rw[hs,List.length_append]
 have h8:=packL_len8 l;have hal:=(arcW_length l).2;rw[<-hs];have hne:s≠[]:=fun e=>by rw[e] at hsl;simp at hsl;omega
 obtain⟨k,hk⟩:∃k,k=(aD (arcW l)).length:=⟨_,rfl⟩;rw[<-hk] at hsl h8;have hstands:fH s 0 (arcW l):=by
  have h0:=zP (arcW l);refine aOi (by omega) (fun i hi=>?_);rw[Nat.zero_add,hs,OW,if_pos (by omega)];have:=MD h0 (i:=i) hi;rwa[Nat.zero_add] at this
 have hsk:=arcF_skip (s:=s) l (8*s.length+1) 0 [] ho (by omega) hstands;rw[List.nil_append,show 8*0+(arcW l).length=8*k by omega] at hsk;unfold arcD;rw[if_neg hne];show(arcF s (8*s.length+1) ((8*0:Nat):Int) []).2=2;rw[hsk];obtain⟨f,hf⟩:∃f,8*s.length+1-l.length=f+1:=⟨8*s.length-l.length,by omega⟩;rw[hf];have hr:(roomL s (((8*k:Nat):Int)/8).toNat).2=2:=by
  rw[show(((8*k:Nat):Int)/8).toNat=k by omega];unfold roomL;rw[if_pos (by omega)]
 have herr:(strD s ((8*k:Nat):Int)).2.2=2:=by
  unfold strD;rw[if_pos (by rw[hr];decide)];exact hr
 unfold arcF;rw[if_neg (by omega),if_pos (by rw[herr];decide)];exact herr
end Go.Proofs.YtpgmbhpbgkljdaaGreatDoor
