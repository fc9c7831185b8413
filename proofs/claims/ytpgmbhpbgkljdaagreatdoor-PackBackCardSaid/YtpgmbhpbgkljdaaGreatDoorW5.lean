/-
  Texts put together (W5): walks and plain laws on which the statement stands.
-/
import Derived.Test.YtpgmbhpbgkljdaaGreatDoorW1
import Derived.Test.YtpgmbhpbgkljdaaGreatDoorZ16
import Derived.Test.YtpgmbhpbgkljdaaGreatDoorW3
set_option maxRecDepth 100000
set_option maxHeartbeats 12800000
set_option linter.unusedVariables false
set_option linter.unusedSimpArgs false
namespace Go.Proofs.YtpgmbhpbgkljdaaGreatDoor
section
open Go.RowKit Go Go.Shelf
attribute [local go_sem] Oper.semAt_some
theorem pieces1_stop (n:Nat) (hn:1<=n) (l Bs:Nat) (all:ByteArray) (hall:all.size<=1000000) (J Jx:List (List UInt8)->World->Prop) (Wl:World) (hJa:∀s A B,J s A->Below Wl.heap.size A B->TyKept [3] none A B->J s B) (hJb:∀s A v,J s A->J s (A.setCell ⟨Bs,0,none⟩ v))
  (hY:∀pre x W1,J pre W1->Wl.heap.size<=W1.heap.size->(∃r,jX all.data.toList=pre++x::r)->YieldAt Fence.wide (n-1) Tryz.prog l (zX x) W1 fun e W'=>(e=.returned (.bool true)/\J (pre++[x]) W'/\TyKept [9] none W1 W')\/(e=.returned (.bool false)/\Jx (pre++[x]) W'))
  (W:World) (hWl:W=Wl) (hA:Arr W Bs 9 [.string all]) (h0:J [] W):
  CallsIn Fence.wide n Tryz.prog 90 #[.func (.yield l) #[] #[],.pointer (some ⟨Bs,0,none⟩)] W fun e W'=>(∃v,e=.returned v)/\(J (jX all.data.toList) W'\/∃pre,Jx pre W'):=by
 have hdr:∀s A k,J s A->J s (A.drewN k):=fun s A k h=>hJa s A _ h (below_drewN (Below.refl _ _) _) (.of_below (below_drewN (Below.refl _ _) _))
 have HWL:=hid hWl;have hW0:Wl.heap.size<=W.heap.size:=by rw[hWl];exact Nat.le_refl _
 clear hWl;refine callsIn_of_wp Tryz.func90 rfl trivial ?_ rfl;simp only[Tryz.ntmps90,List.size_toArray,List.length_cons,List.length_nil,Nat.reduceAdd,Nat.reduceSub,Array.replicate_succ,Array.replicate_zero,List.push_toArray,List.append_toArray,List.nil_append,List.cons_append];have HALL:=hid (show ∃L,L=jX all.data.toList from⟨_,rfl⟩)
 gi_wp2_with fail
 gi_loopg [3] all.size (fun g _s3 wr=>∃(pre:List (List UInt8)) (s:ByteArray),g=s.size/\s.size<=1000000/\pre++jX s.data.toList=jX all.data.toList/\J pre wr/\Arr wr Bs 9 [.string s]/\Wl.heap.size<=wr.heap.size)
 case atStart=>exact⟨[],all,rfl,hall,rfl,h0,hA,hW0⟩
 case round=>
  obtain⟨pre,s,hg,hr6,hp,hJ,hA,hWr⟩:=hrel;have HG:=hid hg;have HP:=hid hp;have HL:=hid (show s.data.toList.length=s.size by simp);clear hg hp;have c0:=hA.cell (i:=0) rfl
  by_cases hne:s.data.toList=[]
  ·have te:s.toList.isEmpty=true:=by rw[Lib.toList_data,hne];rfl
   have hp:=HP.out;rw[hne,MZ,List.append_nil] at hp;have HP2:=hid hp;clear hp HP hne
   gi_wp2_with fail
   go_end0
   exact⟨⟨_,rfl⟩,.inl (by rw[<-HP2.out];exact hJ)⟩
  ·have hrl:0<s.size:=by rw[<-HL.out];exact List.length_pos_iff.2 hne
   have te:s.toList.isEmpty=false:=LR hne;have HNE:=hid hne;clear hne
   gi_wp2_with fail
   gi_loopg [3] 255 (fun g s3 wx=>∃k:Nat,1<=k/\k<=255/\k<=s.size/\g=256-k/\s3=.int .i64 (k:Int)/\Hid (∀j,j<k->s.data.toList[j]? =s.data.toList[0]?)/\J pre wx/\Arr wx Bs 9 [.string s]/\Wl.heap.size<=wx.heap.size)
   case atStart=>exact⟨1,by omega,by omega,by omega,by omega,rfl,hid (fun j hj=>by rw[show j=0 by omega]),hJ,hA,hWr⟩
   case round=>
    obtain⟨k,hk1,hk2,hk3,hg,rfl,HJ,hJx,hAx,hWx⟩:=hrel;have HG1:=hid hg;clear hg c0;have c1:=hAx.cell (i:=0) rfl;obtain⟨T,hT⟩:∃T:Bool,T=decide (k<s.size/\k<255/\s.data.toList[k]? =s.data.toList[0]?):=⟨_,rfl⟩;have HT:=hid hT;clear hT;obtain⟨m,hm0,hm1,hm2⟩:=yI s.size 255 (by decide);have hm3:min (s.size:Int) 255=(m:Int):=by rw[<-hm0];omega
    gi_upto_region 2 with fail
    gi_cut [18,21,22,23,24,25,26,27,28,29] from 6 (fun c18 d21 d22 d23 d24 d25 d26 d27 d28 d29 wx=>(c18=.bool T/\d21=u21/\d22=u22/\d23=u23/\d24=u24/\d25=u25/\d26=u26/\d27=u27/\d28=u28/\d29=u29)/\J pre wx/\Arr wx Bs 9 [.string s]/\Wl.heap.size<=wx.heap.size)
    case first=>
     by_cases g1:k<m
     ·have u1:decide ((k:Int)<(m:Int))=true:=decide_eq_true (by omega);have g2:k<s.size:=by omega
      have e2:=eW s k g2;have e0:=eW s 0 hrl
      by_cases g3:s[k]=s[0]
      ·have u3:((s[k].toNat:Int)==(s[0].toNat:Int))=true:=by rw[g3];simp
       have u4:decide ((s[k].toNat:Int)=(s[0].toNat:Int))=true:=decide_eq_true (by rw[g3]);have HT2:=hid (show T=true by rw[HT.out,decide_eq_true];exact⟨g2,by omega,by rw[e2,e0,g3]⟩);clear g3 e2 e0
       gi_quiet (fail)
       gi_wp2_with fail
       gi_meet
       exact⟨⟨by rw[HT2.out],rfl,rfl,rfl,rfl,rfl,rfl,rfl,rfl,rfl⟩,hdr _ _ _ hJx,hAx.drewN _,hWx⟩
      ·have hne:(s[k].toNat:Int)≠(s[0].toNat:Int):=fun e=>g3 (UInt8.toNat_inj.1 (by omega))
       have u3:((s[k].toNat:Int)==(s[0].toNat:Int))=false:=by rw[beq_eq_false_iff_ne];exact hne
       have u4:decide ((s[k].toNat:Int)=(s[0].toNat:Int))=false:=decide_eq_false hne;have HT2:=hid (show T=false by rw[HT.out,decide_eq_false];rintro⟨_,_,h3⟩;rw[e2,e0] at h3;injection h3 with h3;exact g3 h3);clear g3 e2 e0 hne
       gi_quiet (fail)
       gi_wp2_with fail
       gi_meet
       exact⟨⟨by rw[HT2.out],rfl,rfl,rfl,rfl,rfl,rfl,rfl,rfl,rfl⟩,hdr _ _ _ hJx,hAx.drewN _,hWx⟩
     ·have u1:decide ((k:Int)<(m:Int))=false:=decide_eq_false (by omega);have HT2:=hid (show T=false by rw[HT.out,decide_eq_false];rintro⟨h1,h2,_⟩;omega)
      gi_quiet (fail)
      gi_wp2_with fail
      gi_meet
      exact⟨⟨by rw[HT2.out],rfl,rfl,rfl,rfl,rfl,rfl,rfl,rfl,rfl⟩,hdr _ _ _ hJx,hAx.drewN _,hWx⟩
    case rest=>
     obtain⟨⟨rfl,rfl,rfl,rfl,rfl,rfl,rfl,rfl,rfl,rfl⟩,hJy,hAy,hWy⟩:=hcut;clear hm0 hm3 hm1 hm2 c1 hJx hAx
     cases T with
     |true=>
      have hgo:=of_decide_eq_true HT.out.symm;have HS:=hid hgo.2.2;have g1:=hgo.1;have g2:=hgo.2.1;clear hgo
      gi_wp2_with fail
      have hg:=HG1.out
      gi_roundg (256-(k+1))
      case measure=>omega
      case rel=>exact⟨k+1,by omega,by omega,by omega,rfl,by go_num,hid (fun j hj=>by rcases Nat.lt_or_ge j k with h|h;exact HJ.out j h;rw[show j=k by omega];exact HS.out),hJy,hAy,hWy⟩
     |false=>
      have hno:=of_decide_eq_false HT.out.symm;have hpn:dX s.data.toList=k:=DV hk2 (by rw[HL.out];exact hk3) HJ.out (by
       by_cases h1:k<s.size
       ·by_cases h2:k<255
        ·exact .inr (.inr (fun h3=>hno ⟨h1,h2,h3⟩))
        ·exact .inl (by omega)
       ·exact .inr (.inl (by rw[HL.out];omega)))
      have hpc:=NA s.data.toList HNE.out;rw[hpn] at hpc;have hx0:s.extract 0 k=mkS (s.data.toList.take k):=by rw[nT,List.drop_zero,Nat.sub_zero]
      obtain⟨s2,hs2⟩:∃s2,s2=s.extract k s.size:=⟨_,rfl⟩;have hd2:s2.data.toList=s.data.toList.drop k:=by
       rw[hs2,nT,fW,List.take_of_length_le (by rw[List.length_drop,HL.out];omega)]
      have hsz2:s2.size=s.size-k:=by
       have:s2.data.toList.length=s2.size:=by simp
       rw[<-this,hd2,List.length_drop,HL.out]
      obtain⟨x,hx⟩:∃x,x=s.data.toList.take k:=⟨_,rfl⟩;rw[<-hx] at hx0 hpc;have hpre:=HP.out;rw[hpc] at hpre;obtain⟨fn,tmps,assign,body,hy,hR⟩:=hY pre x wc hJy hWy ⟨_,hpre.symm⟩;unfold zX at hy;have hs2':s.extract k s.size=s2:=hs2.symm;have HPR:=hid (show(pre++[x])++jX s2.data.toList=jX all.data.toList by rw[hd2,List.append_assoc];exact hpre);have c1:=hAy.cell (i:=0) rfl;clear hs2 hd2 hx hpc hpre hno hpn HT;have q1:(k:Int)<=(s.size:Int):=by omega
      gi_wp2_with fail
      refine hR.mono ?_;rintro e W3 (⟨rfl,hJ3,hk3'⟩|⟨rfl,hJ3⟩)
      rotate_left
      ·gi_wp2_with fail
       refine bodyPost_ret (results_none rfl _ _ _) rfl ?_;exact⟨⟨_,rfl⟩,.inr ⟨_,hJ3⟩⟩
      have hA3:Arr W3 Bs 9 [.string s]:=hk3'.arr hAy (by decide) (fun q=>by cases q);have d0:=hA3.cell (i:=0) rfl;have f3:=hA3.free 0;have hW3:Wl.heap.size<=W3.heap.size:=Nat.le_trans hWy hk3'.1
      gi_wp2_with fail
      have hg:=HG.out
      gi_roundg s2.size
      case measure=>omega
      case rel=>exact⟨pre++[x],s2,rfl,by omega,HPR.out,hJb _ _ _ hJ3,hA3.set 0 _,by simpa using hW3⟩
theorem pieces_seqb (n:Nat) (hn:1<=n) (Bs:Nat) (all:ByteArray) (hall:all.size<=1000000) (w:World) (hA:Arr w Bs 9 [.string all]):
  SeqTyB Bs n Tryz.prog 90 #[.pointer (some ⟨Bs,0,none⟩)] zX (TyKept [3] none) (TyKept [9] none) (fun _=>True) (fun pre x=>∃r,jX all.data.toList=pre++x::r) (fun xs=>xs=jX all.data.toList) w:=fun l J Jx W hW hJ _ _ hJb hY h0=>
 (pieces1_stop n hn l Bs all hall J Jx W hJ hJb (fun pre x W1 a b c=>hY pre x W1 a b c) W rfl (hA.below hW hA.lt) h0).mono fun _ _ h=>⟨h.1,h.2.elim (fun k=>.inl ⟨_,rfl,k⟩) .inr⟩
end
section
open Go.RowKit Go Go.Shelf
attribute [local go_sem] Oper.semAt_some
theorem cutF_more {f:Nat} {s:List UInt8} {room:Nat} (h:s.length<=f):cutF f s room=cutL s room:=(cutF_is f s room h).uniq (cutL_is s room)
theorem cutL_go {s:List UInt8} (h:s≠[]) (room:Nat):cutL s room=if lnP (dX s)<=room then dX s+cutL (s.drop (dX s)) (room-lnP (dX s)) else min (min room 3) (dX s):=by
 have hp:=pS s h;obtain⟨m,hm⟩:∃m,s.length=m+1:=⟨s.length-1,by have:=List.length_pos_iff.2 h;omega⟩
 conv=>lhs;unfold cutL
 rw[hm];unfold cutF;rw[if_neg h,cutF_more (by rw[List.length_drop];omega)]
def CutQ (s:List UInt8) (room:Nat) (pre:List (List UInt8)) (r k:Nat):Prop:=cutL s room=k+cutL (s.drop k) r/\jX s=pre++jX (s.drop k)/\k<=s.length/\r<=room
theorem cutQ_next {s:List UInt8} {room:Nat} {pre t:List (List UInt8)} {x:List UInt8} {r k:Nat} (h:CutQ s room pre r k) (hx:jX s=pre++x::t):
  1<=x.length/\k+x.length<=s.length/\(lnP x.length<=r->CutQ s room (pre++[x]) (r-lnP x.length) (k+x.length))/\(¬lnP x.length<=r->cutL s room=k+min (min r 3) x.length):=by
 obtain⟨h1,h2,h3,h4⟩:=h;have e:jX (s.drop k)=x::t:=List.append_cancel_left (h2.symm.trans hx);have hne:s.drop k≠[]:=fun q=>by rw[q,MZ] at e;cases e
 have hb:=pS _ hne;rw[NA _ hne] at e
 injection e with e1 e2
 have hl:x.length=dX (s.drop k):=by rw[<-e1,List.length_take];omega
 have hd:=List.length_drop (i:=k) (l:=s);rw[cutL_go hne,<-hl] at h1;refine⟨by omega,by omega,fun q=>⟨?_,?_,by omega,by omega⟩,fun q=>by rw[h1,if_neg q]⟩
 ·rw[h1,if_pos q,List.drop_drop];omega
 ·rw[hx,List.append_assoc]
  congr 1
  show x::t=x::_;rw[<-e2,hl,List.drop_drop];rfl
theorem cutQ_end {s:List UInt8} {room:Nat} {pre:List (List UInt8)} {r k:Nat} (h:CutQ s room pre r k) (hx:pre=jX s):cutL s room=k:=by
 obtain⟨h1,h2,-,-⟩:=h;rw[hx] at h2;have e:jX (s.drop k)=[]:=by
  have:=congrArg List.length h2;rw[List.length_append] at this;exact List.length_eq_zero_iff.1 (by omega)
 have hn:s.drop k=[]:=by
  apply Decidable.byContradiction;intro q;rw[NA _ q] at e
  cases e
 rw[hn] at h1;exact h1
theorem cut_in (n:Nat) (hn:4<=n) (s:ByteArray) (room:Nat) (w:World) (hs:s.size<=1000000) (hrm:room<=1000000):
  CallsIn Fence.wide n Tryz.prog 89 #[.string s,.int .i64 (room:Int)] w fun e w'=>e=.returned (.int .i64 (cutL s.data.toList room:Int))/\Below w.heap.size w w':=by
 have h1:1<=n:=by omega
 have HQ0:=hid (show CutQ s.data.toList room [] room 0 from⟨by rw[Nat.zero_add];rfl,rfl,Nat.zero_le _,Nat.le_refl _⟩);have HL:=hid (show s.data.toList.length=s.size by simp);obtain⟨C,hC⟩:∃C,C=cutL s.data.toList room:=⟨_,rfl⟩;have HC:=hid hC;rw[<-hC];clear hC;refine callsIn_of_wp_marks Tryz.func89 rfl trivial ?_ rfl;simp only[Tryz.ntmps89,List.size_toArray,List.length_cons,List.length_nil,Nat.reduceAdd,Nat.reduceSub,Array.replicate_succ,Array.replicate_zero,List.push_toArray,List.append_toArray,List.nil_append,List.cons_append]
 gi_wp2_with fail
 refine⟨trivial,(aBe (n-1) s _).mono ?_⟩;rintro e w' ⟨rfl,rfl⟩
 gi_wp2_with fail
 have hA2:=(((Arr.new w 3 [.int .i64 (room:Int)]).alloc (.cells #[.int .i64 0] 3)).alloc (.cells #[.string s] 9));have hA3:=((Arr.new (w.alloc (.cells #[.int .i64 (room:Int)] 3)) 3 [.int .i64 0]).alloc (.cells #[.string s] 9));have hA4:=Arr.new ((w.alloc (.cells #[.int .i64 (room:Int)] 3)).alloc (.cells #[.int .i64 0] 3)) 9 [.string s];have hb1:Below w.heap.size w (((w.alloc (.cells #[.int .i64 (room:Int)] 3)).alloc (.cells #[.int .i64 0] 3)).alloc (.cells #[.string s] 9)):=(((Below.refl _ w).alloc (Nat.le_refl _) _).alloc (by simp) _).alloc (by simp;omega) _
 have hs1:(((w.alloc (.cells #[.int .i64 (room:Int)] 3)).alloc (.cells #[.int .i64 0] 3)).alloc (.cells #[.string s] 9)).heap.size=w.heap.size+1+1+1:=by simp
 simp only[World.size_alloc] at hA3 hA4;change Arr (((w.alloc (.cells #[.int .i64 (room:Int)] 3)).alloc (.cells #[.int .i64 0] 3)).alloc (.cells #[.string s] 9)) _ _ _ at hA2;change Arr (((w.alloc (.cells #[.int .i64 (room:Int)] 3)).alloc (.cells #[.int .i64 0] 3)).alloc (.cells #[.string s] 9)) _ _ _ at hA3;change Arr (((w.alloc (.cells #[.int .i64 (room:Int)] 3)).alloc (.cells #[.int .i64 0] 3)).alloc (.cells #[.string s] 9)) _ _ _ at hA4;generalize ((w.alloc (.cells #[.int .i64 (room:Int)] 3)).alloc (.cells #[.int .i64 0] 3)).alloc (.cells #[.string s] 9)=w1 at*
 obtain⟨z,hz⟩:∃z,z=w.heap.size:=⟨_,rfl⟩;rw[<-hz] at hA2 hA3 hA4 hb1 hs1 ⊢;have HZ:=hid hz;clear hz;have hzw:z+1+1+1<=w1.heap.size:=by omega
 refine wpIn_range_tyb (w0:=w1) (Ri:=TyKept [3] none) (Kp:=TyKept [9] none) (Ok:=fun _=>True) (Pre:=fun pre x=>∃r,jX s.data.toList=pre++x::r) (encs:=zX) h1 (gf:=90) (lb:=#[.pointer (some ⟨z+1+1,0,none⟩)]) rfl (enters_of Tryz.func90 (by kernel_rfl) rfl)
  (z+1+1) (by omega) (pieces_seqb (n-1) (by omega) (z+1+1) s hs w1 hA4) (Below.refl _ _) (fun _=>rfl) (fun h k=>h.trans k) (fun _ _ h=>.of_kept h) (fun _ _ h=>.of_kept h)
  (fun pre W=>∃r k:Nat,Hid (CutQ s.data.toList room pre r k)/\r<=room/\k<=s.size/\Arr W z 3 [.int .i64 (r:Int)]/\Arr W (z+1) 3 [.int .i64 (k:Int)]/\Below z w W/\z+1+1+1<=W.heap.size)
  (fun c _ W=>c=.ret/\Arr W (z+1) 3 [.int .i64 (C:Int)]/\Below z w W/\z+1+1+1<=W.heap.size)
  (fun pre A B ⟨r,k,k1,k2,k3,k4,k5,k6,k7⟩ hAB hk=>⟨r,k,k1,k2,k3,k4.below hAB (by omega),k5.below hAB (by omega),k6.trans (hAB.mono (by omega)),Nat.le_trans k7 hAB.size⟩)
  (fun c pre A B ⟨k1,k2,k3,k4⟩ hAB hk=>⟨k1,k2.below hAB (by omega),k3.trans (hAB.mono (by omega)),Nat.le_trans k4 hAB.size⟩)
  ⟨room,0,HQ0,Nat.le_refl _,Nat.zero_le _,hA2,hA3,hb1,hzw⟩ (fun _ _ _=>trivial)
  (fun pre A v ⟨r,k,k1,k2,k3,k4,k5,k6,k7⟩=>⟨r,k,k1,k2,k3,k4.other ⟨z+1+1,0,none⟩ (by show z+1+1≠z;omega) v,k5.other ⟨z+1+1,0,none⟩ (by show z+1+1≠z+1;omega) v,k6.setCell (p:=⟨z+1+1,0,none⟩) (by show z<=z+1+1;omega) v,by simpa using k7⟩)
  (fun x a' _=>a'={tmps:=#[.string s,.int .i64 (room:Int),undef,.pointer (some ⟨z,0,none⟩),.pointer (some ⟨z+1,0,none⟩),.string (mkS x),undef,.string s,.func (.func 90) #[] #[.pointer (some ⟨z+1+1,0,none⟩)],.string (mkS x),undef,undef,undef,undef,undef,undef,undef,undef,undef,undef,undef,undef,undef,undef,undef,undef,undef,undef,undef,undef,undef],defers:=[]})
  (fun _ _ _ _ k _=>k) ?assign ?body ?done ?stop
 case assign=>
  rintro l0 pre x W K hI hB hpre hK;unfold zX
  gi_wp2
  exact hK _ _ (Below.refl _ _) rfl
 case body=>
  rintro l0 pre x a' W ⟨r,k,HQ,k2,k3,k4,k5,k6,k7⟩ hB ⟨t,ht⟩ rfl;obtain⟨g1,g2,g3,g4⟩:=cutQ_next HQ.out ht;rw[HL.out] at g2;have hcall:=fun W=>(callsIn_wide (n:=n-1-1-1)).2 (aR8 x.length W)
  have hlp:tL x.length=lnP x.length:=rfl;rw[hlp] at hcall;obtain⟨q,hq⟩:∃q,q=lnP x.length:=⟨_,rfl⟩;have hqb:q<=5:=by rw[hq];unfold lnP;split<;>omega
  rw[<-hq] at hcall g3 g4;have G3:=hid g3;have G4:=hid g4;have c0:=k4.cell (i:=0) rfl;have f0:=k4.free 0;have c1:=k5.cell (i:=0) rfl;have f1:=k5.free 0;clear hlp hq g3 g4 ht
  by_cases hle:q<=r
  ·have t1:decide ((q:Int)<=(r:Int))=true:=decide_eq_true (by omega);obtain⟨r2,hr2⟩:∃r2,r2=r-q:=⟨_,rfl⟩;obtain⟨K2,hK2⟩:∃K2,K2=k+x.length:=⟨_,rfl⟩;have m1:IntKind.i64.wrap ((r:Int)-(q:Int))=(r2:Int):=by rw[show(r:Int)-(q:Int)=(r2:Int) by omega];exact nat_wI r2 (by omega)
   have m1':(r:Int)-(q:Int)=(r2:Int):=by omega
   have m2:IntKind.i64.wrap ((k:Int)+(x.length:Int))=(K2:Int):=by rw[show(k:Int)+(x.length:Int)=(K2:Int) by omega];exact nat_wI K2 (by omega)
   have m2':(k:Int)+(x.length:Int)=(K2:Int):=by omega
   have hG:=G3.out hle;rw[<-hr2,<-hK2] at hG;have HG:=hid hG;have hrb:r2<=room/\K2<=s.size:=by omega
   have k5':=k5.other ⟨z,0,none⟩ (by show z≠z+1;omega) (.int .i64 (r2:Int));have c1':=k5'.cell (i:=0) rfl;have f1':=k5'.free 0;clear hr2 hK2 hG
   gi_wp2_with fail
   refine⟨trivial,fun _=>by omega,((hcall _).inRound l0).mono ?_⟩;rintro e w2 ⟨rfl,rfl⟩
   gi_wp2_with fail
   refine⟨((KeepsOthers.setCell _ _ _).trans (KeepsOthers.setCell _ _ _)).from _,(TyKept.box k4 (by decide) _).trans (TyKept.box k5' (by decide) _),r2,K2,HG,hrb.1,hrb.2,(k4.set 0 _).other ⟨z+1,0,none⟩ (by show z+1≠z;omega) _,k5'.set 0 _,(k6.setCell (p:=⟨z,0,none⟩) (Nat.le_refl _) _).setCell (p:=⟨z+1,0,none⟩) (by show z<=z+1;omega) _,by simpa using k7⟩
  ·have t1:decide ((q:Int)<=(r:Int))=false:=decide_eq_false (by omega);have hG:=G4.out hle;rw[<-HC.out] at hG;obtain⟨M,hM⟩:∃M,M=min (min r 3) x.length:=⟨_,rfl⟩;rw[<-hM] at hG;have x1:max (r:Int) 0=(r:Int):=by omega
   have x2:(if(r:Int)<=0 then 0 else(r:Int))=(r:Int):=by split<;>omega
   obtain⟨A,hA⟩:∃A,A=min r 3:=⟨_,rfl⟩;have y0:min (r:Int) 3=(A:Int):=by omega
   have y1:min (A:Int) (x.length:Int)=(M:Int):=by omega
   have y2:(if(3:Int)<(r:Int) then(3:Int) else(r:Int))=(A:Int):=by split<;>omega
   have y3:(if(r:Int)<=3 then(r:Int) else 3)=(A:Int):=by split<;>omega
   have y4:(if(A:Int)<=(x.length:Int) then(A:Int) else(x.length:Int))=(M:Int):=by split<;>omega
   have y5:(if(x.length:Int)<(A:Int) then(x.length:Int) else(A:Int))=(M:Int):=by split<;>omega
   clear hA;have m2:IntKind.i64.wrap ((k:Int)+(M:Int))=(C:Int):=by rw[show(k:Int)+(M:Int)=(C:Int) by omega];exact nat_wI C (by omega)
   have m2':(k:Int)+(M:Int)=(C:Int):=by omega
   clear hG hM
   gi_wp2_with fail
   refine⟨trivial,fun _=>by omega,((hcall _).inRound l0).mono ?_⟩;rintro e w2 ⟨rfl,rfl⟩
   gi_wp2_with fail
   all_goals
    first
     |rw[m2']
     |rw[show(k:Int)+(x.length:Int)=(C:Int) by omega]
     |rw[show(k:Int)+(A:Int)=(C:Int) by omega]
     |rw[show(k:Int)+3=(C:Int) by omega]
     |rw[show(k:Int)+(r:Int)=(C:Int) by omega]
    exact⟨(KeepsOthers.setCell _ _ _).from _,rfl,k5.set 0 _,k6.setCell (p:=⟨z+1,0,none⟩) (by show z<=z+1;omega) _,by simpa using k7⟩
 case done=>
  rintro D xs W hD hfin ⟨r,k,HQ,k2,k3,k4,k5,k6,k7⟩ hK;have hk:k=C:=by rw[HC.out,cutQ_end HQ.out hfin]
  subst hk;have c1:=k5.cell (i:=0) rfl;have f1:=k5.free 0;have hK':(W.setCell ⟨z+1,0,none⟩ (.int .i64 (k:Int))).heap[D]? =some (.deferred (some [])):=rest_set k5 _ D _ hK rfl
  gi_wp2_with fail
  refine⟨by simp,.inl ⟨_,_,rfl,run_takeDeferred hK',?_⟩⟩;have q2:=((k5.set 0 (.int .i64 (k:Int))).grown (grownBy_putObj' _ D (.deferred none)) (by simp;omega)).cell (i:=0) rfl;refine⟨.int .i64 (k:Int),?_,rfl,?_⟩
  ·simp[results,Tryz.f89,go_sem,q2]
  ·rw[<-HZ.out];exact(k6.setCell (p:=⟨z+1,0,none⟩) (by show z<=z+1;omega) _).trans (belowK_b (w:=w1) (by omega) _ D _ _ hD hK' rfl rfl)
 case stop=>
  rintro D c pre W hD ⟨rfl,k2,k3,k4⟩ hK
  gi_wp2_with fail
  refine⟨by simp,.inl ⟨_,_,rfl,run_takeDeferred hK,?_⟩⟩;have q2:=(k2.grown (grownBy_putObj' _ D (.deferred none)) (by simp;omega)).cell (i:=0) rfl;refine⟨.int .i64 (C:Int),?_,rfl,?_⟩
  ·simp[results,Tryz.f89,go_sem,q2]
  ·rw[<-HZ.out];exact k3.trans (belowK_b (w:=w1) (by omega) _ D _ _ hD hK rfl rfl)
end
section
open Go.RowKit Go Go.Shelf
attribute [local go_sem] Oper.semAt_some
def KpX (Bs:Nat) (A B:World):Prop:=A.heap.size<=B.heap.size/\∀k c e fz,(k=Bs\/k=Bs+1)->A.heap[k]? =some (.cells c e fz)->B.heap[k]? =some (.cells c e fz)
theorem KpX.trans {Bs:Nat} {A B C:World} (h:KpX Bs A B) (k:KpX Bs B C):KpX Bs A C:=⟨Nat.le_trans h.1 k.1,fun i c e fz hi ha=>k.2 i c e fz hi (h.2 i c e fz hi ha)⟩
theorem KpX.of_kept {Bs:Nat} {A B:World} (h:dP none A B):KpX Bs A B:=⟨h.1,fun k _ _ _ _ hk=>h.2 k _ hk rfl (fun q=>by cases q)⟩
theorem KpX.arr {Bs e:Nat} {A B:World} {l:List Value} (h:KpX Bs A B) (ha:Arr A Bs e l):Arr B Bs e l:=h.2 _ _ _ _ (.inl rfl) ha
theorem KpX.arr1 {Bs e:Nat} {A B:World} {l:List Value} (h:KpX Bs A B) (ha:Arr A (Bs+1) e l):Arr B (Bs+1) e l:=h.2 _ _ _ _ (.inr rfl) ha
theorem cuts1_in (n:Nat) (hn:5<=n) (l Bs lv:Nat) (all:ByteArray) (hall:all.size<=1000000) (hl1:1<=lv) (hl9:lv<=9) (J Jx:List (List UInt8)->World->Prop) (Wl:World) (hJa:∀s A B,J s A->Below Wl.heap.size A B->dP none A B->J s B) (hJb:∀s A v,J s A->J s (A.setCell ⟨Bs,0,none⟩ v))
  (hY:∀pre x W1,J pre W1->Wl.heap.size<=W1.heap.size->(∃r,picL (40*lv) all.data.toList=pre++x::r)->YieldAt Fence.wide (n-1) Tryz.prog l (zX x) W1 fun e W'=>(e=.returned (.bool true)/\J (pre++[x]) W'/\KpX Bs W1 W')\/(e=.returned (.bool false)/\Jx (pre++[x]) W'))
  (W:World) (hWl:W=Wl) (hA:Arr W Bs 9 [.string all]) (hB:Arr W (Bs+1) 3 [.int .i64 (lv:Int)]) (h0:J [] W):
  CallsIn Fence.wide n Tryz.prog 88 #[.func (.yield l) #[] #[],.pointer (some ⟨Bs,0,none⟩),.pointer (some ⟨Bs+1,0,none⟩)] W fun e W'=>(∃v,e=.returned v)/\(J (picL (40*lv) all.data.toList) W'\/∃pre,Jx pre W'):=by
 have HWL:=hid hWl;have hW0:Wl.heap.size<=W.heap.size:=by rw[hWl];exact Nat.le_refl _
 clear hWl;obtain⟨room,hroom⟩:∃room,room=40*lv:=⟨_,rfl⟩;rw[<-hroom] at hY ⊢;have hrb:40<=room/\room<=360:=by omega
 have m1:IntKind.i64.wrap ((lv:Int)*40)=(room:Int):=by rw[show(lv:Int)*40=(room:Int) by omega];exact nat_wI room (by omega)
 have m1':(lv:Int)*40=(room:Int):=by omega
 clear hroom;refine callsIn_of_wp Tryz.func88 rfl trivial ?_ rfl;simp only[Tryz.ntmps88,List.size_toArray,List.length_cons,List.length_nil,Nat.reduceAdd,Nat.reduceSub,Array.replicate_succ,Array.replicate_zero,List.push_toArray,List.append_toArray,List.nil_append,List.cons_append]
 gi_wp2_with fail
 gi_loopg [4] all.size (fun g _s4 wr=>∃(pre:List (List UInt8)) (s:ByteArray),g=s.size/\s.size<=1000000/\pre++picL room s.data.toList=picL room all.data.toList/\J pre wr/\Arr wr Bs 9 [.string s]/\Arr wr (Bs+1) 3 [.int .i64 (lv:Int)]/\Wl.heap.size<=wr.heap.size)
 case atStart=>exact⟨[],all,rfl,hall,rfl,h0,hA,hB,hW0⟩
 case round=>
  obtain⟨pre,s,hg,hr6,hp,hJ,hA,hB,hWr⟩:=hrel;have HG:=hid hg;have HP:=hid hp;have HL:=hid (show s.data.toList.length=s.size by simp);clear hg hp;have c0:=hA.cell (i:=0) rfl;have c1:=hB.cell (i:=0) rfl
  by_cases hne:s.data.toList=[]
  ·have te:s.toList.isEmpty=true:=by rw[Lib.toList_data,hne];rfl
   have hp:=HP.out;rw[hne,picL_nil,List.append_nil] at hp;have HP2:=hid hp;clear hp HP hne
   gi_wp2_with fail
   go_end0
   exact⟨⟨_,rfl⟩,.inl (by rw[<-HP2.out];exact hJ)⟩
  ·have hrl:0<s.size:=by rw[<-HL.out];exact List.length_pos_iff.2 hne
   have te:s.toList.isEmpty=false:=LR hne;obtain⟨k,hk⟩:∃k,k=cutL s.data.toList room:=⟨_,rfl⟩;have hk1:1<=k:=by rw[hk];exact cutL_pos hne (by omega)
   have hk2:k<=s.size:=by rw[hk,<-HL.out];exact(cutL_is _ _).1
   have hcall:=fun W=>cut_in (n-1) (by omega) s room W hr6 (by omega)
   rw[<-hk] at hcall;have hpc:=picL_cons (room:=room) (by omega) hne;rw[<-hk] at hpc;have hx0:s.extract 0 k=mkS (s.data.toList.take k):=by rw[nT,List.drop_zero,Nat.sub_zero]
   obtain⟨s2,hs2⟩:∃s2,s2=s.extract k s.size:=⟨_,rfl⟩;have hd2:s2.data.toList=s.data.toList.drop k:=by
    rw[hs2,nT,fW,List.take_of_length_le (by rw[List.length_drop,HL.out];omega)]
   have hsz2:s2.size=s.size-k:=by
    have:s2.data.toList.length=s2.size:=by simp
    rw[<-this,hd2,List.length_drop,HL.out]
   obtain⟨x,hx⟩:∃x,x=s.data.toList.take k:=⟨_,rfl⟩;rw[<-hx] at hx0 hpc;have hpre:=HP.out;rw[hpc] at hpre;have hs2':s.extract k s.size=s2:=hs2.symm;have HPR:=hid (show(pre++[x])++picL room s2.data.toList=picL room all.data.toList by rw[hd2,List.append_assoc];exact hpre);have HPR2:=hid (show ∃r,picL room all.data.toList=pre++x::r from⟨_,hpre.symm⟩);have q1:(k:Int)<=(s.size:Int):=by omega
   have HS2:=hid hsz2;clear hs2 hd2 hx hpc hpre hk hne hsz2 HP
   gi_wp2_with fail
   refine⟨trivial,fun _=>by omega,(hcall _).mono ?_⟩;rintro e W2 ⟨rfl,h2⟩;have hJ2:=hJa _ _ _ hJ (h2.mono hWr) (dP.of_below h2);have hA2:=hA.below h2 hA.lt;have hB2:=hB.below h2 hB.lt;have hW2:=Nat.le_trans hWr h2.size;obtain⟨fn,tmps,assign,body,hy,hR⟩:=hY pre x W2 hJ2 hW2 HPR2.out;unfold zX at hy;have d0:=hA2.cell (i:=0) rfl;have d1:=hB2.cell (i:=0) rfl;clear hcall hJ hA hB c0 c1 hWr
   gi_wp2_with fail
   refine⟨fun _=>by omega,hR.mono ?_⟩;rintro e W3 (⟨rfl,hJ3,hk3'⟩|⟨rfl,hJ3⟩)
   rotate_left
   ·gi_wp2_with fail
    refine bodyPost_ret (results_none rfl _ _ _) rfl ?_;exact⟨⟨_,rfl⟩,.inr ⟨_,hJ3⟩⟩
   have hA3:=hk3'.arr hA2;have hB3:=hk3'.arr1 hB2;have e0:=hA3.cell (i:=0) rfl;have f3:=hA3.free 0;have hW3:Wl.heap.size<=W3.heap.size:=Nat.le_trans hW2 hk3'.1;clear hJ2 hA2 hB2 d0 d1 hW2 hy hR
   gi_wp2_with fail
   have hg:=HG.out;have hs2:=HS2.out
   gi_roundg s2.size
   case measure=>omega
   case rel=>exact⟨pre++[x],s2,rfl,by omega,HPR.out,hJb _ _ _ hJ3,hA3.set 0 _,hB3.other ⟨Bs,0,none⟩ (by show Bs≠Bs+1;omega) _,by simpa using hW3⟩
theorem cuts_seqb (n:Nat) (hn:5<=n) (Bs lv:Nat) (all:ByteArray) (hall:all.size<=1000000) (hl1:1<=lv) (hl9:lv<=9) (w:World) (hA:Arr w Bs 9 [.string all]) (hB:Arr w (Bs+1) 3 [.int .i64 (lv:Int)]):
  SeqTyB Bs n Tryz.prog 88 #[.pointer (some ⟨Bs,0,none⟩),.pointer (some ⟨Bs+1,0,none⟩)] zX (dP none) (KpX Bs) (fun _=>True) (fun pre x=>∃r,picL (40*lv) all.data.toList=pre++x::r) (fun xs=>xs=picL (40*lv) all.data.toList) w:=fun l J Jx W hW hJ _ _ hJb hY h0=>
 (cuts1_in n hn l Bs lv all hall hl1 hl9 J Jx W hJ hJb (fun pre x W1 a b c=>hY pre x W1 a b c) W rfl (hA.below hW hA.lt) (hB.below hW hB.lt) h0).mono fun _ _ h=>⟨h.1,h.2.elim (fun k=>.inl ⟨_,rfl,k⟩) .inr⟩
theorem cuts_in (n:Nat) (all:ByteArray) (lv:Nat) (w:World):
  CallsIn Fence.wide n Tryz.prog 56 #[.string all,.int .i64 (lv:Int)] w fun e w'=>e=.returned (.func (.func 88) #[] #[.pointer (some ⟨w.heap.size,0,none⟩),.pointer (some ⟨w.heap.size+1,0,none⟩)])/\w'=(w.alloc (.cells #[.string all] 9)).alloc (.cells #[.int .i64 (lv:Int)] 3):=by
 refine callsIn_of_wp Tryz.func56 rfl trivial ?_ rfl;simp only[Tryz.ntmps56,List.size_toArray,List.length_cons,List.length_nil,Nat.reduceAdd,Nat.reduceSub,Array.replicate_succ,Array.replicate_zero,List.push_toArray,List.append_toArray,List.nil_append,List.cons_append]
 gi_wp2_with fail
 go_ret;exact⟨rfl,rfl⟩
end
end Go.Proofs.YtpgmbhpbgkljdaaGreatDoor
