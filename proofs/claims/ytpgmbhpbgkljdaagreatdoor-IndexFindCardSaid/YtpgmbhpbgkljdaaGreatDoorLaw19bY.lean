/-
  The walk of the statement IndexFind.
-/
import Derived.Test.YtpgmbhpbgkljdaaGreatDoorY6
set_option maxRecDepth 100000
set_option maxHeartbeats 12800000
set_option linter.unusedVariables false
set_option linter.unusedSimpArgs false
namespace Go.Proofs.YtpgmbhpbgkljdaaGreatDoor
open Go.RowKit Go Go.Shelf
theorem indexFind_any (v:Value) (raw:List Trip) (off:Int) (w:World) (hE:iF w) (hr:RdR w v (raw.map tripC)) (hwf:WfT raw) (ho1: -9223372036854775808<=off) (ho2:off<=9223372036854775807):
  Calls Tryz.prog 12 #[v,.int .i64 off] w fun e w'=>e=.returned (.bool true)/\Below w.heap.size w w':=by
 obtain⟨p1,p2⟩:=vU off 1099511627776 (by decide);obtain⟨D,hD⟩:∃D:Nat,gA off 1099511627776=(D:Int):=⟨_,(Int.toNat_of_nonneg p1).symm⟩;have hpk:=fun W=>pick19_any off 1099511627776 W ho1 ho2 (by decide) (by decide)
 rw[hD] at hpk p2;clear hD p1;go_enter Tryz.func12,Tryz.ntmps12;go_wp2_with fail;refine(awake19_any _ hE).mono ?_;rintro e w1 ⟨rfl,h1⟩;have hr1:=hr.below h1;clear hr hE;go_wp2_with fail;refine(idx19_any v raw _ hr1 hwf).mono ?_;rintro e w2 ⟨u,rfl,hu,h2⟩;have h02:=bV h1 h2;clear h1 h2 hr1 hwf;have hR:=idxL_right raw;have hlen:=idxL_length raw;have htot:=idxL_tot raw;have hbd:=idxL_bd raw;obtain⟨l,hl⟩:∃l,l=idxL raw:=⟨_,rfl⟩;rw[<-hl] at hu hR hlen htot hbd;clear hl;obtain⟨a,ca,rfl,hca,hma,hA⟩:=ent_cells hu;have hto:=fun W h=>total_any (.slice a l.length ca) l W h (by omega)
 have hfi:=fun o W h=>find_any (.slice a l.length ca) l o W h (by omega)
 obtain⟨T,hT⟩:∃T:Nat,totL l=(T:Int):=⟨_,(Int.toNat_of_nonneg hbd.1).symm⟩;rw[hT] at hto hbd;have HT:=hid hT;have HSN:=hid (show sumN l=(T:Int) by rw[<-htot,hT]);clear htot hT;unfold maxLen at hma;go_wp2_with fail;refine(hto _ hu).mono ?_;rintro e w3 ⟨rfl,h3⟩;have hu3:=hu.below h3;have h03:=bV h02 h3;have hs23:=h3.size;clear hto h02;go_wp2_with fail;have HR:=hid hR;clear hR
 go_loopg [8,9] (T+2) (fun g s8 _s9 wr=>∃q:Int,-1<=q/\q<=(T:Int)+1/\g=((T:Int)+1-q).toNat/\s8=.int .i64 q/\Below w3.heap.size w3 wr)
 case atStart=>exact⟨-1,by decide,by omega,by omega,rfl,Below.refl _ _⟩
 case round=>
  obtain⟨q,hq1,hq2,hg,rfl,hbel⟩:=hrel;have HG:=hid hg;have hsz:=hbel.size;have hur:=hu3.below hbel;clear hg
  by_cases hlt:q<=(T:Int)
  ·have t1:decide (q<=(T:Int))=true:=decide_eq_true hlt;have t2:decide (q<700)=true:=decide_eq_true (by omega);obtain⟨Q2,hQ2⟩:∃Q2,Q2=q+1:=⟨_,rfl⟩;have mq:IntKind.i64.wrap (q+1)=Q2:=by rw[<-hQ2,IntKind.wrap_i64];omega
   have mq':=hQ2.symm;have HQ2:=hid hQ2;clear hQ2
   by_cases hn:q<0\/q=(T:Int)
   ·have hf0:findL l q= -1:=find_none (by rw[HT.out];omega);have hfc:=fun W h=>hfi q W h
    rw[hf0] at hfc;clear hf0;go_wp2_with fail;refine(hfc _ hur).mono ?_;rintro e w4 ⟨rfl,h4⟩;have h34:=hbel.trans (h4.mono hsz)
    by_cases h0:q<0
    ·have t3:decide (q<0)=true:=decide_eq_true h0;go_wp2_with fail;have hg:=HG.out;have hq2:=HQ2.out
     go_roundg ((T:Int)+1-Q2).toNat
     case measure=>omega
     case rel=>exact⟨Q2,by omega,by omega,rfl,rfl,h34⟩
    ·have t3:decide (q<0)=false:=decide_eq_false h0;have t4:(q==(T:Int))=true:=beq_iff_eq.2 (by omega);go_wp2_with fail;have hg:=HG.out;have hq2:=HQ2.out
     go_roundg ((T:Int)+1-Q2).toNat
     case measure=>omega
     case rel=>exact⟨Q2,by omega,by omega,rfl,rfl,h34⟩
   ·have t3:decide (q<0)=false:=decide_eq_false (by omega);have t4:(q==(T:Int))=false:=beq_eq_false_iff_ne.2 (by omega);obtain⟨k,x,hk,hx1,hx2,hf0⟩:=find_at HR.out (show 0<=q by omega) (by rw[HSN.out];omega);have hkl:=(List.getElem?_eq_some_iff.1 hk).1;have hxr:=(right_get HR.out k x hk).2;have hfc:=fun W h=>hfi q W h
    rw[hf0] at hfc;obtain⟨b,o,rfl,hb,hcl⟩:=hA (by omega);obtain⟨x0,x1,x2,x3,x4⟩:=hcl k x hk;obtain⟨S,hS⟩:∃S,S=x.f+x.n:=⟨_,rfl⟩;have mS:IntKind.i64.wrap (x.f+x.n)=S:=by rw[<-hS,IntKind.wrap_i64];omega
    have mS':=hS.symm;have u1:decide ((k:Int)<0)=false:=decide_eq_false (by omega);have u2:decide ((k:Int)>=(l.length:Int))=false:=decide_eq_false (by omega);have u2':decide ((l.length:Int)<=(k:Int))=false:=decide_eq_false (by omega);have u2n:decide (l.length<=k)=false:=decide_eq_false (by omega);have u3:decide (q<x.f)=false:=decide_eq_false (by omega);have u4:decide (q>=S)=false:=decide_eq_false (by omega);have u4':decide (S<=q)=false:=decide_eq_false (by omega);clear hS hf0 hA hcl hk x0 x1 x4;go_wp2_with fail;refine(hfc _ hur).mono ?_;rintro e w4 ⟨rfl,h4⟩;have h34:=hbel.trans (h4.mono hsz)
    have c2:=((h3.trans (h34.mono hs23)).cell (p:=⟨b,o+k*5+2,none⟩) hb).trans x2;have c3:=((h3.trans (h34.mono hs23)).cell (p:=⟨b,o+k*5+3,none⟩) hb).trans x3;clear x2 x3 hfc hur;go_wp2_with fail
    go_quiet (fail)
    go_wp2_with fail;have hg:=HG.out;have hq2:=HQ2.out
    go_roundg ((T:Int)+1-Q2).toNat
    case measure=>omega
    case rel=>exact⟨Q2,by omega,by omega,rfl,rfl,below_drewN h34 _⟩
  ·have t1:decide (q<=(T:Int))=false:=decide_eq_false hlt;have h0r:=h03.trans (hbel.mono h03.size);clear HG;go_wp2_with fail
   go_loopg [10,11] l.length (fun g s10 s11 wr'=>∃j N:Nat,j<=l.length/\g=l.length-j/\s11=.int .i64 (j:Int)/\s10=.int .i64 (N:Int)/\Hid ((N:Int)=sumN (l.take j))/\wr'=wr)
   case atStart=>exact⟨0,0,Nat.zero_le _,rfl,rfl,rfl,hid rfl,rfl⟩
   case round=>
    obtain⟨j,N,hj,hg,rfl,rfl,HN,rfl⟩:=hrel;have HG:=hid hg;clear hg
    by_cases hlt2:j<l.length
    ·have t5:decide ((j:Int)<(l.length:Int))=true:=decide_eq_true (by omega);obtain⟨b,o,rfl,hb,hcl⟩:=hA (by omega);obtain⟨x,hx⟩:∃x,l[j]? =some x:=⟨_,List.getElem?_eq_getElem hlt2⟩;obtain⟨x0,x1,x2,x3,x4⟩:=hcl j x hx;have c3:=((h3.trans (hbel.mono hs23)).cell (p:=⟨b,o+j*5+3,none⟩) hb).trans x3;have hst:=sumN_take hx;have hmo:=sumN_mono HR.out (j+1) (l.length-(j+1));rw[show j+1+(l.length-(j+1))=l.length by omega,List.take_length,HSN.out] at hmo;have hxr:=(right_get HR.out j x hx).2;obtain⟨N2,hN2⟩:∃N2:Nat,sumN (l.take (j+1))=(N2:Int):=⟨(sumN (l.take (j+1))).toNat,by rw[hst,<-HN.out];omega⟩
     have HN2:=hid hN2.symm;rw[hN2] at hst hmo;have mN:IntKind.i64.wrap ((N:Int)+x.n)=(N2:Int):=by rw[HN.out,<-hst];exact nat_w19 N2 (by omega)
     have mN':(N:Int)+x.n=(N2:Int):=by rw[HN.out,<-hst]
     have hN2b:N2<=600:=by omega
     clear hst hmo hN2 x0 x1 x2 x3 x4 hcl hA hx hur;go_wp2_with fail;have hg:=HG.out
     go_roundg (l.length-(j+1))
     case measure=>omega
     case rel=>exact⟨j+1,N2,by omega,rfl,by go_num,by go_num,HN2,rfl⟩
    ·have t5:decide ((j:Int)<(l.length:Int))=false:=decide_eq_false (by omega);obtain rfl:N=T:=by
      have h:=HN.out;rw[List.take_of_length_le (by omega),HSN.out] at h;omega
     obtain⟨M1,hM1⟩:∃M1,M1=N+D:=⟨_,rfl⟩;obtain⟨M2,hM2⟩:∃M2,M2= -1-(D:Int):=⟨_,rfl⟩;have m1:IntKind.i64.wrap ((N:Int)+(D:Int))=(M1:Int):=by rw[show(N:Int)+(D:Int)=(M1:Int) by omega];exact nat_w19 M1 (by omega)
     have m1':(N:Int)+(D:Int)=(M1:Int):=by omega
     have m2:IntKind.i64.wrap (-1-(D:Int))=M2:=by rw[<-hM2,IntKind.wrap_i64];omega
     have m2':=hM2.symm;have hf1:findL l (M1:Int)= -1:=find_none (by rw[HT.out];omega);have hf2:findL l M2= -1:=find_none (by omega);have hc1:=fun W h=>hfi (M1:Int) W h
     have hc2:=fun W h=>hfi M2 W h
     rw[hf1] at hc1;rw[hf2] at hc2;clear hf1 hf2 hM1 hM2 hfi hA HN;go_wp2_with fail;refine(hpk _).mono ?_;rintro e w' ⟨rfl,rfl⟩;go_wp2_with fail;refine(hc1 _ hur).mono ?_;rintro e w5 ⟨rfl,h5⟩;have hu5:=hur.below h5;have h05:=bV h0r h5;go_wp2_with fail;refine(hpk _).mono ?_;rintro e w' ⟨rfl,rfl⟩;go_wp2_with fail;refine(hc2 _ hu5).mono ?_;rintro e w6 ⟨rfl,h6⟩;go_wp2_with fail;go_ret;exact⟨rfl,bV h05 h6⟩
end Go.Proofs.YtpgmbhpbgkljdaaGreatDoor
