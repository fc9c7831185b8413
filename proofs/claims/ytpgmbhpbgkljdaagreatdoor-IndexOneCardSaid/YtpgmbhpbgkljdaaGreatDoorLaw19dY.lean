/-
  The walk of the statement IndexOne.
-/
import Derived.Test.YtpgmbhpbgkljdaaGreatDoorY6
import Derived.Test.YtpgmbhpbgkljdaaGreatDoorY1
set_option maxRecDepth 100000
set_option maxHeartbeats 12800000
set_option linter.unusedVariables false
set_option linter.unusedSimpArgs false
namespace Go.Proofs.YtpgmbhpbgkljdaaGreatDoor
open Go.RowKit Go Go.Shelf
theorem indexOne_any (v:Value) (raw:List Trip) (off n more:Int) (w:World) (hE:iF w) (hr:RdR w v (raw.map tripC)) (hwf:WfT raw) (ho1: -9223372036854775808<=off) (ho2:off<=9223372036854775807) (hn1: -9223372036854775808<=n) (hn2:n<=9223372036854775807) (hm1: -9223372036854775808<=more) (hm2:more<=9223372036854775807):
  Calls Tryz.prog 14 #[v,.int .i64 off,.int .i64 n,.int .i64 more] w fun e w'=>e=.returned (.bool true)/\Below w.heap.size w w':=by
 go_enter Tryz.func14,Tryz.ntmps14;go_wp2_with fail;refine(awake19_any _ hE).mono ?_;rintro e w1 ⟨rfl,h1⟩;have hr1:=hr.below h1;clear hr hE;go_wp2_with fail;refine(idx19_any v raw _ hr1 hwf).mono ?_;rintro e w2 ⟨u,rfl,hu,h2⟩;have h02:=bV h1 h2;clear h1 h2 hr1 hwf;have hR:=idxL_right raw;have hlen:=idxL_length raw;have htot:=idxL_tot raw;have hbd:=idxL_bd raw;obtain⟨l,hl⟩:∃l,l=idxL raw:=⟨_,rfl⟩;rw[<-hl] at hu hR hlen htot hbd;clear hl;obtain⟨a0,ca,rfl,hca,hma,-⟩:=ent_cells hu;unfold maxLen at hma;have hto:=fun W h=>total_any (.slice a0 l.length ca) l W h (by omega)
 obtain⟨T,hT⟩:∃T:Nat,totL l=(T:Int):=⟨_,(Int.toNat_of_nonneg hbd.1).symm⟩;rw[hT] at hto hbd;have hS:sumN l=(T:Int):=by rw[<-htot,hT]
 clear htot hT;go_wp2_with fail;refine(hto _ hu).mono ?_;rintro e w3 ⟨rfl,h3⟩;have hu3:=hu.below h3;have h03:=bV h02 h3;clear hto h02 h3 hu
 by_cases h0:T=0
 ·have t0:((T:Int)==0)=true:=beq_iff_eq.2 (by omega);have t0':(T==0)=true:=beq_iff_eq.2 h0;clear hS;go_wp2_with fail;go_ret;exact⟨rfl,h03⟩
 have t0:((T:Int)==0)=false:=beq_eq_false_iff_ne.2 (by omega);have t0':(T==0)=false:=beq_eq_false_iff_ne.2 h0;obtain⟨p1,p2⟩:=vU off (T:Int) (by omega);obtain⟨p3,p4⟩:=vU n 100 (by decide);obtain⟨p5,p6⟩:=vU more 100 (by decide);have hpo:=fun W=>pick19_any off (T:Int) W ho1 ho2 (by omega) (by omega)
 have hpn:=fun W=>pick19_any n 100 W hn1 hn2 (by decide) (by decide)
 have hpm:=fun W=>pick19_any more 100 W hm1 hm2 (by decide) (by decide)
 obtain⟨f,hf⟩:∃f:Nat,gA off (T:Int)=(f:Int):=⟨_,(Int.toNat_of_nonneg p1).symm⟩;obtain⟨q,hq⟩:∃q:Nat,gA n 100=(q:Int):=⟨_,(Int.toNat_of_nonneg p3).symm⟩;obtain⟨r,hr⟩:∃r:Nat,gA more 100=(r:Int):=⟨_,(Int.toNat_of_nonneg p5).symm⟩;rw[hf] at hpo p2;rw[hq] at hpn p4;rw[hr] at hpm p6;obtain⟨m,hm⟩:∃m,m=1+q:=⟨_,rfl⟩;obtain⟨M,hM⟩:∃M,M=m+r:=⟨_,rfl⟩;obtain⟨E,hEe⟩:∃E,E=f+m:=⟨_,rfl⟩;obtain⟨G,hG⟩:∃G:Nat,min (E:Int) (T:Int)=(G:Int):=⟨(min (E:Int) (T:Int)).toNat,by omega⟩;obtain⟨J,hJ⟩:∃J:Nat,J+1=G:=⟨G-1,by omega⟩
 have m1:IntKind.i64.wrap (1+(q:Int))=(m:Int):=by rw[show 1+(q:Int)=(m:Int) by omega];exact nat_w19 m (by omega)
 have m1':1+(q:Int)=(m:Int):=by omega
 have m2:IntKind.i64.wrap ((m:Int)+(r:Int))=(M:Int):=by rw[show(m:Int)+(r:Int)=(M:Int) by omega];exact nat_w19 M (by omega)
 have m2':(m:Int)+(r:Int)=(M:Int):=by omega
 have m3:IntKind.i64.wrap ((f:Int)+(m:Int))=(E:Int):=by rw[show(f:Int)+(m:Int)=(E:Int) by omega];exact nat_w19 E (by omega)
 have m3':(f:Int)+(m:Int)=(E:Int):=by omega
 have x2:(if(E:Int)<=(T:Int) then(E:Int) else(T:Int))=(G:Int):=by rw[<-hG,Int.min_def]
 have m4:IntKind.i64.wrap ((G:Int)-1)=(J:Int):=by rw[show(G:Int)-1=(J:Int) by omega];exact nat_w19 J (by omega)
 have m4':(G:Int)-1=(J:Int):=by omega
 obtain⟨fa,hfa⟩:∃fa,fa=findL l (f:Int):=⟨_,rfl⟩;obtain⟨fb,hfb⟩:∃fb,fb=findL l (J:Int):=⟨_,rfl⟩;obtain⟨fd,hfd⟩:∃fd,fd=findL l (min ((f:Int)+(M:Int)) (T:Int)-1):=⟨_,rfl⟩;have hc1:coverL l (f:Int) (m:Int)=(fa,fb):=by
  rw[cover_from hR (by omega) (by omega) (by omega),hS,m3',hG,m4',<-hfa,<-hfb]
 have hc2:coverL l (f:Int) (M:Int)=(fa,fd):=by
  rw[cover_from hR (by omega) (by omega) (by omega),hS,<-hfa,<-hfd]
 have hdb:fb<=fd:=by
  rw[hfb,hfd];exact find_mono hR (by omega) (by omega) (by omega)
 have hco1:=fun W h=>cover_any (.slice a0 l.length ca) l (f:Int) (m:Int) W h (by omega) (by omega) (by omega) (by omega) (by omega)
 have hco2:=fun W h=>cover_any (.slice a0 l.length ca) l (f:Int) (M:Int) W h (by omega) (by omega) (by omega) (by omega) (by omega)
 have hco3:=fun W h=>cover_any (.slice a0 l.length ca) l (E:Int) 1 W h (by omega) (by omega) (by omega) (by omega) (by omega)
 have hfi1:=fun W h=>find_any (.slice a0 l.length ca) l (f:Int) W h (by omega)
 have hfi2:=fun W h=>find_any (.slice a0 l.length ca) l (J:Int) W h (by omega)
 rw[hc1] at hco1;rw[hc2] at hco2;rw[cover_one] at hco3;rw[<-hfa] at hfi1;rw[<-hfb] at hfi2;dsimp only at hco1 hco2 hco3;have HB:=hid hfb;have HS:=hid hS;have HR:=hid hR;have HJ:=hid (show J+1=G/\min (E:Int) (T:Int)=(G:Int) from⟨hJ,hG⟩);have x1:=hG;have t5:decide (fd<fb)=false:=decide_eq_false (by omega);have y1:(fa != fa)=false:=by simp
 have y2:(fb != fb)=false:=by simp
 clear hf hq hr hm hM hG hJ hfa hfb hfd hc1 hc2 hdb hS hR p1 p3 p5;have HE:=hid hEe;clear hEe;go_wp2_with fail;refine(hpo _).mono ?_;rintro e w' ⟨rfl,rfl⟩;go_wp2_with fail;refine(hpn _).mono ?_;rintro e w' ⟨rfl,rfl⟩;go_wp2_with fail;refine(hco1 _ hu3).mono ?_;rintro e w4 ⟨rfl,h4⟩;have hu4:=hu3.below h4;have h04:=bV h03 h4;clear hco1 hu3 h03 h4 hpo hpn;go_wp2_with fail;refine(hpm _).mono ?_;rintro e w' ⟨rfl,rfl⟩;go_wp2_with fail;refine(hco2 _ hu4).mono ?_;rintro e w5 ⟨rfl,h5⟩;have hu5:=hu4.below h5;have h05:=bV h04 h5;clear hco2 hu4 h04 h5 hpm;go_wp2_with fail;refine(hfi1 _ hu5).mono ?_
 rintro e w6 ⟨rfl,h6⟩;have hu6:=hu5.below h6;have h06:=bV h05 h6;clear hfi1 hu5 h05 h6;go_wp2_with fail;refine(hfi2 _ hu6).mono ?_;rintro e w7 ⟨rfl,h7⟩;have hu7:=hu6.below h7;have h07:=bV h06 h7;clear hfi2 hu6 h06 h7
 by_cases hge:T<=E
 ·have t6:decide ((E:Int)>=(T:Int))=true:=decide_eq_true (by omega);have t6':decide ((T:Int)<=(E:Int))=true:=decide_eq_true (by omega);have t6n:decide (T<=E)=true:=decide_eq_true hge;have hlast:fb=(l.length:Int)-1:=by
   obtain⟨j1,j2⟩:=HJ.out;have hS:=HS.out;rw[HB.out,show(J:Int)=sumN l-1 by omega];exact find_last HR.out (by omega)
  obtain⟨K,hK⟩:∃K,K=(l.length:Int)-1:=⟨_,rfl⟩;have m5:IntKind.i64.wrap ((l.length:Int)-1)=K:=by rw[<-hK,IntKind.wrap_i64];omega
  have m5':=hK.symm;rw[<-hK] at hlast;subst hlast;have y3:(fb==fb)=true:=by simp
  clear hK;go_wp2_with fail;go_ret;exact⟨rfl,h07⟩
 ·have t6:decide ((E:Int)>=(T:Int))=false:=decide_eq_false (by omega);have t6':decide ((T:Int)<=(E:Int))=false:=decide_eq_false (by omega);have t6n:decide (T<=E)=false:=decide_eq_false hge;have hnx:findL l (E:Int)=fb\/findL l (E:Int)=fb+1:=by
   obtain⟨j1,j2⟩:=HJ.out;have hS:=HS.out;have:=find_next HR.out (show(0:Int)<=(J:Int) by omega) (by omega);rw[show(J:Int)+1=(E:Int) by omega,<-HB.out] at this;exact this
  have hfbb: -1<=fb/\fb<=1000000:=by
   obtain⟨j1,j2⟩:=HJ.out;have hS:=HS.out;obtain⟨k,y,hk,_,_,e⟩:=find_at HR.out (show(0:Int)<=(J:Int) by omega) (by omega);have hkl:=(List.getElem?_eq_some_iff.1 hk).1;rw[HB.out,e];omega
  obtain⟨fe,hfe⟩:∃fe,fe=findL l (E:Int):=⟨_,rfl⟩;rw[<-hfe] at hnx hco3;clear hfe;obtain⟨B1,hB1⟩:∃B1,B1=fb+1:=⟨_,rfl⟩;have m5:IntKind.i64.wrap (fb+1)=B1:=by rw[<-hB1,IntKind.wrap_i64];omega
  have m5':=hB1.symm;rw[<-hB1] at hnx
  by_cases hee:fe=fb
  ·have y3:(fe==fb)=true:=beq_iff_eq.2 hee;clear hee hnx hB1;go_wp2_with fail;refine(hco3 _ hu7).mono ?_;rintro e w8 ⟨rfl,h8⟩;go_wp2_with fail;go_ret;exact⟨rfl,bV h07 h8⟩
  ·have y3:(fe==fb)=false:=beq_eq_false_iff_ne.2 hee;have y4:(fe==B1)=true:=beq_iff_eq.2 (hnx.resolve_left hee);clear hee hnx hB1;go_wp2_with fail;refine(hco3 _ hu7).mono ?_;rintro e w8 ⟨rfl,h8⟩;go_wp2_with fail;go_ret;exact⟨rfl,bV h07 h8⟩
end Go.Proofs.YtpgmbhpbgkljdaaGreatDoor
