/-
  The walk of the statement IndexCover.
-/
import Derived.Test.YtpgmbhpbgkljdaaGreatDoorY6
import Derived.Test.YtpgmbhpbgkljdaaGreatDoorY1
set_option maxRecDepth 100000
set_option maxHeartbeats 12800000
set_option linter.unusedVariables false
set_option linter.unusedSimpArgs false
namespace Go.Proofs.YtpgmbhpbgkljdaaGreatDoor
open Go.RowKit Go Go.Shelf
theorem indexCover_any (v:Value) (raw:List Trip) (off n:Int) (w:World) (hE:iF w) (hr:RdR w v (raw.map tripC)) (hwf:WfT raw) (ho1: -9223372036854775808<=off) (ho2:off<=9223372036854775807) (hn1: -9223372036854775808<=n) (hn2:n<=9223372036854775807):
  Calls Tryz.prog 13 #[v,.int .i64 off,.int .i64 n] w fun e w'=>e=.returned (.bool true)/\Below w.heap.size w w':=by
 obtain⟨p1,p2⟩:=vU off 500 (by decide);obtain⟨p3,p4⟩:=vU n 200 (by decide);have hpo:=fun W=>pick19_any off 500 W ho1 ho2 (by decide) (by decide)
 have hpn:=fun W=>pick19_any n 200 W hn1 hn2 (by decide) (by decide)
 obtain⟨P,hP⟩:∃P,P=gA off 500:=⟨_,rfl⟩;obtain⟨m,hm⟩:∃m,m=gA n 200:=⟨_,rfl⟩;rw[<-hP] at p1 p2 hpo;rw[<-hm] at p3 p4 hpn;obtain⟨f,hf⟩:∃f,f=P-20:=⟨_,rfl⟩;have mf:IntKind.i64.wrap (P-20)=f:=by rw[<-hf,IntKind.wrap_i64];omega
 have mf':=hf.symm;have hfb: -20<=f/\f<480:=by omega
 clear hP hm hf;go_enter Tryz.func13,Tryz.ntmps13;go_wp2_with fail;refine(awake19_any _ hE).mono ?_;rintro e w1 ⟨rfl,h1⟩;have hr1:=hr.below h1;clear hr hE;go_wp2_with fail;refine(idx19_any v raw _ hr1 hwf).mono ?_;rintro e w2 ⟨u,rfl,hu,h2⟩;have h02:=bV h1 h2;clear h1 h2 hr1 hwf;have hR:=idxL_right raw;have hlen:=idxL_length raw;have hbd:=idxL_bd raw;obtain⟨l,hl⟩:∃l,l=idxL raw:=⟨_,rfl⟩;rw[<-hl] at hu hR hlen hbd;clear hl;obtain⟨a0,ca,rfl,hca,hma,hA⟩:=ent_cells hu;have hto:=fun W h=>total_any (.slice a0 l.length ca) l W h (by omega)
 have hfi:=fun W h=>find_any (.slice a0 l.length ca) l f W h (by omega)
 have hco:=fun W h=>cover_any (.slice a0 l.length ca) l f m W h (by omega) (by omega) (by omega) (by omega) (by omega)
 have hc1:=fun W h=>cover_any (.slice a0 l.length ca) l f 1 W h (by omega) (by omega) (by omega) (by omega) (by omega)
 rw[cover_one] at hc1;obtain⟨a,b,hab,hle,hbds,hna,hnb,hcov⟩:=cover_law hR f m;rw[hab] at hco;dsimp only at hco hc1;obtain⟨T,hT⟩:∃T,T=totL l:=⟨_,rfl⟩;obtain⟨fo,hfo⟩:∃fo,fo=findL l f:=⟨_,rfl⟩;obtain⟨NV,hNV⟩:∃NV:Bool,NV=decide (m<1\/totL l=0\/totL l<=f\/f+m<=0):=⟨_,rfl⟩;have ea:(a== -1)=NV:=by rw[hNV,<-decide_eq_decide.2 hna];rfl
 have eb:(b== -1)=NV:=by rw[hNV,<-decide_eq_decide.2 hnb];rfl
 rw[<-hT] at hto hbd hNV;rw[<-hfo] at hfi hc1;have HNV:=hid hNV;have HC:=hid hcov;have HX:=hid (show ∀(i:Nat) (x:Ent),l[i]? =some x->0<=x.f/\x.f<=100000/\1<=x.n/\x.n<=18720 from fun i x hx=>by
  obtain⟨e,k1,k2⟩:=right_get hR i x hx;have h1:=sumN_mono hR i (l.length-i);have h3:=sumN_mono hR 0 i;have hl:=(List.getElem?_eq_some_iff.1 hx).1;have ht:totL l=sumN l:=if_pos hR;rw[show i+(l.length-i)=l.length by omega,List.take_length] at h1;rw[List.take_zero,Nat.zero_add,sumN_nil] at h3;omega)
 have hle':decide (a<=b)=true:=decide_eq_true hle;obtain⟨W,hW⟩:∃W,W=f+m:=⟨_,rfl⟩;have mW:IntKind.i64.wrap (f+m)=W:=by rw[<-hW,IntKind.wrap_i64];omega
 have mW':=hW.symm;rw[<-hW] at HNV HC;have HW:=hid hW;unfold maxLen at hma;clear hT hfo hNV hab hna hnb hcov hW hR hle;go_wp2_with fail;refine(hto _ hu).mono ?_;rintro e w3 ⟨rfl,h3⟩;have hu3:=hu.below h3;have h03:=bV h02 h3;clear hto h02;go_wp2_with fail;refine(hpo _).mono ?_;rintro e w' ⟨rfl,rfl⟩;go_wp2_with fail;refine(hpn _).mono ?_;rintro e w' ⟨rfl,rfl⟩;clear hpo hpn mf mf' p1 p2;go_wp2_with fail;refine(hco _ hu3).mono ?_;rintro e w4 ⟨rfl,h4⟩;have hu4:=hu3.below h4;have h24:=bV h3 h4;have h04:=bV h03 h4;go_wp2_with fail;refine(hc1 _ hu4).mono ?_;rintro e w5 ⟨rfl,h5⟩;have hu5:=hu4.below h5
 have h25:=bV h24 h5;have h05:=bV h04 h5;have hs25:=h25.size;clear hco hc1 h3 h4 h5 h24 h03 h04 hu3 hu4 hu;go_wp2_with fail
 go_loopg [16,17] l.length (fun g s16 _s17 wr=>∃i:Nat,i<=l.length/\g=l.length-i/\s16=.int .i64 (i:Int)/\Below w5.heap.size w5 wr)
 case atStart=>exact⟨0,Nat.zero_le _,rfl,rfl,Below.refl _ _⟩
 case round=>
  obtain⟨i,hi,hg,rfl,hbel⟩:=hrel;have HG:=hid hg;clear hg
  by_cases hlt:i<l.length
  ·have t1:decide ((i:Int)<(l.length:Int))=true:=decide_eq_true (by omega);obtain⟨bb,o,rfl,hb,hcl⟩:=hA (by omega);obtain⟨x,hx⟩:∃x,l[i]? =some x:=⟨_,List.getElem?_eq_getElem hlt⟩;obtain⟨x0,x1,x2,x3,x4⟩:=hcl i x hx;obtain⟨k1,k2,k3,k4⟩:=HX.out i x hx;have hiff:=HC.out i x hx;have c2:=((h25.trans (hbel.mono hs25)).cell (p:=⟨bb,o+i*5+2,none⟩) hb).trans x2;have c3:=((h25.trans (hbel.mono hs25)).cell (p:=⟨bb,o+i*5+3,none⟩) hb).trans x3;obtain⟨S,hS⟩:∃S,S=x.f+x.n:=⟨_,rfl⟩;have mS:IntKind.i64.wrap (x.f+x.n)=S:=by rw[<-hS,IntKind.wrap_i64];omega
   have mS':=hS.symm;rw[<-hS] at hiff;obtain⟨HV,hHV⟩:∃HV:Bool,HV=decide (x.f<W/\f<S/\0<m):=⟨_,rfl⟩;have hHV2:HV=decide (a<=(i:Int)/\(i:Int)<=b/\0<=a):=by rw[hHV,decide_eq_decide.2 hiff]
   have H1:=hid hHV;have H2:=hid hHV2;clear hHV hHV2 hiff hS x0 x1 x2 x3 x4 hcl hA hx HC HX HNV;go_wp2_with fail
   go_cut [17] (fun c17 wx=>c17=.bool HV/\Below wr.heap.size wr wx)
   case first=>
    by_cases q1:x.f<W
    ·have u1:decide (x.f<W)=true:=decide_eq_true q1
     by_cases q2:f<S
     ·have u2:decide (S>f)=true:=decide_eq_true q2;have u2':decide (f<S)=true:=decide_eq_true q2
      by_cases q3:0<m
      ·obtain rfl:HV=true:=by rw[H1.out];exact decide_eq_true ⟨q1,q2,q3⟩
       have u3:decide (m>0)=true:=decide_eq_true q3;have u3':decide (0<m)=true:=decide_eq_true q3;clear q1 q2 q3
       go_quiet (fail)
       go_wp2_with fail;go_meet;exact⟨rfl,below_drewN (Below.refl _ _) _⟩
      ·obtain rfl:HV=false:=by rw[H1.out];exact decide_eq_false (fun h=>q3 h.2.2)
       have u3:decide (m>0)=false:=decide_eq_false q3;have u3':decide (0<m)=false:=decide_eq_false q3;clear q1 q2 q3
       go_quiet (fail)
       go_wp2_with fail;go_meet;exact⟨rfl,below_drewN (Below.refl _ _) _⟩
     ·obtain rfl:HV=false:=by rw[H1.out];exact decide_eq_false (fun h=>q2 h.2.1)
      have u2:decide (S>f)=false:=decide_eq_false q2;have u2':decide (f<S)=false:=decide_eq_false q2;clear q1 q2
      go_quiet (fail)
      go_wp2_with fail;go_meet;exact⟨rfl,below_drewN (Below.refl _ _) _⟩
    ·obtain rfl:HV=false:=by rw[H1.out];exact decide_eq_false (fun h=>q1 h.1)
     have u1:decide (x.f<W)=false:=decide_eq_false q1;clear q1
     go_quiet (fail)
     go_wp2_with fail;go_meet;exact⟨rfl,below_drewN (Below.refl _ _) _⟩
   case rest=>
   obtain⟨rfl,hbx⟩:=hcut;have hbel2:=hbel.trans (hbx.mono hbel.size);clear c2 c3 mS mS' H1 hbx hbel
   by_cases q1:a<=(i:Int)
   ·have u1:decide ((i:Int)>=a)=true:=decide_eq_true q1;have u1':decide (a<=(i:Int))=true:=decide_eq_true q1
    by_cases q2:(i:Int)<=b
    ·have u2:decide ((i:Int)<=b)=true:=decide_eq_true q2
     by_cases q3:0<=a
     ·obtain rfl:HV=true:=by rw[H2.out];exact decide_eq_true ⟨q1,q2,q3⟩
      have u3:decide (a>=0)=true:=decide_eq_true q3;have u3':decide (0<=a)=true:=decide_eq_true q3;go_wp2_with fail;have hg:=HG.out
      go_roundg (l.length-(i+1))
      case measure=>omega
      case rel=>exact⟨i+1,by omega,rfl,by go_num,hbel2⟩
     ·obtain rfl:HV=false:=by rw[H2.out];exact decide_eq_false (fun h=>q3 h.2.2)
      have u3:decide (a>=0)=false:=decide_eq_false q3;have u3':decide (0<=a)=false:=decide_eq_false q3;go_wp2_with fail;have hg:=HG.out
      go_roundg (l.length-(i+1))
      case measure=>omega
      case rel=>exact⟨i+1,by omega,rfl,by go_num,hbel2⟩
    ·obtain rfl:HV=false:=by rw[H2.out];exact decide_eq_false (fun h=>q2 h.2.1)
     have u2:decide ((i:Int)<=b)=false:=decide_eq_false q2;go_wp2_with fail;have hg:=HG.out
     go_roundg (l.length-(i+1))
     case measure=>omega
     case rel=>exact⟨i+1,by omega,rfl,by go_num,hbel2⟩
   ·obtain rfl:HV=false:=by rw[H2.out];exact decide_eq_false (fun h=>q1 h.1)
    have u1:decide ((i:Int)>=a)=false:=decide_eq_false q1;have u1':decide (a<=(i:Int))=false:=decide_eq_false q1;go_wp2_with fail;have hg:=HG.out
    go_roundg (l.length-(i+1))
    case measure=>omega
    case rel=>exact⟨i+1,by omega,rfl,by go_num,hbel2⟩
  ·have t1:decide ((i:Int)<(l.length:Int))=false:=decide_eq_false (by omega);have hur:=hu5.below hbel;have h0r:=h05.trans (hbel.mono h05.size);have hff:(fo==fo)=true:=by simp
   clear HG HC HX hA hu5 h05 h25 hbel;go_wp2_with fail;refine(hfi _ hur).mono ?_;rintro e w6 ⟨rfl,h6⟩;have h06:=bV h0r h6;clear hfi hur h0r h6;go_upto_region 15 with fail
   go_cut [19] (fun c19 wx=>c19=.bool NV/\wx=w6)
   case first=>
    by_cases q1:m<1
    ·obtain rfl:NV=true:=by rw[HNV.out];exact decide_eq_true (.inl q1)
     have u1:decide (m<1)=true:=decide_eq_true q1;clear q1;go_wp2_with fail;go_meet;exact⟨rfl,rfl⟩
    have u1:decide (m<1)=false:=decide_eq_false q1
    by_cases q2:T=0
    ·obtain rfl:NV=true:=by rw[HNV.out];exact decide_eq_true (.inr (.inl q2))
     have u2:(T==0)=true:=beq_iff_eq.2 q2;clear q1 q2;go_wp2_with fail;go_meet;exact⟨rfl,rfl⟩
    have u2:(T==0)=false:=beq_eq_false_iff_ne.2 q2
    by_cases q3:T<=f
    ·obtain rfl:NV=true:=by rw[HNV.out];exact decide_eq_true (.inr (.inr (.inl q3)))
     have u3:decide (f>=T)=true:=decide_eq_true q3;have u3':decide (T<=f)=true:=decide_eq_true q3;clear q1 q2 q3;go_wp2_with fail;go_meet;exact⟨rfl,rfl⟩
    have u3:decide (f>=T)=false:=decide_eq_false q3;have u3':decide (T<=f)=false:=decide_eq_false q3
    by_cases q4:W<=0
    ·obtain rfl:NV=true:=by rw[HNV.out];exact decide_eq_true (.inr (.inr (.inr q4)))
     have u4:decide (W<=0)=true:=decide_eq_true q4;clear q1 q2 q3 q4;go_wp2_with fail;go_meet;exact⟨rfl,rfl⟩
    ·obtain rfl:NV=false:=by rw[HNV.out];exact decide_eq_false (by omega)
     have u4:decide (W<=0)=false:=decide_eq_false q4;clear q1 q2 q3 q4;go_wp2_with fail;go_meet;exact⟨rfl,rfl⟩
   case rest=>
   obtain⟨rfl,rfl⟩:=hcut;clear HNV HW mW mW' hbds hfb;go_wp2_with fail;go_ret;exact⟨rfl,h06⟩
end Go.Proofs.YtpgmbhpbgkljdaaGreatDoor
