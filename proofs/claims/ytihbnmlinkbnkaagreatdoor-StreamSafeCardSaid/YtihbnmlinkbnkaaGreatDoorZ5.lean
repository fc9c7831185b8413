/-
  Texts put together (part 5): the walks and the plain laws on which the statement stands.
-/
import Derived.Test.YtihbnmlinkbnkaaGreatDoorZ2
set_option maxRecDepth 100000
set_option maxHeartbeats 12800000
set_option linter.unusedVariables false
set_option linter.unusedSimpArgs false
open Go.Proofs.Tryz
open Go.Proofs.Tryz renaming prog->pG
open Go.IntKind renaming i64->aJ
open Go.IntWalk renaming i64_in->yM
open Nat renaming le_refl->aD,lt_or_ge->cF
namespace Go.Proofs.YtihbnmlinkbnkaaGreatDoor
open Go.RowKit
theorem aM6 (f:Nat->Int) (s m t:Nat) (h:s=m\/m=t) (d:s<=m) (A:m<=t):cW f s m t=f:=by grind [cW]
def YU (g cap n bx:Nat) (d:Int->Int->Bool) (lt:Int->Int->Prop) (N:Nat):Prop:=
 ∀(a m b:Nat) (f:Nat->Int) (w:World),b<=a+N->Dat w g cap n f->b<=n->InR n f->oS lt f a m b->tN w g n bx d->
  Calls pG 308 #[.slice (some ⟨g,0,none⟩) n cap,.int .i64 (a:Int),.int .i64 (m:Int),.int .i64 (b:Int),qQ bx] w fun e w'=>
   e=.returned (.tuple #[])/\(∃h,nZ lt f h a b/\Dat w' g cap n h)/\w.grownBy w' (some g)
theorem aM7 (g cap n a m b bx:Nat) (h1:a+1<m) (h2:m+1<b) (f:Nat->Int) (a1:Int->Int->Bool) (lt:Int->Int->Prop) (w:World) (hd:Dat w g cap n f) (hn:n<=1000000) (b5:cap<=maxLen) (d3:b<=n)
  (hf:InR n f) (hp:oS lt f a m b) (hc:tN w g n bx a1) (C:Cmp lt a1) (N:Nat) (hN:b<=a+(N+1)) (ih:YU g cap n bx a1 lt N):
  Calls pG 308 #[.slice (some ⟨g,0,none⟩) n cap,.int .i64 (a:Int),.int .i64 (m:Int),.int .i64 (b:Int),qQ bx] w fun e w'=>
   e=.returned (.tuple #[])/\(∃h,nZ lt f h a b/\Dat w' g cap n h)/\w.grownBy w' (some g):=by
 unfold maxLen at b5;unfold qQ;have a8:=hid hc;have HP:=hid hp;have IH:=hid ih;clear hc hp ih;have t0:((m:Int)-(a:Int)==1)=false:=by rw[cB];omega
 have t1:((b:Int)-(m:Int)==1)=false:=by rw[cB];omega
 have f7:m<b:=by omega
 have f8:a<m:=by omega
 have f9:m<n:=by omega
 obtain⟨A,b6⟩:∃A,A=(a+b)/2:=⟨_,rfl⟩;have e0:((a:Int)+(b:Int))/2=((A:Nat):Int):=by omega
 have q1:a<A:=by omega
 have q2:A<b:=by omega
 have q3:b<=A+A+1-a:=by omega
 obtain⟨H,b7⟩:∃H,H=A+m:=⟨_,rfl⟩;obtain⟨pv,b8⟩:∃pv,pv=H-1:=⟨_,rfl⟩;have g0:(A:Int)+(m:Int)=((H:Nat):Int):=by omega
 have g1:(H:Int)-1=((pv:Nat):Int):=by omega
 have q9:H<=2*n:=by omega
 have g2:1<=H:=by omega
 have g3:pv<=2*n:=by omega
 have g4:m<=H:=by omega
 have O:=hid b7;have b9:=hid b8;have d4:=hid b6;clear b6 b7 b8;go_enter func308,ntmps308
 go_upto_if 140 with fail
 go_cut [20,21] (fun d5 d6 J=>∃lo hi:Nat,d5=.int .i64 lo/\d6=.int .i64 hi/\((A<m/\lo+b=A+m/\hi=A)\/(m<=A/\lo=a/\hi=m))/\w=J)
 case first=>as_aux_lemma=>
  by_cases hq:A<m
  ·have I:decide (A<m)=true:=by simpa using hq
   have g5:(H:Int)-(b:Int)=(((H-b:Nat):Nat):Int):=by have:=O.out;omega
   go_wp2_with fail;go_meet;exact⟨H-b,A,rfl,rfl,.inl ⟨hq,by have:=O.out;omega,rfl⟩,rfl⟩
  ·have I:decide (A<m)=false:=by simpa using hq
   go_wp2_with fail;go_meet;exact⟨a,m,rfl,rfl,.inr ⟨by omega,rfl,rfl⟩,rfl⟩
 case rest=>
  obtain⟨lo,hi,rfl,rfl,c0,rfl⟩:=hcut;have q4:lo<=hi:=by omega
  have q5:a<=lo:=by omega
  have q6:hi<=m:=by omega
  have q7:hi<=A:=by omega
  have q8:H<=b+lo:=by have:=O.out;omega
  have g6:hi+m<=H:=by have:=O.out;omega
  have d7:=hid c0;clear c0;go_wp2_with fail
  go_loopg [20,21] (hi-lo) (fun gh i j wr=>∃p q:Nat,lo<=p/\p<=q/\q<=hi/\gh=q-p/\i=.int .i64 p/\j=.int .i64 q/\Dat wr g cap n f/\
   Hid (∀k,lo<=k->k<p->lt (f k) (f (H-1-k)))/\Hid (∀k,q<=k->k<hi->lt (f (H-1-k)) (f k))/\w.grownBy wr (some g))
  case atStart=>exact⟨lo,hi,aD _,by omega,aD _,rfl,rfl,rfl,hd,hid (fun k h1 h2=>by omega),hid (fun k h1 h2=>by omega),yX _ _⟩
  case round=>
   obtain⟨p,q,d8,g7,c3,hg,rfl,rfl,a0,HL,HH,a3⟩:=hrel;have HG:=hid hg;clear hg
   by_cases g8:p<q
   ·obtain⟨G,c4⟩:∃G,G=(p+q)/2:=⟨_,rfl⟩;have h1:p<=G:=by omega
    have h2:G<q:=by omega
    obtain⟨d,c5⟩:∃d,d=H-1-G:=⟨_,rfl⟩;have d1:m<=d:=by omega
    have d2:d<b:=by omega
    have c1:=a0.cell (k:=d) (by omega);have c2:=a0.cell (k:=G) (by omega);have b1:=hf d (by omega);have b2:=hf G (by omega);have E:=hid c4;have ED:=hid c5;have e0:((p:Int)+(q:Int))/2=((G:Nat):Int):=by omega
    have e1:(pv:Int)-(G:Int)=((d:Nat):Int):=by have:=b9.out;omega
    have g9:G<=pv:=by have:=b9.out;omega
    have e2:aJ.wrap ((d:Nat):Int)=((d:Nat):Int):=yM _ (by omega);clear c4 c5;obtain⟨x,F⟩:∃x,x=f d:=⟨_,rfl⟩;obtain⟨y,hy⟩:∃y,y=f G:=⟨_,rfl⟩;rw[<-F] at c1 b1;rw[<-hy] at c2 b2;have HX:=hid F;have HY:=hid hy;clear F hy;have s1:G<n:=by omega
    have s2:d<n:=by omega
    go_wp2_with fail
    go_cut [171] (fun d9 J=>d9=.bool (!a1 x y)/\Dat J g cap n f/\w.grownBy J (some g))
    case first=>as_aux_lemma=>
     go_still_tail 11,(by kernel_rfl)
     change wpList _ _ _ _ _ wr.drew;have e4:=a0.drew;have c6:=qP a3;generalize wr.drew=i0 at*
     go_wp2_with (go_at_call 272;refine(a8.out _ c6 x y b1.1 b1.2 b2.1 b2.2).mono ?_;rintro e w2 ⟨c,rfl,hc,hb⟩);go_meet;exact⟨rfl,e4.grown (vS (row:=none) hb) (by simp),eU c6 (vS hb)⟩
    case rest=>
     obtain⟨rfl,M,L⟩:=hcut;have c7:f G<f d:=HP.out.ne G d (by omega) (by omega) (by omega) (by omega);have c8:=hid c7;clear c7;clear c1 c2 a0 a3
     by_cases a5:a1 x y=true
     ·have U:=(C.iff _ _ c8.out).1 (by rw[<-HX.out,<-HY.out];exact a5);rw[ED.out] at U;have hl:=hid (aMv (c:=G) (hi:=hi) (n:=H) C.S HP.out (by omega) (by omega) (by omega) q6 (fun k U=>by omega) U);clear U;rw[a5];go_wp2_with fail;have hg:=HG.out
      go_roundg (G-p)
      case measure=>omega
      case rel=>exact⟨p,G,by omega,by omega,by omega,rfl,rfl,rfl,M,HL,hl,L⟩
     ·have U:¬lt (f d) (f G):=(fun h=>a5 (by rw[HX.out,HY.out];exact(C.iff _ _ c8.out).2 h));rw[ED.out] at U;have hl:=hid (aMu (c:=G) (lo:=lo) (n:=H) C.S HP.out q5 (by omega) (by omega) (by omega) (by omega) (by omega) U);clear U;have e5:a1 x y=false:=by simpa using a5
      rw[e5];go_wp2_with fail;have hg:=HG.out
      go_roundg (q-(G+1))
      case measure=>omega
      case rel=>exact⟨G+1,q,by omega,by omega,c3,rfl,by go_num,rfl,M,hl,HH,L⟩
   ·have e6:q=p:=by omega
    subst e6;obtain⟨r1,r2,r3,r4,r5,r6⟩:=aMo C.S HP.out d4.out d7.out d8 c3 (by rw[<-O.out];exact HL.out) (by rw[<-O.out];exact HH.out);have r7:q<=A:=by omega
    have R:=aMp HP.out r1 r2 r7 r4 r5 r6;obtain⟨t,a9⟩:∃t,t=A+m-q:=⟨_,rfl⟩;rw[<-a9] at R r3 r4;clear r5 r6;have e2:(H:Int)-(q:Int)=((t:Nat):Int):=by have:=O.out;omega
    have e3:aJ.wrap ((t:Nat):Int)=((t:Nat):Int):=yM _ (by omega);have r9:q<=H:=by have:=O.out;omega
    have r8:A<=t:=by omega
    have HT:=hid a9;clear a9;obtain⟨h,G⟩:∃h,h=cW f q m t:=⟨_,rfl⟩;rw[<-G] at R;obtain⟨R1,R2,R3,R4,R5,R6,R7,R8⟩:=R;have K1:=hid R1;have K2:=hid R2;have K3:=hid R3;have K4:=hid R4;have K5:=hid R5;have K6:=hid R6;have K7:=hid R7;have K8:=hid R8;have EH:=hid G;clear R1 R2 R3 R4 R5 R6 R7 R8 G HL HH;have c9:InR n h:=hf.from d3 K1.out;go_upto_region 39 with fail
    go_cut [185] (fun e7 J=>e7=.bool (decide (q<m)&&decide (m<t))/\wr=J)
    case first=>as_aux_lemma=>
     by_cases F:q<m
     ·have I:decide (q<m)=true:=by simpa using F
      go_wp2_with fail;go_meet;exact⟨by simp[F],rfl⟩
     ·have I:decide (q<m)=false:=by simpa using F
      go_wp2_with fail;go_meet;exact⟨by simp[F],rfl⟩
    case rest=>
    obtain⟨rfl,rfl⟩:=hcut
    go_upto_if 185 with fail
    go_cut [] (fun J=>Dat J g cap n h/\w.grownBy J (some g))
    case first=>as_aux_lemma=>
     by_cases F:q<m/\m<t
     ·have I:(decide (q<m)&&decide (m<t))=true:=by simpa using F
      have V:=F.1;have a6:=F.2;clear F;rw[I];go_wp2_with fail;refine(aMx g cap n _ _ _ f _ _ a0 hn b5 (by omega) (by omega) (by omega)).mono ?_;rintro e w1 ⟨rfl,M,L⟩;go_wp2;go_meet;exact⟨by rw[EH.out];exact M,eU a3 L⟩
     ·have e8:Dat wr g cap n h:=by rw[EH.out,aM6 f q m t (by omega) (by omega) (by omega)];exact a0
      have I:(decide (q<m)&&decide (m<t))=false:=by simpa using F
      clear F;rw[I];go_wp2_with fail;go_meet;exact⟨e8,a3⟩
    case rest=>
    obtain⟨M,L⟩:=hcut;clear a0 a3;clear hf;obtain⟨wa,b0⟩:∃wa:World,wa=wc:=⟨_,rfl⟩;rw[<-b0] at M L;rw[<-b0];clear b0;go_upto_region 41 with fail
    go_cut [199] (fun e9 J=>e9=.bool (decide (a<q)&&decide (q<A))/\wa=J)
    case first=>as_aux_lemma=>
     by_cases F:a<q
     ·have I:decide (a<q)=true:=by simpa using F
      go_wp2_with fail;go_meet;exact⟨by simp[F],rfl⟩
     ·have I:decide (a<q)=false:=by simpa using F
      go_wp2_with fail;go_meet;exact⟨by simp[F],rfl⟩
    case rest=>
    obtain⟨rfl,rfl⟩:=hcut
    go_upto_if 199 with fail
    go_cut [] (fun J=>(∃h1,nZ lt h h1 a A/\Dat J g cap n h1)/\w.grownBy J (some g))
    case first=>as_aux_lemma=>
     by_cases F:a<q/\q<A
     ·have I:(decide (a<q)&&decide (q<A))=true:=by simpa using F
      have V:=F.1;have a6:=F.2;clear F;rw[I];go_wp2_with fail;refine(IH.out a q A h _ (by omega) M (by omega) c9 ⟨V,a6,K2.out,K3.out,K6.out⟩ (a8.out.later L)).mono ?_;rintro e w1 ⟨rfl,a4,a2⟩;go_wp2;go_meet;exact⟨a4,eU L a2⟩
     ·have I:(decide (a<q)&&decide (q<A))=false:=by simpa using F
      have d0:nZ lt h h a A:=⟨lO.refl _ _ _,by
       rcases cF a q with V|V
       ·have:A=q:=by omega
        rw[this];exact K2.out
       ·have:a=q:=by omega
        rw[this];exact K3.out⟩
      have f0:=hid d0;clear F d0;rw[I];go_wp2_with fail;go_meet;exact⟨⟨h,f0.out,M⟩,L⟩
    case rest=>
    obtain⟨⟨f2,b3,a4⟩,a2⟩:=hcut;have Z:=hid b3;have f1:InR n f2:=c9.from (by omega) b3.frm;obtain⟨wb,b4⟩:∃wb:World,wb=wc:=⟨_,rfl⟩;rw[<-b4] at a4 a2;rw[<-b4];clear b4 b3 M L;go_upto_region 43 with fail
    go_cut [213] (fun f4 J=>f4=.bool (decide (A<t)&&decide (t<b))/\wb=J)
    case first=>as_aux_lemma=>
     by_cases F:A<t
     ·have I:decide (A<t)=true:=by simpa using F
      go_wp2_with fail;go_meet;exact⟨by simp[F],rfl⟩
     ·have I:decide (A<t)=false:=by simpa using F
      go_wp2_with fail;go_meet;exact⟨by simp[F],rfl⟩
    case rest=>
    obtain⟨rfl,rfl⟩:=hcut
    by_cases F:A<t/\t<b
    ·have I:(decide (A<t)&&decide (t<b))=true:=by simpa using F
     have V:=F.1;have a6:=F.2;clear F;rw[I];go_wp2_with fail;refine(IH.out A t b f2 _ (by omega) a4 (by omega) f1 ⟨V,a6,K4.out.congr (fun k k1 k2=>Z.out.frm.2 k (by omega)),K5.out.congr (fun k k1 k2=>Z.out.frm.2 k (by omega)),
      fun i j i1 i2 j1 j2=>by rw[Z.out.frm.2 i (by omega),Z.out.frm.2 j (by omega)];exact K7.out i j i1 i2 j1 j2⟩ (a8.out.later a2)).mono ?_
     rintro e w1 ⟨rfl,⟨f3,a7,f5⟩,f6⟩;go_wp2
     go_end0
     exact⟨rfl,⟨f3,YP K1.out (by omega) (by omega) Z.out a7 K8.out,f5⟩,eU a2 f6⟩
    ·have I:(decide (A<t)&&decide (t<b))=false:=by simpa using F
     have a7:nZ lt f2 f2 A b:=⟨lO.refl _ _ _,by
      rcases cF A t with V|V
      ·have:b=t:=by omega
       rw[this];exact K4.out.congr (fun k k1 k2=>Z.out.frm.2 k (by omega))
      ·have:A=t:=by omega
       rw[this];exact K5.out.congr (fun k k1 k2=>Z.out.frm.2 k (by omega))⟩
     have M3:=hid a7;clear F a7;rw[I];go_wp2_with fail
     go_end0
     exact⟨rfl,⟨f2,YP K1.out (by omega) (by omega) Z.out M3.out K8.out,a4⟩,a2⟩
theorem YV (g cap n bx:Nat) (A:Int->Int->Bool) (lt:Int->Int->Prop) (J:n<=1000000) (L:cap<=maxLen) (C:Cmp lt A):∀N,YU g cap n bx A lt N:=by
 intro N
 induction N with
 |zero=>intro a m b f w M F G H d I;have:=d.am;have:=d.mb;omega
 |succ N O=>
  intro a m b f w M F G H d I;have U:=d.am;have V:=d.mb
  by_cases Z:m=a+1
  ·grind [aM2,YU]
  ·by_cases e2:b=m+1
   ·grind [aM5,YU]
   ·exact aM7 g cap n a m b bx (by omega) (by omega) f A lt w F J L G H d I C N (by omega) O
end Go.Proofs.YtihbnmlinkbnkaaGreatDoor
