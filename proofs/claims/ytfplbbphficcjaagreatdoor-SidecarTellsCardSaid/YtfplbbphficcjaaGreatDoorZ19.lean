/-
  Texts put together (part 19): the walks and the plain laws on which the statement stands.
-/
import Derived.BigRegion
import Derived.Test.YtfplbbphficcjaaGreatDoorZ13
import Derived.Test.YtfplbbphficcjaaGreatDoorZ17
set_option maxRecDepth 100000
set_option maxHeartbeats 12800000
set_option linter.unusedVariables false
set_option linter.unusedSimpArgs false
open Go.Proofs.Tryz
open Go.Proofs.Tryz renaming prog->pG
open Go.Calls renaming quiet_of_same->AY
open Go.IntKind renaming i64->aJ,wrap_i64->aM
open Go.RowKit.Below renaming refl->aH
open Go.Value renaming int->bQ
open Go.World renaming size_alloc->fP
open List renaming append_assoc->bU,getElem?_eq_getElem->aN,length_append->aL,length_map->aS,length_replicate->AT,length_take->aQ,map_append->dY,mem_of_getElem?->cN,replicate->aX,take_add_one->cG,take_of_length_le->cD
open Nat renaming le_refl->aD,min_eq_left->jF,zero_le->aO
namespace Go.Proofs.YtfplbbphficcjaaGreatDoor
open Go.RowKit Go Go.Shelf
def fA (c:Int):UInt8:=UInt8.ofNat c.toNat
theorem TD (l:List Int):fJ l=dL (cT 2) (l.map fA):=rfl
theorem MA {l:List Int} (h:∀x∈l,x=0\/x=1):∀b∈l.map fA,b∈cT 2:=by grind [fA,cT]
theorem zT (l:List Int):(fJ l).length=l.length:=by simp[TD,vQ,fJ]
theorem FI {l:List Int} (h:∀x∈l,x=0\/x=1):∀x∈fJ l,0<=x/\x<2:=fun x d=>BH _ _ (MA h) x (by grind [TD,fJ])
theorem aXh {l:List Int} {k:Nat} {x:Int} (h:l[k]? =some x):eW (l.take (k+1))=eW (l.take k)++(aX x.toNat true++[false]):=by
 rw[cG,h];exact RJ _ _
theorem CH:∀(l:List Int) (B:Nat),(∀x∈l,0<=x/\x<(B:Int))->(eW l).length<=B*l.length
 |[],B,_=>by simp[eW]
 |x::l,B,h=>by
  have A:=CH l B (fun y d=>h y (List.mem_cons_of_mem _ d));have D:=h x (List.mem_cons_self ..);have e:eW (x::l)=(aX x.toNat true++[false])++eW l:=rfl;rw[e,aL,aL,AT];simp only[List.length_cons,List.length_nil,Nat.mul_add,Nat.mul_one];omega
theorem aXi (v:Value) (l:List Int) (w:World) (hr:RdI w v l) (hl:l.length<=20000) (d:∀x∈l,x=0\/x=1):
  Calls pG 63 #[v,.int .i64 2] w fun e w'=>e=.returned (.tuple #[fT (eW (fJ l)),.int .i64 0])/\Below w.heap.size w w':=by
 have HX:=hid d;have a1:=hid (FI d);have b2:=hid (MA d);have b3:=hid (zT l);clear d;have a2:=Arr.new w 83 [.string ⟨#[]⟩,.int .i64 0];have f3:(w.alloc (.cells #[.string ⟨#[]⟩,.int .i64 0] 83)).heap.size=w.heap.size+1:=by simp
 have a3:Below w.heap.size w (w.alloc (.cells #[.string ⟨#[]⟩,.int .i64 0] 83)):=bD (aH _ _) _;change Arr (w.alloc (.cells #[.string ⟨#[]⟩,.int .i64 0] 83)) _ _ _ at a2;have b4:=hr.below a3;obtain⟨a,ca,rfl,f4,c9,hA⟩:=b4.open;unfold maxLen at c9;clear hr b4;go_enter func63,ntmps63;go_wp2_with fail;generalize w.alloc (.cells #[.string ⟨#[]⟩,.int .i64 0] 83)=w0 at*
 go_loopg [6,7] l.length (fun g s6 s7 wr=>∃(k:Nat) (O:Value),k<=l.length/\g=l.length-k/\O=s6/\s7=.int .i64 (k:Int)/\OwB wr (w.heap.size+1) O ((l.take k).map fA)/\Below (w.heap.size+1) w0 wr)
 case atStart=>exact⟨0,_,aO _,rfl,rfl,rfl,Ow.nil _ _ _,aH _ _⟩
 case round=>
  obtain⟨k,O,hk,H,rfl,rfl,A,L⟩:=hrel;have HG:=hid H;clear H;have f5:=L.size;have b5:((l.take k).map fA).length=k:=by rw[aS,aQ];omega
  by_cases d2:k<l.length
  ·have u1:decide ((k:Int)<(l.length:Int))=true:=aG (by omega);obtain⟨b1,o1,rfl,f6,b6⟩:=hA (by omega);obtain⟨x,d⟩:=eG d2;have c1:=(L.cell (p:=⟨b1,o1+k,none⟩) (by show b1<w.heap.size+1;omega)).trans (b6 k x d);have b7:=HX.out x (cN d);have HT:=hid (show(l.take (k+1)).map fA=(l.take k).map fA++[fA x] by rw[cG,d,dY];rfl);have e1:((fA x).toNat:Int)=x:=by rcases b7 with rfl|rfl<;>rfl
   have v1:decide (x<0)=false:=aE (by omega);have v2:decide (x>=2)=false:=aE (by omega);have v3:decide (2<=x)=false:=aE (by omega);have m1:IntKind.u8.wrap x=x:=by rw[IntKind.wrap_u8];omega
   have m2:x%256=x:=by omega
   have e2:=hid e1;clear b6 hA d b7 e1;go_wp2_with (at_builtin;refine FB rfl _ _ rfl (w.heap.size+1) _ _ rfl (Ow.alloc A _) wr.heap.size (fA x) rfl ?_ ?_ ?_ ?_;(rw[e2.out];exact bX _ _ _);(omega);(simp;omega);intro v' w3 T J r3);have H:=HG.out
   go_roundg (l.length-(k+1))
   case measure=>omega
   case rel=>exact⟨k+1,_,by omega,rfl,rfl,by go_num,by rw[HT.out];exact T,(L.alloc (by omega) _).trans J⟩
  ·have u1:decide ((k:Int)<(l.length:Int))=false:=aE (by omega);have d3:k=l.length:=by omega
   subst d3;rw[cD (aD _)] at A b5;obtain⟨D,hD⟩:∃D,D=l.map fA:=⟨_,rfl⟩;rw[<-hD] at A b5 b2;have HD:=hid hD;clear hD hA;have d4:(convert 61 9 O).run pG wr=.ok (.string (mkS D)) wr:=mP A.rd;have d5:(convert 61 9 O).run pG wr.drew=.ok (.string (mkS D)) wr.drew:=mP (w:=wr.drew) (OwB.rd (w:=wr.drew) A);have b9:∀W,Calls pG 83 #[.int .i64 2] W fun e w'=>e=.returned (.string (mkS (cT 2)))/\w'=W:=fun W=>aEu 2 W (by decide) (by decide)
   have a4:=fun W=>aAw (mkS (cT 2)) (mkS D) W (by simp[cT]) (by rw[cS];omega) (by decide) b2.out
   have d6:=hid (show dL (mkS (cT 2)).data.toList (mkS D).data.toList=fJ l by rw[dP,dP,HD.out];rfl);rw[d6.out] at a4;go_upto_region 10 with fail
   go_cut [8,9] (fun c8 _c9 M=>∃U,U=c8/\OwI M wr.heap.size U (fJ l)/\Below wr.heap.size wr M)
   case first=>
    go_region_with (first|(go_at_call 83;refine(b9 _).mono ?_;rintro e w3 ⟨rfl,rfl⟩)|(go_at_call 76;refine(a4 _).mono ?_;rintro e w3 ⟨U,rfl,V,I⟩))
    all_goals
     go_wp2_with fail;go_meet;exact⟨U,rfl,V,(aH wr.heap.size wr).drew.trans I⟩
   case rest=>
    obtain⟨U,rfl,V,I⟩:=hcut;have c0:=(a2.below L (by omega)).below I (by omega);have c2:Below w.heap.size w wc:=(a3.trans (L.mono (by omega))).trans (I.mono (by omega));have d7:=I.size;obtain⟨P,hP⟩:∃P,P=fJ l:=⟨_,rfl⟩;rw[<-hP] at a1 b3 V;have HP:=hid hP;have f7:P.length<=20000:=by have:=b3.out;omega
    obtain⟨a8,c8,rfl,f8,d8,a0⟩:=(OwI.rd V).open;unfold maxLen at d8;obtain⟨F,d9⟩:∃F,F=wc.heap.size:=⟨_,rfl⟩;rw[<-d9] at d7 a0;clear hP L I A a2 a3 d4 d5 b9 a4 V;go_wp2_with fail
    go_loopg [10,11,12] P.length (fun g a5 e0 _s12 M=>∃i:Nat,i<=P.length/\g=P.length-i/\e0=.int .i64 (i:Int)/\OwI M F a5 (bI (eW (P.take i)))/\Below F wc M/\F<=M.heap.size)
    case atStart=>exact⟨0,aO _,rfl,rfl,by simp only[List.take_zero];exact OwI.nil _ _,aH _ _,by omega⟩
    case round=>
     obtain⟨i,hi,H,rfl,A,Y,c3⟩:=hrel;have e3:=hid H;clear H HG;have c4:=CH (P.take i) 2 (fun x d=>a1.out x (List.mem_of_mem_take d));rw[aQ,jF hi] at c4;obtain⟨G,a6⟩:∃G,G=eW (P.take i):=⟨_,rfl⟩;rw[<-a6] at A c4;have c5:=hid a6;clear a6
     by_cases e4:i<P.length
     ·have u2:decide ((i:Int)<(P.length:Int))=true:=aG (by omega);obtain⟨b8,o8,rfl,I,a7⟩:=a0 (by omega);obtain⟨x,d⟩:=eG e4;have c1:=(Y.cell (p:=⟨b8,o8+i,none⟩) I).trans (a7 i x d);have e5:=a1.out x (cN d);have HT:=hid (show eW (P.take (i+1))=G++(aX x.toNat true++[false]) by rw[c5.out];exact aXh d);obtain⟨X,rfl⟩:∃X:Nat,x=(X:Int):=⟨x.toNat,by omega⟩;rw[Int.toNat_natCast] at HT;have f9:X<2:=by omega
      have e6:=hid (fun wz (h:Below F wc wz)=>(h.cell (p:=⟨b8,o8+i,none⟩) I).trans (a7 i _ d));clear a7 a0 d e5;go_wp2_with fail
      go_loopg [10,12] X (fun g a5 e7 wy=>∃c:Nat,c<=X/\g=X-c/\e7=.int .i64 (c:Int)/\OwI wy F a5 (bI (G++aX c true))/\Below F wc wy/\F<=wy.heap.size)
      case atStart=>exact⟨0,aO _,rfl,rfl,by simpa using A,Y,c3⟩
      case round=>
       clear A c1 Y c3;obtain⟨c,g0,H,rfl,A,a9,g1⟩:=hrel;have e8:=hid H;clear H;have c1:=e6.out _ a9;have g2:(bI (G++aX c true)).length<=50000:=by rw[cX,aL,AT];omega
       by_cases g3:c<X
       ·have u3:decide ((c:Int)<(X:Int))=true:=aG (by omega);go_wp2_with (at_builtin;refine gK rfl _ _ rfl F _ _ rfl (OwI.alloc A _) _ 1 rfl (bX _ _ _) ?_ ?_ ?_;(omega);(simp;omega);intro v3 w3 T J r3);have g4:=e8.out
        go_roundg (X-(c+1))
        case measure=>omega
        case rel=>
         refine⟨c+1,by omega,rfl,by go_num,?_,(a9.alloc (by omega) _).trans J,?_⟩
         ·rw[List.replicate_succ',<-bU,iT];exact T
         ·have:=J.size;simp only[fP] at this;omega
       ·have u3:decide ((c:Int)<(X:Int))=false:=aE (by omega);obtain rfl:c=X:=by omega
        go_wp2_with (at_builtin;refine gK rfl _ _ rfl F _ _ rfl (OwI.alloc A _) _ 0 rfl (bX _ _ _) ?_ ?_ ?_;(omega);(simp;omega);intro v3 w3 T J r3);have g5:=e3.out
        go_roundg (P.length-(i+1))
        case measure=>omega
        case rel=>
         refine⟨i+1,by omega,rfl,by go_num,?_,(a9.alloc (by omega) _).trans J,?_⟩
         ·rw[HT.out,<-bU,iT];exact T
         ·have:=J.size;simp only[fP] at this;omega
     ·have u2:decide ((i:Int)<(P.length:Int))=false:=aE (by omega);have e9:i=P.length:=by omega
      subst e9;have HF:=hid (show G=eW (fJ l) by rw[c5.out,List.take_length,HP.out]);have c6:=c0.below Y (by omega);have c7:Below w.heap.size w wr:=c2.trans (Y.mono (by omega));clear c0 c2 a0;go_wp2_with fail;refine(CF _ G _ (OwI.rd A) (by omega)).mono ?_;rintro e w6 ⟨rfl,b0⟩;have Z:=c6.below b0 (by omega);have f2:Below w.heap.size w w6:=c7.trans (b0.mono (by omega));have d0:=Z.cell (i:=0) rfl;have d1:=Z.cell (i:=1) rfl;have f0:=Z.free 0;have f1:=Z.free 1;clear b0 A c6 c7;go_wp2_with fail
      have z0:Arr ((w6.setCell ⟨w.heap.size,0,none⟩ (.string (mkS (aI G)))).setCell ⟨w.heap.size,1,none⟩ (.int .i64 (G.length:Int))) w.heap.size 83 [.string (mkS (aI G)),.int .i64 (G.length:Int)]:=(Z.set 0 _).set 1 _;refine bodyPost_ret (uS rfl _ _ w.heap.size _ _ (0,0) _ rfl z0 underlying83 rfl rQ) rfl ?_;exact⟨by rw[<-HF.out];rfl,(f2.setCell (p:=⟨w.heap.size,0,none⟩) (aD _) _).setCell (p:=⟨w.heap.size,1,none⟩) (aD _) _⟩
theorem aXj (b:UInt8):wrap64 (b.toNat:Int)=(b.toNat:Int):=by
 have:=b.toNat_lt
 grind [LR]
theorem aXk (b:UInt8):aJ.wrap (b.toNat:Int)=(b.toNat:Int):=by
 have:=b.toNat_lt
 grind [SX]
theorem aE7 {s:List UInt8} {t a:Int} {k:Nat} (h:(dR s t a k).2.2=0):dR s t a (k+1)=
  if(kN s t (dR s t a k).2.1 0).2.2≠0 then((dR s t a k).1,(dR s t a k).2.1,(kN s t (dR s t a k).2.1 0).2.2)
  else((dR s t a k).1++[(kN s t (dR s t a k).2.1 0).1],(kN s t (dR s t a k).2.1 0).2.1,0):=by grind [dR,kN]
theorem aE8 {s:List UInt8} {t a:Int} {k:Nat} (h:(dR s t a k).2.2≠0):∀j,(dR s t a (k+j)).2.2=(dR s t a k).2.2
 |0=>rfl
 |j+1=>by
  have d:=aE8 h j
  grind [dR]
theorem MB (s:List UInt8) (a n t:Nat) (d:2<=t) (e:t<=6) (h:n<=1048576):eD s (a:Int) (n:Int) (t:Int)=
  if(dR s (t:Int) (a:Int) n).2.2≠0 then([],0,(dR s (t:Int) (a:Int) n).2.2) else((unL (cT t) (dR s (t:Int) (a:Int) n).1).map (fun b=>(b.toNat:Int)),(dR s (t:Int) (a:Int) n).2.1,0):=by grind [eD,dR,unL,cT]
theorem aE9 {s:List UInt8} {a n t k:Nat} (d:2<=t) (e:t<=6) (A:n<=1048576) (D:k<=n) (h:(dR s (t:Int) (a:Int) k).2.2≠0):eD s (a:Int) (n:Int) (t:Int)=([],0,(dR s (t:Int) (a:Int) k).2.2):=by
 have:=aE8 h (n-k)
 grind [MB,dR,eD]
def FJ (w w':World) (s:List UInt8) (a n t:Nat) (e:Ending):Prop:=
 ∃v,e=.returned (.tuple #[v,.int .i64 (eD s (a:Int) (n:Int) (t:Int)).2.1,.int .i64 (eD s (a:Int) (n:Int) (t:Int)).2.2])/\OwI w' w.heap.size v (eD s (a:Int) (n:Int) (t:Int)).1/\Below w.heap.size w w'
theorem TE {w w':World} {s:List UInt8} {a n t:Nat} {E:Int} (h:eD s (a:Int) (n:Int) (t:Int)=([],0,E)) (d:Below w.heap.size w w'):FJ w w' s a n t (.returned (.tuple #[.slice none 0 0,.int .i64 0,.int .i64 E])):=by grind [OwI.nil,eD,FJ]
theorem aXl (s:ByteArray) (a n t:Nat) (w:World) (hs:s.size<=1000000) (ha:a<=80000000) (hn:n<=40000) (O:2<=t) (V:t<=6):
  Calls pG 110 #[.string s,.int .i64 (a:Int),.int .i64 (n:Int),.int .i64 (t:Int)] w fun e w'=>FJ w w' s.data.toList a n t e:=by
 have HL:=hid (show s.data.toList.length=s.size by simp);have t1:decide ((t:Int)<2)=false:=aE (by omega);have t2:decide ((t:Int)>6)=false:=aE (by omega);have t3:decide (6<(t:Int))=false:=aE (by omega);have t4:decide ((a:Int)<0)=false:=aE (by omega);have t5:decide ((n:Int)<0)=false:=aE (by omega);have t6:decide ((n:Int)>1048576)=false:=aE (by omega);have t7:decide (1048576<(n:Int))=false:=aE (by omega);have b1:=hid (fun k hk=>aE9 (s:=s.data.toList) (a:=a) (n:=n) (k:=k) O V (by omega) hk);have b2:=hid (MB s.data.toList a n t O V (by omega))
 have b3:=hid (fun k=>BV s.data.toList (t:Int) (a:Int) (by omega) (by omega) k);go_enter func110,ntmps110;go_wp2_with fail
 go_loopg [11,12,13,14,15,16] n (fun g b4 b5 b6 _s14 _s15 _s16 wr=>∃(k p:Nat) (v:Value),k<=n/\g=n-k/\v=b4/\b6=.int .i64 (k:Int)/\b5=.int .i64 (p:Int)/\Hid ((dR s.data.toList (t:Int) (a:Int) k).2.2=0/\(dR s.data.toList (t:Int) (a:Int) k).2.1=(p:Int))/\OwI wr w.heap.size v (dR s.data.toList (t:Int) (a:Int) k).1/\Below w.heap.size w wr)
 case atStart=>exact⟨0,a,_,aO _,rfl,rfl,rfl,rfl,hid ⟨rfl,rfl⟩,OwI.nil _ _,aH _ _⟩
 case round=>
  obtain⟨k,p,v,hk,I,rfl,rfl,rfl,F,D,J⟩:=hrel;have HG:=hid I;clear I;have b7:=J.size;obtain⟨o1,o2,o3,o4⟩:=b3.out k F.out.1;rw[F.out.2] at o3;rw[F.out.2,HL.out] at o4;have c5:p<=80000000:=by omega
  have O2:=hid o2;clear o2
  by_cases c6:k<n
  ·have v1:decide ((k:Int)<(n:Int))=true:=aG (by omega);have d:=aE7 F.out.1;rw[F.out.2] at d;have A:=fun W=>aWy s p t W hs (by omega) O V
   have G:=KY s.data.toList (t:Int) (8*s.data.toList.length+2) (p:Int) 0 (by omega) (by omega) (by omega);rw[HL.out] at G;rw[show lY s.data.toList (t:Int) (8*s.size+2) (p:Int) 0=kN s.data.toList (t:Int) (p:Int) 0 by unfold kN;rw[HL.out]] at G;obtain⟨q1,Y,Z,hq⟩:∃q1 Y Z,kN s.data.toList (t:Int) (p:Int) 0=(q1,Y,Z):=⟨_,_,_,rfl⟩;rw[hq] at d A G;simp only at d A G;clear hq
   by_cases a0:Z=0
   ·subst a0;rw[aA (fun k=>k rfl)] at d;obtain⟨a1,a2,a3,a4⟩:=G rfl;obtain⟨pp,rfl⟩:∃pp:Nat,Y=(pp:Int):=⟨Y.toNat,by omega⟩;have HS:=hid d;clear d G;go_wp2_with fail;refine(A _).mono ?_;rintro e w3 ⟨rfl,rfl⟩;go_wp2_with (at_builtin;refine gK rfl _ _ rfl w.heap.size _ _ rfl (OwI.alloc D _) _ q1 rfl (bX _ _ _) ?_ ?_ ?_;(omega);(simp;omega);intro v4 M r1 r2 r3);have I:=HG.out
    go_roundg (n-(k+1))
    case measure=>omega
    case rel=>exact⟨k+1,pp,_,by omega,rfl,rfl,by go_num,rfl,hid ⟨by rw[HS.out],by rw[HS.out]⟩,by rw[HS.out];exact r1,(J.alloc b7 _).trans r2⟩
   ·rw[aB a0] at d;have v2:(Z != 0)=true:=by simpa using a0
    have H:=hid (b1.out (k+1) (by omega) (by rw[d];exact a0));rw[d] at H;clear d G;go_wp2_with fail;refine(A _).mono ?_;rintro e w3 ⟨rfl,rfl⟩;go_wp2_with fail
    go_ret3
    exact TE H.out J
  ·have v1:decide ((k:Int)<(n:Int))=false:=aE (by omega);have b8:k=n:=by omega
   subst b8;have a5:=b2.out;rw[aA (fun q=>q F.out.1),F.out.2] at a5;have H:=hid a5;obtain⟨L,hL⟩:∃L,L=(dR s.data.toList (t:Int) (a:Int) k).1:=⟨_,rfl⟩;rw[<-hL] at H O2 o1 D;have hU:=sL L (cT t);obtain⟨U,a6⟩:∃U,U=unL (cT t) L:=⟨_,rfl⟩;rw[<-a6] at H hU;have A:=fun W (h:RdI W v L)=>aAx (mkS (cT t)) v L W (by rw[cS,sT];omega) (by omega) (by
    rw[dP];obtain rfl|rfl|rfl|rfl|rfl:t=2\/t=3\/t=4\/t=5\/t=6:=by omega
    all_goals decide) h (by rw[cS,sT];exact O2.out)
   rw[dP,<-a6] at A;obtain⟨T,hT⟩:∃T,T=mkS U:=⟨_,rfl⟩;have c7:T.size=k:=by rw[hT,cS,hU,o1]
   have a8:T.data.toList=U:=by rw[hT];rfl
   rw[<-hT] at A;have b9:=hid a8;clear hL a6 a5 hT a8;go_wp2_with fail;refine(aEu t _ O V).mono ?_;rintro e w3 ⟨rfl,rfl⟩;go_wp2_with fail;refine(A _ (OwI.rd D)).mono ?_;rintro e M ⟨rfl,a9⟩;have c8:=a9.size;have b0:=aW J a9;clear D A J;go_wp2_with fail
   go_loopg [19,20] k (fun g c0 c1 wx=>∃(i:Nat) (v:Value),i<=k/\g=k-i/\v=c0/\c1=.int .i64 (i:Int)/\OwI wx M.heap.size v ((U.take i).map (fun b=>(b.toNat:Int)))/\Below M.heap.size M wx)
   case atStart=>exact⟨0,_,aO _,rfl,rfl,rfl,OwI.nil _ _,aH _ _⟩
   case round=>
    obtain⟨i,v9,hi,I,rfl,rfl,D,a7⟩:=hrel;have c2:=hid I;clear I HG;have c3:=a7.size;have c9:((U.take i).map (fun b=>(b.toNat:Int))).length=i:=by rw[aS,aQ];omega
    by_cases d0:i<k
    ·have u2:decide ((i:Int)<(T.size:Int))=true:=aG (by omega);have u3:i<T.size:=by omega
     have e1:=fW T i u3;have HT:=hid (show(U.take (i+1)).map (fun b=>(b.toNat:Int))=(U.take i).map (fun b=>(b.toNat:Int))++[(T[i].toNat:Int)] by
      rw[cG,<-b9.out,e1,dY];rfl)
     have m1:=aXj T[i];have m2:=aXk T[i];go_wp2_with (at_builtin;refine gK rfl _ _ rfl M.heap.size _ _ rfl (OwI.alloc D _) _ (T[i].toNat:Int) rfl (bX _ _ _) ?_ ?_ ?_;(omega);(simp;omega);intro v5 w5 r1 r2 r3);have d1:=c2.out
     go_roundg (k-(i+1))
     case measure=>omega
     case rel=>exact⟨i+1,_,by omega,rfl,rfl,by go_num,by rw[HT.out];exact r1,(a7.alloc c3 _).trans r2⟩
    ·have u2:decide ((i:Int)<(T.size:Int))=false:=aE (by omega);have c4:i=k:=by omega
     subst c4;rw[cD (by omega)] at D;go_wp2_with fail
     go_ret3
     exact⟨_,by rw[H.out];rfl,by rw[H.out];exact Ow.base D (by have:=b0.size;omega),aW b0 a7⟩
def lT (X:List Int) (n:Int):List Value:=X.map (bQ .i64)++[.int .i64 n]
def MC (X:List Int) (i:Nat):List Int:=(X.drop i).take 1++X.take i++X.drop (i+1)
def CI:List Value->Nat->List Value->List Value
 |l,_,[]=>l
 |l,o,v::r=>CI (l.set o v) (o+1) r
theorem Arr.setCells {b:Nat} {e:TypeId}:∀(d:List Value) (o:Nat) (w:World) (l:List Value),Arr w b e l->Arr (w.setCells b o d) b e (CI l o d)
 |[],_,_,_,h=>h
 |v::d,o,w,l,h=>Arr.setCells d (o+1) (w.setCell ⟨b,o,none⟩ v) (l.set o v) (h.set o v)
theorem aFa:∀(d:List Value) (o:Nat) (l:List Value),(CI l o d).length=l.length
 |[],_,_=>rfl
 |v::d,o,l=>by simp[CI,aFa]
theorem aFb (b:Nat):∀(d:List Value) (o:Nat) (w:World),w.grownBy (w.setCells b o d) (some b)
 |[],_,_=>⟨rfl,rfl,rfl,aD _,fun _ _ _=>rfl⟩
 |v::d,o,w=>eU (gD w b o v) (aFb b d (o+1) (w.setCell ⟨b,o,none⟩ v))
theorem aXm (X:List Int) (d:X.length=6) (n:Int) (i:Nat) (e:i<6):(CI (lT X n) 1 ((X.take i).map (bQ .i64))).set 0 (.int .i64 (X.getD i 0))=lT (MC X i) n:=by
 match X,d with
 |[h,A,D,F,G,H],_=>
  obtain rfl|rfl|rfl|rfl|rfl|rfl:i=0\/i=1\/i=2\/i=3\/i=4\/i=5:=by omega
  all_goals rfl
theorem MD {X:List Int} {n:Int} {j:Nat} (h:j<X.length):(lT X n)[j]? =some (.int .i64 (X.getD j 0)):=by grind [lT]
theorem aXn:(pG.info? 3).map (·.size)=some 1:=by kernel_rfl
theorem aXo (b o j:Nat):(⟨b,o,none⟩:Addr).add j=⟨b,o+j,none⟩:=by unfold Addr.add;split<;>simp_all
theorem aFc (b:Nat) (X:List Int) (n:Int) (i:Nat) (H:X.length=6) (Z:i<6) (W:World) (I:Arr W b 249 (lT X n)):
  Calls pG 167 #[.pointer (some ⟨b,0,none⟩),.int .i64 (i:Int)] W fun e w'=>
   e=.returned (.int .i64 (X.getD i 0))/\Arr w' b 249 (lT (MC X i) n)/\W.grownBy w' (some b):=by
 have M:=I.cell (MD (n:=n) (show i<X.length by omega));have J:=hid (aXm X H n i Z);have d:Arr W.drew b 249 (lT X n):=I;have h:((X.take i).map (bQ .i64)).length=i:=by rw[aS,aQ];omega
 have L:=run_copy_cells (P:=pG) W.drew 55 55 3 3 b 1 5 5 ⟨b,0,none⟩ i 6 ((X.take i).map (bQ .i64)) underlying55 aXn (by rw[h];exact(jF (by omega)).symm)
  (fun j v A=>by
   rw[aXo,Nat.zero_add];have D:=(List.getElem?_eq_some_iff.1 A).1;rw[h] at D;rw[List.getElem?_map,List.getElem?_take_of_lt D,aN (show j<X.length by omega)] at A;rw[d.cell (MD (n:=n) (show j<X.length by omega)),List.getD_eq_getElem?_getD,aN (show j<X.length by omega)];exact A)
  (fun j D=>by
   rw[h] at D;have hl:(lT X n).length=7:=by unfold lT;rw[aL,aS,H];rfl
   rw[d.cell (aN (show 1+j<(lT X n).length by omega))];rfl)
  (fun j _=>d.free (1+j)) (fun v A=>by obtain⟨y,_,rfl⟩:=List.mem_map.1 A;rfl)
 rw[h] at L;have t1:(0:Int)<=(i:Int):=by omega
 have t2:(i:Int)<=6:=by omega
 have t3:(i:Int)<6:=by omega
 have F:=d.setCells ((X.take i).map (bQ .i64)) 1;have O:W.grownBy (W.drew.setCells b 1 ((X.take i).map (bQ .i64))) (some b):=eU (show W.grownBy W.drew (some b) from⟨rfl,rfl,rfl,aD _,fun _ _ _=>rfl⟩) (aFb b _ 1 W.drew);obtain⟨G,T⟩:∃G,G=(X.take i).map (bQ .i64):=⟨_,rfl⟩;rw[<-T] at L F O J;obtain⟨x,U⟩:∃x,x=X.getD i 0:=⟨_,rfl⟩;rw[<-U] at M J ⊢;clear h T U d I;go_enter func167,ntmps167;go_wp2_with fail
 go_region
 generalize W.drew.setCells b 1 G=W2 at*
 obtain⟨V,Y⟩:∃V,(CI (lT X n) 1 G)[0]? =some V:=⟨_,aN (by rw[aFa];unfold lT;rw[aL,aS,H];simp)⟩;have d0:=F.cell Y;have f0:=F.free 0;clear Y L M;go_wp2_with fail;go_ret;refine⟨rfl,?_,eU O (gD _ _ _ _)⟩;have:=F.set 0 (.int .i64 x);rw[J.out] at this;exact this
theorem aFd (t:Nat) (w:World) (d:2<=t) (h:t<=6):Calls pG 165 #[.int .i64 (t:Int)] w fun e w'=>e=.returned (.bool true)/\w'=w:=by
 have A:decide ((t:Int)>=2)=true:=aG (by omega);have D:decide (2<=(t:Int))=true:=aG (by omega);have F:decide ((t:Int)<=6)=true:=aG (by omega);go_enter func165,ntmps165;go_wp2_with fail;go_ret;exact⟨rfl,rfl⟩
def aFe:List Int:=[0,1,2,3,4,5]
def ofI (k:Nat):List Int:=(List.range 6).map (fun j=>if j<k then(j:Int) else 0)
theorem aXp (k:Nat) (n:Int) (h:k<6):(lT (ofI k) n).set k (.int .i64 (k:Int))=lT (ofI (k+1)) n:=by
 obtain rfl|rfl|rfl|rfl|rfl|rfl:k=0\/k=1\/k=2\/k=3\/k=4\/k=5:=by omega
 all_goals rfl
theorem aXq (k:Nat):(ofI k).length=6:=by simp[ofI]
theorem aFf (n:Int) (w:World):Calls pG 166 #[.int .i64 n] w fun e w'=>e=.returned (.pointer (some ⟨w.heap.size,0,none⟩))/\Arr w' w.heap.size 249 (lT aFe n)/\Below w.heap.size w w'/\w.heap.size<w'.heap.size:=by
 go_enter func166,ntmps166;go_wp2_with fail;have h:=Arr.new w 249 (lT (ofI 0) n);have A:=bD (aH w.heap.size w) (.cells (lT (ofI 0) n).toArray 249);have D:w.heap.size<(w.alloc (.cells (lT (ofI 0) n).toArray 249)).heap.size:=by simp
 change Arr (w.alloc (.cells #[.int .i64 0,.int .i64 0,.int .i64 0,.int .i64 0,.int .i64 0,.int .i64 0,.int .i64 n] 249)) _ _ _ at h;change Below w.heap.size w (w.alloc (.cells #[.int .i64 0,.int .i64 0,.int .i64 0,.int .i64 0,.int .i64 0,.int .i64 0,.int .i64 n] 249)) at A;change w.heap.size<(w.alloc (.cells #[.int .i64 0,.int .i64 0,.int .i64 0,.int .i64 0,.int .i64 0,.int .i64 0,.int .i64 n] 249)).heap.size at D;generalize w.alloc (.cells #[.int .i64 0,.int .i64 0,.int .i64 0,.int .i64 0,.int .i64 0,.int .i64 0,.int .i64 n] 249)=M at*
 go_loopg [4,8] 6 (fun g _s4 I wr=>∃k:Nat,k<=6/\g=6-k/\I=.int .i64 (k:Int)/\Arr wr w.heap.size 249 (lT (ofI k) n)/\Below w.heap.size w wr/\w.heap.size<wr.heap.size)
 case atStart=>exact⟨0,aO _,rfl,rfl,h,A,D⟩
 case round=>
  clear h A D;obtain⟨k,O,F,rfl,h,A,D⟩:=hrel;have J:=hid F;clear F
  by_cases G:k<6
  ·have L:decide ((k:Int)<6)=true:=aG (by omega);have T:(k:Int)<6:=by omega
   have d:=h.cell (MD (n:=n) (show k<(ofI k).length by rw[aXq];exact G));have f:=h.free k;have H:=h.set k (.int .i64 (k:Int));rw[aXp k n G] at H;go_wp2_with fail;have F:=J.out
   go_roundg (6-(k+1))
   case measure=>omega
   case rel=>exact⟨k+1,by omega,rfl,by go_num,H,A.setCell (p:=⟨w.heap.size,k,none⟩) (aD _) _,by rw[World.size_setCell];exact D⟩
  ·have L:decide ((k:Int)<6)=false:=aE (by omega);obtain rfl:k=6:=by omega
   go_wp2_with fail;go_ret;exact⟨rfl,h,A,D⟩
def MJ (E:Int):List PanicEntry:=[{v:=.iface 251 (.agg #[.int .i64 E]),recovered:=false}]
def DRd (w:World) (b:Nat) (s:ByteArray) (a:Nat):Prop:=Arr w b 254 [.string s,.int .i64 (a:Int)]
theorem TO (b:Nat) (s:ByteArray) (a k:Nat) (W:World) (h:DRd W b s a) (M:s.size<=1000000) (O:k<=40) (U:a<=100000000):
  Calls pG 171 #[.pointer (some ⟨b,0,none⟩),.int .i64 (k:Int)] W fun e w'=>
   (aP s.size (a:Int) k=0/\e=.returned (.int .i64 (aK s.data.toList (a:Int) k:Int))/\DRd w' b s (a+k)/\W.grownBy w' (some b))\/(aP s.size (a:Int) k≠0/\e=.panicked (MJ (aP s.size (a:Int) k))/\W.grownBy w' (some b)):=by
 have G:=fun W=>uQ s (a:Int) k W M (by omega) (by omega) (by omega)
 have L:=jV s.data.toList (a:Int) k;have T:aK s.data.toList (a:Int) k<1099511627776:=Nat.lt_of_lt_of_le L (Nat.le_trans (Nat.pow_le_pow_right (by decide) O) (by decide));obtain⟨E,A⟩:∃E,E=aP s.size (a:Int) k:=⟨_,rfl⟩;obtain⟨V,D⟩:∃V,V=aK s.data.toList (a:Int) k:=⟨_,rfl⟩;rw[<-A,<-D];rw[<-A,<-D] at G;rw[<-D] at T;have Y:=hid A;clear A D L;have Z:=Arr.cell h (i:=0) rfl;have c1:=Arr.cell h (i:=1) rfl;have f1:=Arr.free h 1;have m1:aJ.wrap (V:Int)=(V:Int):=by rw[aM];omega
 have m2:aJ.wrap ((a:Int)+(k:Int))=(a:Int)+(k:Int):=by rw[aM];omega
 go_enter func171,ntmps171
 by_cases H:E=0
 ·subst H;go_wp2_with fail
  go_quiet (first|(go_at_call 119;exact AY (G _)))
  generalize d:W.drewN nq=F at*
  have I:DRd F b s a:=by rw[<-d];exact h
  have J:W.grownBy F (some b):=by rw[<-d];exact⟨rfl,rfl,rfl,aD _,fun _ _ _=>rfl⟩
  have d1:=Arr.cell I (i:=1) rfl;have g1:=Arr.free I 1;clear d;go_wp2_with fail;go_ret;exact⟨rfl,by have:=Arr.set I 1 (.int .i64 ((a:Int)+(k:Int)));unfold DRd;push_cast;exact this,gbT J (gbS _ _ _ _)⟩
 ·have u1:(E != 0)=true:=by simpa using H
  go_wp2_with fail
  go_quiet (first|(go_at_call 119;exact AY (G _)))
  generalize d:W.drewN nq=F at*
  have J:W.grownBy F (some b):=by rw[<-d];exact⟨rfl,rfl,rfl,aD _,fun _ _ _=>rfl⟩
  clear d;go_wp2_with fail;exact⟨rfl,.inr ⟨H,rfl,J⟩⟩
theorem TP (b:Nat) (n:Int) (W:World):Calls pG 170 #[.pointer (some ⟨b,0,none⟩),.int .i64 n] W fun e w'=>
  ((1<=n/\n<=20)/\e=.returned (.int .i64 n)/\w'=W)\/(¬(1<=n/\n<=20)/\e=.panicked (MJ 3)/\w'=W):=by
 have A:=aF8 n
 by_cases h:1<=n/\n<=20
 ·have d:(decide (1<=n)&&decide (n<=20))=true:=by simp[h.1,h.2]
  rw[d] at A;have D:=hid h;clear h d;go_enter func170,ntmps170;go_wp2_with fail;refine(A _).mono ?_;rintro e w' ⟨rfl,rfl⟩;go_wp2_with fail;go_ret;exact .inl ⟨D.out,rfl,rfl⟩
 ·have d:(decide (1<=n)&&decide (n<=20))=false:=by
   rw[Bool.and_eq_false_iff];rcases Classical.em (1<=n) with q|q
   ·exact .inr (aE (fun k=>h ⟨q,k⟩))
   ·exact .inl (aE q)
  rw[d] at A;have D:=hid h;clear h d;go_enter func170,ntmps170;go_wp2_with fail;refine(A _).mono ?_;rintro e w' ⟨rfl,rfl⟩;go_wp2_with fail;exact⟨rfl,.inr ⟨D.out,rfl,rfl⟩⟩
theorem aY0 (b:Nat) (s:ByteArray) (a:Nat) (n:Int) (W:World) (hA:DRd W b s a) (hs:s.size<=1000000) (ha:a<=90000010) (a9:1<=n) (b0:n<=20):
  Calls pG 172 #[.pointer (some ⟨b,0,none⟩),.int .i64 n] W fun e w'=>
   ((fS s.data.toList (a:Int) n).2.2=0/\e=.returned (.int .i64 (fS s.data.toList (a:Int) n).1)/\(∃p:Nat,(fS s.data.toList (a:Int) n).2.1=(p:Int)/\DRd w' b s p)/\W.grownBy w' (some b))\/((fS s.data.toList (a:Int) n).2.2≠0/\e=.panicked (MJ (fS s.data.toList (a:Int) n).2.2)/\W.grownBy w' (some b)):=by
 have HL:=hid (show s.data.toList.length=s.size by simp);obtain⟨R,hR⟩:∃R,R=fS s.data.toList (a:Int) n:=⟨_,rfl⟩;rw[<-hR];have HR:=hid hR.symm;clear hR;have b3:∀(args:Array Value) (w:World),(callFunc 171 args).run pG w=.ok (.enter 171 args) w:=enters_of func171 (by kernel_rfl) rfl;go_enter func172,ntmps172;go_wp2_with fail
 go_loopg [1] (8*s.size+2-a) (fun g s1 wr=>∃(p:Nat) (m:Int),p<=90000012/\1<=m/\m<=20/\g=8*s.size+2-p/\s1=.int .i64 m/\Hid (fS s.data.toList (p:Int) m=R)/\DRd wr b s p/\W.grownBy wr (some b))
 case atStart=>exact⟨a,n,by omega,a9,b0,rfl,rfl,HR,hA,⟨rfl,rfl,rfl,aD _,fun _ _ _=>rfl⟩⟩
 case round=>
  obtain⟨p,m,hp,b4,b5,I,rfl,HP,b1,J⟩:=hrel;have HG:=hid I;clear I;have A:=BU s.data.toList (p:Int) m (by omega);rw[HP.out,HL.out] at A;have L:=TO b s p 1 wr b1 hs (by decide) (by omega);have a1:=iG (n:=s.size) (at':=(p:Int)) (k:=1);have a2:=iG (n:=s.size) (at':=((p:Int)+1)) (k:=1);have a3:=jV s.data.toList (p:Int) 1;have a4:=jV s.data.toList ((p:Int)+1) 1;have M:=fun W1 (h:DRd W1 b s (p+1))=>TO b s (p+1) 1 W1 h hs (by decide) (by omega)
  push_cast at M;obtain⟨E1,O⟩:∃E1,E1=aP s.size (p:Int) 1:=⟨_,rfl⟩;obtain⟨D,T⟩:∃D,D=aK s.data.toList (p:Int) 1:=⟨_,rfl⟩;obtain⟨E2,U⟩:∃E2,E2=aP s.size ((p:Int)+1) 1:=⟨_,rfl⟩;obtain⟨F,V⟩:∃F,F=aK s.data.toList ((p:Int)+1) 1:=⟨_,rfl⟩;rw[<-O,<-T,<-U,<-V] at A;rw[<-O,<-T] at L;rw[<-O] at a1;rw[<-U] at a2;rw[<-T] at a3;rw[<-V] at a4;simp only[<-U,<-V] at M;have a3:D<2:=a3;have a4:F<2:=a4;have b2:=hid M;clear O T U V M;go_wp2_with fail;refine L.mono ?_;rintro e w1 (⟨Y,rfl,a7,G⟩|⟨Y,rfl,G⟩)
  ·subst Y;rw[aA (fun k=>k rfl)] at A;have a1:=a1 rfl
   by_cases h2:D=0
   ·subst h2;rw[aB rfl] at A;have d:=hid A;clear A;go_wp2_with fail;go_ret;exact .inl ⟨by rw[d.out],by rw[d.out];rfl,⟨p+1,by rw[d.out];push_cast;rfl,a7⟩,gbT J G⟩
   ·obtain rfl:D=1:=by omega
    rw[aA h2] at A;clear h2;have b6:aJ.wrap (m+1)=m+1:=by rw[aM];omega
    go_wp2_with fail;refine(b2.out w1 a7).mono ?_;rintro e w2 (⟨Z,rfl,a8,a5⟩|⟨Z,rfl,a5⟩)
    ·subst Z;rw[aA (fun k=>k rfl)] at A;have a2:=a2 rfl;have a0:=gbT (gbT J G) a5
     by_cases h4:F=0
     ·subst h4;rw[aB rfl] at A;have H:=hid A;have a6:=TP b (m+1);clear A L;go_wp2_with fail;refine(a6 _).mono ?_;rintro e w3 (⟨h5,rfl,rfl⟩|⟨h5,rfl,rfl⟩)
      ·have d:=hid (show fS s.data.toList ((p:Int)+2) (m+1)=R by rw[H.out,aA (by omega)]);go_wp2_with fail;have I:=HG.out
       go_roundg (8*s.size+2-(p+2))
       case measure=>omega
       case rel=>exact⟨p+2,m+1,by omega,by omega,by omega,rfl,rfl,by have:=d;push_cast;exact this,a8,a0⟩
      ·have d:=hid (show R=(0,0,3) by rw[H.out,aB (by omega)]);exact⟨rfl,.inr ⟨by rw[d.out];exact(by decide:(3:Int)≠0),by rw[d.out],a0⟩⟩
     ·obtain rfl:F=1:=by omega
      rw[aA h4] at A;have H:=hid A;have a6:=TP b (m-1);have b7:aJ.wrap (m+1-2)=m-1:=by rw[aM];omega
      have b8:m+1-2=m-1:=by omega
      have b9:aJ.wrap (m-1)=m-1:=by rw[aM];omega
      clear A L h4;go_wp2_with fail;refine(a6 _).mono ?_;rintro e w3 (⟨h5,rfl,rfl⟩|⟨h5,rfl,rfl⟩)
      ·have d:=hid (show fS s.data.toList ((p:Int)+2) (m-1)=R by rw[H.out,aA (by omega)]);go_wp2_with fail;have I:=HG.out
       go_roundg (8*s.size+2-(p+2))
       case measure=>omega
       case rel=>exact⟨p+2,m-1,by omega,by omega,by omega,rfl,rfl,by have:=d;push_cast;exact this,a8,a0⟩
      ·have d:=hid (show R=(0,0,3) by rw[H.out,aB (by omega)]);exact⟨rfl,.inr ⟨by rw[d.out];exact(by decide:(3:Int)≠0),by rw[d.out],a0⟩⟩
    ·rw[aB Z] at A;have d:=hid A;exact⟨rfl,.inr ⟨by rw[d.out];exact Z,by rw[d.out],gbT (gbT J G) a5⟩⟩
  ·rw[aB Y] at A;have d:=hid A;exact⟨rfl,.inr ⟨by rw[d.out];exact Y,by rw[d.out],gbT J G⟩⟩
end Go.Proofs.YtfplbbphficcjaaGreatDoor
