/-
  Texts put together (part 9): the walks and the plain laws on which the statement stands.
-/
import Derived.Shelf.Abstract
import Derived.Sort.OwnSortedInts
import Derived.Test.YtihbnmlinkbnkaaGreatDoorZ3
import Derived.Test.YtihbnmlinkbnkaaGreatDoorZ5
import Derived.Test.YtihbnmlinkbnkaaGreatDoorZ6
set_option maxRecDepth 100000
set_option maxHeartbeats 12800000
set_option linter.unusedVariables false
set_option linter.unusedSimpArgs false
open Go.Proofs.Tryz
open Go.Proofs.Tryz renaming prog->pG
open Classical renaming propDecidable->OF
open Go.RowKit.Below renaming refl->aH
open Go.Value renaming int->bQ
open Go.World renaming block_lt_of_cell?->gV,cell?_alloc_at->NR
open Int renaming le_refl->lV
open List renaming ext_getElem?->lH,getElem?_eq_getElem->aN,length_map->aS,length_take->aQ,replicate->aX,take_of_length_le->cD
open List.Pairwise renaming imp_of_mem->aLc
open Nat renaming dvd_add->NV,dvd_refl->NW,le_refl->aD,lt_or_ge->cF,min_eq_left->jF,min_eq_right->aLf,zero_le->aO
open Option.some renaming inj->cC
namespace Go.Proofs.YtihbnmlinkbnkaaGreatDoor
section
open Go.RowKit
structure pK (lt:Int->Int->Prop) (f g:Nat->Int) (a b:Nat):Prop where
 frm:∀k,a<=k->k<b->∃k',a<=k'/\k'<b/\g k=f k'
 srt:jM lt g a b
theorem pK.congr {lt:Int->Int->Prop} {f g h:Nat->Int} {a b:Nat} (p:pK lt f g a b) (e:∀k,a<=k->k<b->h k=g k):pK lt f h a b:=
 ⟨fun k d A=>by rw[e k d A];exact p.frm k d A,p.srt.congr e⟩
theorem pK.empty {lt:Int->Int->Prop} {f g:Nat->Int} {a b:Nat} (h:b<=a):pK lt f g a b:=
 ⟨fun k d A=>by omega,jM.tiny _ _ _ (by omega)⟩
theorem DT {d a A:Nat} (h:d ∣ a) (G:d ∣ A) (I:A<a+d):A<=a:=by
 rcases cF a A with F|F
 ·have H:d ∣ A-a:=Nat.dvd_sub G h;have J:A-a=0:=Nat.eq_zero_of_dvd_of_lt H (by omega);omega
 ·exact F
def oT (lt:Int->Int->Prop) (f g:Nat->Int) (d lo hi n:Nat):Prop:=∀a,d ∣ a->lo<=a->a<hi->pK lt f g a (min (a+d) n)
theorem YW {lt:Int->Int->Prop} {f g h:Nat->Int} {a b:Nat} (d:nZ lt g h a b) (F:∀k,a<=k->g k=f k):pK lt f h a b:=
 ⟨fun k G H=>by obtain⟨A,p,q,r⟩:=d.frm.1 k G H;exact⟨A,p,q,by rw[r,F A p]⟩,d.srt⟩
theorem YX {lt:Int->Int->Prop} {f g:Nat->Int} {a m b n:Nat} (F:BI f 0 n) (a0:b<=n) (G:a<m) (H:m<b) (d:pK lt f g a m) (A:pK lt f g m b):oS lt g a m b:=
 ⟨G,H,d.srt,A.srt,fun i j I J L M=>by
  obtain⟨O,p1,p2,U⟩:=d.frm i I J;obtain⟨V,r1,r2,Z⟩:=A.frm j L M;rw[U,Z];exact F O V (by omega) (by omega) (by omega)⟩
theorem YY {lt:Int->Int->Prop} {f g h:Nat->Int} {a m b:Nat} (a0:a<=m) (a1:m<=b) (L:pK lt f g a m) (M:pK lt f g m b) (G:nZ lt g h a b):pK lt f h a b:=
 ⟨fun k O U=>by
  obtain⟨d,V,Z,H⟩:=G.frm.1 k O U;rcases cF d m with A|A
  ·obtain⟨q,I,J,F⟩:=L.frm d V A;exact⟨q,I,by omega,by rw[H,F]⟩
  ·obtain⟨q,I,J,F⟩:=M.frm d A Z;exact⟨q,by omega,J,by rw[H,F]⟩,G.srt⟩
theorem vT {d p:Nat} (h:2*d ∣ p):d ∣ p:=Nat.dvd_trans (Nat.dvd_mul_left d 2) h
theorem aM8 {lt:Int->Int->Prop} {f h:Nat->Int} {d p n:Nat} (G:BI f 0 n) (H:0<d) (A:2*d ∣ p) (I:p+2*d<=n) (F:oT lt f h d p n n):oS lt h p (p+d) (p+2*d):=by
 have J:=F p (vT A) (aD _) (by omega);have L:=F (p+d) (NV (vT A) (NW _)) (by omega) (by omega)
 grind [YX,BI,oT]
theorem aM9 {lt:Int->Int->Prop} {f h:Nat->Int} {d p n:Nat} (G:BI f 0 n) (H:0<d) (A:2*d ∣ p) (I:p+d<n) (J:n<p+2*d) (F:oT lt f h d p n n):oS lt h p (p+d) n:=by
 have L:=F p (vT A) (aD _) (by omega);have M:=F (p+d) (NV (vT A) (NW _)) (by omega) (by omega)
 grind [YX,BI,oT]
theorem aNa {lt:Int->Int->Prop} {f h F:Nat->Int} {d p n:Nat} (hd:0<d) (G:2*d ∣ p) (U:p+2*d<=n) (V:oT lt f h (2*d) 0 p n) (H:oT lt f h d p n n) (I:nZ lt h F p (p+2*d)):
  oT lt f F (2*d) 0 (p+2*d) n/\oT lt f F d (p+2*d) n n:=by
 have L:=H p (vT G) (aD _) (by omega);have M:=H (p+d) (NV (vT G) (NW _)) (by omega) (by omega);rw[show min (p+d) n=p+d by omega] at L;rw[show min (p+d+d) n=p+2*d by omega] at M;refine⟨fun a A _ J=>?_,fun a A a2 J=>?_⟩
 ·rcases cF a p with O|O
  ·refine(V a A (aO _) O).congr (fun k Z q2=>I.frm.2 k ?_)
   grind [cF,DT,oT]
  ·have:a=p:=by have:=DT G A J;omega
   subst this;rw[jF U];exact YY (by omega) (by omega) L M I
 ·exact(H a A (by omega) J).congr (fun k Z q2=>I.frm.2 k (by omega))
theorem aNb {lt:Int->Int->Prop} {f h F:Nat->Int} {d p n:Nat} (U:0<d) (A:2*d ∣ p) (V:p+d<n) (Z:n<p+2*d) (O:oT lt f h (2*d) 0 p n) (G:oT lt f h d p n n) (H:nZ lt h F p n):
  oT lt f F (2*d) 0 n n:=by
 have I:=G p (vT A) (aD _) (by omega);have J:=G (p+d) (NV (vT A) (NW _)) (by omega) (by omega);rw[show min (p+d) n=p+d by omega] at I;rw[show min (p+d+d) n=n by omega] at J;intro a L _ a3;rcases cF a p with M|M
 ·refine(O a L (aO _) M).congr (fun k q1 q2=>H.frm.2 k ?_);have:a+2*d<=p:=by grind [DT,oT]
  omega
 ·have:a=p:=by have:=DT A L (by omega);omega
  subst this;rw[aLf (by omega)];exact YY (by omega) (by omega) I J H
theorem aNc {lt:Int->Int->Prop} {f h:Nat->Int} {d p n:Nat} (A:0<d) (F:2*d ∣ p) (G:n<=p+d) (H:oT lt f h (2*d) 0 p n) (I:oT lt f h d p n n):oT lt f h (2*d) 0 n n:=by grind [DT,vT,oT]
theorem aNd (g cap n bx:Nat) (f:Nat->Int) (a0:Int->Int->Bool) (lt:Int->Int->Prop) (w:World) (hd:Dat w g cap n f) (hn:n<=1000000) (a7:cap<=maxLen)
  (hf:InR n f) (hr:BI f 0 n) (hc:tN w g n bx a0) (C:Cmp lt a0):
  Calls pG 296 #[.slice (some ⟨g,0,none⟩) n cap,.int .i64 (n:Int),qQ bx] w fun e w'=>
   e=.returned (.tuple #[])/\(∃h,pK lt f h 0 n/\Dat w' g cap n h)/\w.grownBy w' (some g):=by
 have a8:=a7;unfold maxLen at a7;unfold qQ;have a2:=hid a8;have a4:=hid hc;have HR:=hid hr;have HF:=hid hf;clear hc hr a8 hf;go_enter func296,ntmps296;go_wp2
 go_loopg [7,8] n (fun gh i j wr=>∃(p:Nat) (h:Nat->Int),p<=n/\gh=n-p/\i=.int .i64 p/\j=.int .i64 ((p+20:Nat):Int)/\Dat wr g cap n h/\
   Hid (20 ∣ p/\oT lt f h 20 0 p n/\(∀k,p<=k->h k=f k)/\InR n h)/\w.grownBy wr (some g))
 case atStart=>exact⟨0,f,aO _,rfl,rfl,rfl,hd,hid ⟨Nat.dvd_zero _,fun a h1 L h3=>by omega,fun k _=>rfl,HF.out⟩,yX _ _⟩
 case round=>
  obtain⟨p,h,hp,I,rfl,rfl,J,A,F⟩:=hrel;have HG:=hid I;clear I
  by_cases G:p+20<=n
  ·have t1:decide (((p+20:Nat):Int)<=(n:Int))=true:=by simp;omega
   have t2:decide (p+20<=n)=true:=by simpa using G
   go_wp2_with fail;refine(YT g cap n p (p+20) bx h a0 lt _ J hn a2.out (by omega) G A.out.2.2.2 (fun i j i1 i2 i3=>by rw[A.out.2.2.1 i i1,A.out.2.2.1 j (by omega)];exact HR.out i j (by omega) i2 (by omega)) (a4.out.later F) C).mono ?_;rintro e w1 ⟨rfl,⟨L,H,V⟩,Z⟩;have M:=hid H;clear H;go_wp2;have I:=HG.out
   go_roundg (n-(p+20))
   case measure=>omega
   case rel=>
    obtain⟨k1,U,O,k4⟩:=A.out;refine⟨p+20,L,G,rfl,by go_num,by go_num,V,hid ⟨by omega,fun a a1 _ a3=>?_,fun k hk=>?_,k4.from G M.out.frm⟩,eU F Z⟩
    ·rcases cF a p with ha|ha
     ·exact(U a a1 (aO _) ha).congr (fun k q1 q2=>M.out.frm.2 k (by omega))
     ·have:a=p:=by omega
      subst this;rw[jF G];exact YW M.out O
    ·rw[M.out.frm.2 k (by omega)];exact O k (by omega)
  ·have t1:decide (((p+20:Nat):Int)<=(n:Int))=false:=by simp;omega
   have t2:decide (p+20<=n)=false:=by simpa using G
   go_wp2_with fail;refine(YT g cap n p n bx h a0 lt _ J hn a2.out (by omega) (aD _) A.out.2.2.2 (fun i j i1 i2 i3=>by rw[A.out.2.2.1 i i1,A.out.2.2.1 j (by omega)];exact HR.out i j (by omega) i2 (by omega)) (a4.out.later F) C).mono ?_;rintro e w1 ⟨rfl,⟨L,H,V⟩,Z⟩;have hb:oT lt f L 20 0 n n:=by
    obtain⟨k1,U,O,k4⟩:=A.out;intro a a1 _ a3;rcases cF a p with ha|ha
    ·exact(U a a1 (aO _) ha).congr (fun k q1 q2=>H.frm.2 k (by omega))
    ·have:a=p:=by omega
     subst this;rw[aLf (by omega)];exact YW H O
   have HB:=hid hb;have a9:InR n L:=A.out.2.2.2.from (aD _) H.frm;have b3:=hid a9;have b0:=eU F Z;clear hb H A J F a9 Z;go_wp2_with fail
   go_loopg [6,7,8,9] (n-20) (fun gh s6 s7 s8 s9 wr=>∃(d:Nat) (h:Nat->Int),20<=d/\d<=2*n+20/\gh=n-d/\s6=.int .i64 d/\Dat wr g cap n h/\Hid (oT lt f h d 0 n n/\InR n h)/\w.grownBy wr (some g))
   case atStart=>exact⟨20,L,aD _,by omega,rfl,rfl,V,hid ⟨HB.out,b3.out⟩,b0⟩
   case round=>
    obtain⟨d,h,b5,b6,I,rfl,J,A,F⟩:=hrel;have b1:=hid I;clear I V b0
    by_cases b2:d<n
    ·have t3:decide (d<n)=true:=by simpa using b2
     obtain⟨wo,rfl⟩:∃wo:World,wo=wr:=⟨_,rfl⟩;go_wp2_with fail
     go_loopg [7,8] n (fun gh s7 s8 wr=>∃(p:Nat) (h:Nat->Int),p<=n/\gh=n-p/\s7=.int .i64 p/\s8=.int .i64 ((p+2*d:Nat):Int)/\Dat wr g cap n h/\
       Hid (2*d ∣ p/\oT lt f h (2*d) 0 p n/\oT lt f h d p n n/\InR n h)/\w.grownBy wr (some g))
     case atStart=>exact⟨0,h,aO _,rfl,rfl,by go_num,J,hid ⟨Nat.dvd_zero _,fun a _ _ h3=>by omega,A.out.1,A.out.2⟩,F⟩
     case round=>
      clear J A F;obtain⟨p,h,hp,I,rfl,rfl,J,A,F⟩:=hrel;have b4:=hid I;clear I
      by_cases G:p+2*d<=n
      ·have t1:decide (((p+2*d:Nat):Int)<=(n:Int))=true:=by simp;omega
       have t2:decide (p+2*d<=n)=true:=by simpa using G
       have a6:=hid (aM8 HR.out (by omega) A.out.1 G A.out.2.2.1);go_wp2_with fail;refine(YV g cap n bx a0 lt hn a2.out C n p (p+d) (p+2*d) h _ (by omega) J G A.out.2.2.2 a6.out (a4.out.later F)).mono ?_;rintro e w1 ⟨rfl,⟨L,H,V⟩,Z⟩;have M:=hid H;clear H;go_wp2_with fail;have I:=b4.out
       go_roundg (n-(p+2*d))
       case measure=>omega
       case rel=>
        obtain⟨k1,U,O,k4⟩:=A.out;obtain⟨m1,m2⟩:=aNa (by omega) k1 G U O M.out;exact⟨p+2*d,L,G,rfl,by go_num,by go_num,V,hid ⟨NV k1 (NW _),m1,m2,k4.from G M.out.frm⟩,eU F Z⟩
      ·have t1:decide (((p+2*d:Nat):Int)<=(n:Int))=false:=by simp;omega
       have t2:decide (p+2*d<=n)=false:=by simpa using G
       by_cases a5:p+d<n
       ·have t4:decide (p+d<n)=true:=by simpa using a5
        have a6:=hid (aM9 HR.out (by omega) A.out.1 a5 (by omega) A.out.2.2.1);go_wp2_with fail;refine(YV g cap n bx a0 lt hn a2.out C n p (p+d) n h _ (by omega) J (aD _) A.out.2.2.2 a6.out (a4.out.later F)).mono ?_;rintro e w1 ⟨rfl,⟨L,H,V⟩,Z⟩;have M:=hid H;clear H;go_wp2_with fail;have I:=b1.out
        go_roundg (n-2*d)
        case measure=>omega
        case rel=>
         obtain⟨k1,U,O,k4⟩:=A.out;exact⟨2*d,L,by omega,by omega,rfl,by go_num,V,hid ⟨aNb (by omega) k1 a5 (by omega) U O M.out,k4.from (aD _) M.out.frm⟩,eU F Z⟩
       ·have t4:decide (p+d<n)=false:=by simpa using a5
        go_wp2_with fail;have I:=b1.out
        go_roundg (n-2*d)
        case measure=>omega
        case rel=>
         obtain⟨k1,U,O,k4⟩:=A.out;exact⟨2*d,h,by omega,by omega,rfl,by go_num,J,hid ⟨aNc (by omega) k1 (by omega) U O,k4⟩,F⟩
    ·have t3:decide (d<n)=false:=by simpa using b2
     have hb:pK lt f h 0 n:=by
      rcases Nat.eq_zero_or_pos n with h0|h0
      ·exact pK.empty (by omega)
      ·have:=A.out.1 0 (Nat.dvd_zero _) (aO _) h0;rwa[show min (0+d) n=n by omega] at this
     have HB:=hid hb;clear hb;go_wp2_with fail
     go_end0
     exact⟨rfl,⟨h,HB.out,J⟩,F⟩
theorem aNe (g cap n bx:Nat) (f:Nat->Int) (d:Int->Int->Bool) (lt:Int->Int->Prop) (w:World) (J:Dat w g cap n f) (L:n<=1000000) (F:cap<=maxLen)
  (G:InR n f) (H:BI f 0 n) (I:tN w g n bx d) (C:Cmp lt d):
  Calls pG 271 #[.slice (some ⟨g,0,none⟩) n cap,qQ bx] w fun e w'=>
   e=.returned (.tuple #[])/\(∃h,pK lt f h 0 n/\Dat w' g cap n h)/\w.grownBy w' (some g):=by
 have A:=aNd g cap n bx f d lt w J L F G H I C;unfold maxLen at F;unfold qQ at A ⊢;have M:=hid A;clear A I H G;go_enter func271,ntmps271;go_wp2_with fail;refine M.out.mono ?_;rintro e w1 ⟨rfl,O,U⟩;go_wp2
 go_end0
 exact⟨rfl,O,U⟩
def tO (s:ByteArray) (b n M:Nat):Value:=.agg #[.string s,.slice (some ⟨b,0,none⟩) n n,.int .i64 (M:Int)]
theorem kY {B:Nat} {a b:World} (h:Below B a b) (n:Nat):Below B a (b.drewN n):=⟨h.os,h.tape,h.output,h.size,h.block⟩
def orI (p q:Int):Int:=if p=0 then q else p
theorem aNy {p q:Int} (h:p≠0):orI p q=p:=aA h
theorem ZL {p q:Int} (h:p=0):orI p q=q:=aB h
theorem aNz (s:ByteArray) (b n M k:Nat) (r:Nat->Int) (w:World) (A:s.size=n) (I:n<=1000000) (J:M<=4000000) (L:k<n) (F:Arr w b 3 (tab n r)):
  Calls pG 275 #[tO s b n M,.int .i64 (k:Int)] w fun e w'=>e=.returned (.int .i64 (r ((k+M)%n)))/\Below w.heap.size w w':=by
 unfold tO;subst A;have G:0<s.size:=by omega
 obtain⟨j,d⟩:∃j,j=(k+M)%s.size:=⟨_,rfl⟩;have H:j<s.size:=by rw[d];exact Nat.mod_lt _ G
 have O:((k:Int)+(M:Int)).tmod (s.size:Int)=(j:Int):=by
  rw[d,Int.tmod_eq_emod_of_nonneg (by omega),Int.natCast_emod,Int.natCast_add]
 have U:=(F.alloc (.cells #[.string s,.slice (some ⟨b,0,none⟩) s.size s.size,.int .i64 (M:Int)] 298)).cell (lM s.size r j H);have V:((s.size:Int)==0)=false:=by rw[cB];omega
 rw[<-d];have Z:=hid d;clear d;go_enter func275,ntmps275;go_wp2
 go_quiet (fail)
 go_wp2;go_ret;refine⟨rfl,?_⟩;exact kY (Below.alloc (aH _ _) (aD _) _) _
theorem aN0 (v:Value) (p q:Int) (w:World) (I:RdI w v [p,q]):
  Calls pG 273 #[v] w fun e w'=>e=.returned (.int .i64 (orI p q))/\w=w':=by
 obtain⟨a,cap,rfl,V,h2,J⟩:=I.open;obtain⟨b,off,rfl,L,G⟩:=J (by simp);have Z:=G 0 p rfl;have c1:=G 1 q rfl;rw[Nat.add_zero] at Z;clear G J I;simp only[List.length_cons,List.length_nil,Nat.zero_add,Nat.reduceAdd] at V ⊢;have HQ:=hid L;clear L;go_enter func273,ntmps273;go_wp2
 go_loopg [8,5] 2 (fun gh s8 s5 wr=>∃k:Nat,k<=2/\gh=2-k/\s8=.int .i64 k/\(1<=k->p=0)/\(2<=k->q=0)/\w=wr)
 case atStart=>exact⟨0,by omega,rfl,rfl,fun h=>by omega,fun h=>by omega,rfl⟩
 case round=>
  obtain⟨k,hk,F,rfl,M,O,rfl⟩:=hrel;have U:=hid F;have H:=hid M;have K2:=hid O;clear F M O;rcases cF k 1 with h|h
  ·have:k=0:=by omega
   subst this
   by_cases d:p=0
   ·have t:(p != 0)=false:=by simp[d]
    have A:=hid d;clear d;go_wp2;have F:=U.out
    go_roundg 1
    case measure=>omega
    case rel=>exact⟨1,by omega,rfl,by go_num,fun _=>A.out,fun h=>by omega,rfl⟩
   ·have t:(p != 0)=true:=by simp[d]
    have A:=hid d;clear d;go_wp2;go_ret;exact⟨eI (aNy A.out).symm,rfl⟩
  ·rcases cF k 2 with h'|h'
   ·have:k=1:=by omega
    subst this
    by_cases d:q=0
    ·have t:(q != 0)=false:=by simp[d]
     have A:=hid d;clear d;go_wp2;have F:=U.out
     go_roundg 0
     case measure=>omega
     case rel=>exact⟨2,by omega,rfl,by go_num,fun _=>H.out (by omega),fun _=>A.out,rfl⟩
    ·have t:(q != 0)=true:=by simp[d]
     have A:=hid d;clear d;go_wp2;go_ret;exact⟨eI (ZL (H.out (by omega))).symm,rfl⟩
   ·have:k=2:=by omega
    subst this;go_wp2;go_ret;exact⟨eI ((ZL (H.out (by omega))).trans (K2.out (by omega))).symm,rfl⟩
theorem DV {w1 w2:World} {A F G H I:Addr} {J L M O U:Value} {B:Nat} {w0:World}
  (h:w1.cell? A=some J/\w1.cell? F=some L/\w1.cell? G=some M/\w1.cell? H=some O/\w1.cell? I=some U/\Below B w0 w1/\B<=w1.heap.size) (d:Below w1.heap.size w1 w2):
  w2.cell? A=some J/\w2.cell? F=some L/\w2.cell? G=some M/\w2.cell? H=some O/\w2.cell? I=some U/\Below B w0 w2/\B<=w2.heap.size:=by
 obtain⟨h1,h2,h3,h4,h5,h6,V⟩:=h;have k:∀{p:Addr} {v:Value},w1.cell? p=some v->w2.cell? p=some v:=fun{p} {v} Z=>(d.cell (gV w1 p Z)).trans Z
 exact⟨k h1,k h2,k h3,k h4,k h5,h6.trans (d.mono V),Nat.le_trans V d.size⟩
def vV (r:Nat->Int) (n M x y:Nat):Int:=orI (Lib.compareInt (r x) (r y)) (Lib.compareInt (r ((x+M)%n)) (r ((y+M)%n)))
theorem ZM (r:Nat->Int) (n M x y:Nat):vV r n M x y=DU r n M x y:=by
 unfold vV orI DU Lib.compareInt;omega
theorem PS {w1 w0:World} {d A F G H:Addr} {I J L M O:Value} {b:Nat} {e:TypeId} {l:List Value} (U:Arr w0 b e l) (V:b<w0.heap.size)
  (h:w1.cell? d=some I/\w1.cell? A=some J/\w1.cell? F=some L/\w1.cell? G=some M/\w1.cell? H=some O/\Below w0.heap.size w0 w1/\w0.heap.size<=w1.heap.size):Arr w1 b e l:=
 U.below h.2.2.2.2.2.1 V
theorem ZN {w w0 w1:World} {d A F G H:Addr} {I J L M O:Value} {q:Nat} (U:Below q w w0)
  (h:w1.cell? d=some I/\w1.cell? A=some J/\w1.cell? F=some L/\w1.cell? G=some M/\w1.cell? H=some O/\Below w0.heap.size w0 w1/\w0.heap.size<=w1.heap.size) (V:q<=w0.heap.size):Below q w w1:=
 U.trans (h.2.2.2.2.2.1.mono V)
theorem zB (w:World) (o:Obj):Below w.heap.size w (w.alloc o):=(aH _ _).alloc (aD _) _
theorem aN1 (x y:Int) (w:World):Calls pG 274 #[.int .i64 x,.int .i64 y] w fun e w'=>e=.returned (.int .i64 (Lib.compareInt x y))/\w=w':=
 (Tryz.cmp_Compare_int x y w).mono fun _ _ h=>⟨h.1,h.2.symm⟩
theorem ZO (s:ByteArray) (b n M x y:Nat) (r:Nat->Int) (w:World) (A:s.size=n) (hn:n<=1000000) (hM:M<=4000000) (I:x<n) (J:y<n) (F:Arr w b 3 (tab n r)):
  Calls pG 239 #[tO s b n M,.int .i64 (x:Int),.int .i64 (y:Int)] w fun e w'=>e=.returned (.int .i64 (vV r n M x y))/\Below w.heap.size w w':=by
 have G:∀(k:Nat) (w2:World),k<n->Arr w2 b 3 (tab n r)->Calls pG 275 #[tO s b n M,.int .i64 (k:Int)] w2 fun e w'=>e=.returned (.int .i64 (r ((k+M)%n)))/\Below w2.heap.size w2 w':=
  fun k w2 hk h2=>aNz s b n M k r w2 A hn hM hk h2
 unfold tO at G ⊢;have L:=hid G;have HS:=hid A;clear G A;have a4:=F.lt;have d:=F.alloc (.cells #[.string s,.slice (some ⟨b,0,none⟩) n n,.int .i64 (M:Int)] 298);have O:=d.cell (lM n r x I);have U:=d.cell (lM n r y J);have V:(w.alloc (.cells #[.string s,.slice (some ⟨b,0,none⟩) n n,.int .i64 (M:Int)] 298)).cell? ⟨w.heap.size,0,none⟩=some (.string s):=NR _ _ _ _ rfl;have Z:(w.alloc (.cells #[.string s,.slice (some ⟨b,0,none⟩) n n,.int .i64 (M:Int)] 298)).cell? ⟨w.heap.size,1,none⟩=some (.slice (some ⟨b,0,none⟩) n n):=NR _ _ _ _ rfl
 have c3:(w.alloc (.cells #[.string s,.slice (some ⟨b,0,none⟩) n n,.int .i64 (M:Int)] 298)).cell? ⟨w.heap.size,2,none⟩=some (.int .i64 (M:Int)):=NR _ _ _ _ rfl;have H:Below w.heap.size w (w.alloc (.cells #[.string s,.slice (some ⟨b,0,none⟩) n n,.int .i64 (M:Int)] 298)):=(aH _ _).alloc (aD _) _;have a1:=d.lt;have a2:=H.size;have a3:=hid H;clear H F;have i1:(0:Int)<=(x:Int):=by omega
 have i2:(x:Int)<(n:Int):=by omega
 have i3:(0:Int)<=(y:Int):=by omega
 have i4:(y:Int)<(n:Int):=by omega
 go_enter func239,ntmps239;go_wp2;generalize w.alloc (.cells #[.string s,.slice (some ⟨b,0,none⟩) n n,.int .i64 (M:Int)] 298)=W at*
 have a5:=DV ⟨V,Z,c3,O,U,aH W.heap.size W,aD _⟩ (aH W.heap.size W).drew;clear V Z c3 O U
 go_region_held3 (fun w'=>w'.cell? ⟨w.heap.size,0,none⟩=some (.string s)/\w'.cell? ⟨w.heap.size,1,none⟩=some (.slice (some ⟨b,0,none⟩) n n)/\w'.cell? ⟨w.heap.size,2,none⟩=some (.int .i64 (M:Int))/\
   w'.cell? ⟨b,x,none⟩=some (.int .i64 (r x))/\w'.cell? ⟨b,y,none⟩=some (.int .i64 (r y))/\Below W.heap.size W w'/\W.heap.size<=w'.heap.size)
  (first
   |with_reducible assumption
   |with_reducible exact DV (by assumption) (by assumption)
   |with_reducible exact DV (by assumption) (zB _ _))
  (first
   |(go_at_call 274;refine(aN1 _ _ _).mono ?_;rintro e w' ⟨rfl,rfl⟩)
   |(go_at_call_of 275 (bQ .i64 (x:Int));refine(L.out x _ I (PS d a1 (by assumption))).mono ?_;rintro e w' ⟨rfl,hb⟩)
   |(go_at_call_of 275 (bQ .i64 (y:Int));refine(L.out y _ J (PS d a1 (by assumption))).mono ?_;rintro e w' ⟨rfl,hb⟩)
   |(go_at_call 273;refine(aN0 _ _ _ _ (uF _ _ [_,_] 2 rfl (by decide))).mono ?_;rintro e w' ⟨rfl,rfl⟩))
 all_goals go_wp2
 all_goals go_ret
 all_goals exact⟨rfl,ZN a3.out (by assumption) a2⟩
def uH (s:ByteArray) (b n M:Nat):Value:=.iface 298 (tO s b n M)
theorem aN2 (s:ByteArray) (b bx n M x y:Nat) (r:Nat->Int) (w:World) (A:s.size=n) (H:n<=1000000) (I:M<=4000000) (J:x<n) (L:y<n) (F:Arr w b 3 (tab n r)) (G:w.cell? ⟨bx,0,none⟩=some (uH s b n M)):
  Calls pG 272 #[.int .i64 (x:Int),.int .i64 (y:Int),.pointer (some ⟨bx,0,none⟩)] w fun e w'=>e=.returned (.int .i64 (vV r n M x y))/\Below w.heap.size w w':=by
 have d:=ZO s b n M x y r w A H I J L F;unfold uH at G;unfold tO at d G;have O:=hid d;clear d A F;go_enter func272,ntmps272;go_wp2_with fail;refine O.out.mono ?_;rintro e w1 ⟨rfl,U⟩;go_wp2;go_ret;exact⟨rfl,U⟩
end
section
open Go.RowKit Go.Shelf
def ZP (w0:World) (g:Nat) (d:Array Value) (p:Int->Bool) (l:List Int):Prop:=
 ∀W,Below w0.heap.size w0 W->∀x∈l,Calls pG g (#[bQ .i64 x]++d) W fun e A=>e=.returned (.bool (p x))/\A=W
theorem ZQ (g:Nat) (I:Array Value) (p:Int->Bool) (v:Value) (l:List Int) (w:World) (J:RdI w v l) (A:Enters pG g) (L:ZP w g I p l):
  Calls pG 204 #[v,.func (.func g) #[] I] w fun e w'=>e=.returned (.int .i64 (iR p l))/\w'=w:=by
 obtain⟨a,ca,rfl,a1,Z,M⟩:=J.open;unfold maxLen at Z;clear J;have HP:=hid L;have hE:∀args W,(callFunc g args).run pG W=.ok (.enter g args) W:=A;clear L A;go_enter func204,ntmps204;go_wp2_with fail
 go_loopg [8] l.length (fun gh s8 wr=>∃k:Nat,k<=l.length/\gh=l.length-k/\s8=.int .i64 k/\Hid (∀x∈l.take k,p x=false)/\wr=w)
 case atStart=>exact⟨0,aO _,rfl,rfl,hid (fun x F=>by simp at F),rfl⟩
 case round=>
  obtain⟨k,hk,A,rfl,HT,rfl⟩:=hrel;have HG:=hid A;clear A
  by_cases G:k<l.length
  ·obtain⟨b1,o1,rfl,a2,O⟩:=M (by omega);obtain⟨x,F⟩:=eG G;have c1:=O k x F;have a0:x∈l:=List.mem_of_getElem? F;have U:=hid F;have hP:=HP.out _ (aH _ wr) x a0;clear O F M;go_wp2_with fail;refine hP.mono ?_;rintro e w1 ⟨rfl,rfl⟩
   by_cases H:p x=true
   ·rw[H];go_wp2_with fail;go_ret;refine⟨eI ?_,rfl⟩;rw[JD HT.out G (by have:=U.out;rw[aN G] at this;rw[cC this];exact H)]
   ·have V:p x=false:=by simpa using H
    rw[V];go_wp2_with fail;have A:=HG.out
    go_roundg (l.length-(k+1))
    case measure=>omega
    case rel=>
     refine⟨k+1,by omega,rfl,by go_num,hid (fun y d=>?_),rfl⟩;rw[List.take_add_one,U.out] at d;rcases List.mem_append.1 d with d|d
     ·exact HT.out y d
     ·simp at d;rw[d];exact V
  ·go_wp2_with fail;go_ret;exact⟨eI (by rw[sK];have:=HT.out;rwa[cD (by omega)] at this),rfl⟩
theorem zC (g:Nat) (d:Array Value) (p:Int->Bool) (v:Value) (l:List Int) (w:World) (A:RdI w v l) (F:Enters pG g) (G:ZP w g d p l):
  Calls pG 141 #[v,.func (.func g) #[] d] w fun e w'=>e=.returned (.bool (decide (0<=iR p l)))/\w'=w:=by
 have H:=hid (ZQ g d p v l w A F G);obtain⟨i,hi⟩:∃i,i=iR p l:=⟨_,rfl⟩;rw[<-hi] at H ⊢;clear A F G hi;go_enter func141,ntmps141;go_wp2_with fail;refine H.out.mono ?_;rintro e w1 ⟨rfl,rfl⟩;go_wp2_with fail;go_ret;exact⟨rfl,rfl⟩
theorem aN3 (x:Int) (w:World):Calls pG 242 #[.int .i64 x] w fun e w'=>e=.returned (.bool (decide (x<0)))/\w'=w:=by
 go_enter func242,ntmps242;go_wp2;go_ret;exact⟨rfl,rfl⟩
theorem aN7 (x:Int) (w:World):Calls pG 196 #[.int .i64 x] w fun e w'=>e=.returned (.bool (decide (1099511627776<x)))/\w'=w:=by
 go_enter func196,ntmps196;go_wp2;go_ret;exact⟨rfl,rfl⟩
theorem aN4 (x t:Int) (b:Addr) (w:World) (d:w.cell? b=some (.int .i64 t)):Calls pG 243 #[.int .i64 x,.pointer (some b)] w fun e w'=>e=.returned (.bool (decide (t<x)))/\w'=w:=by
 go_enter func243,ntmps243;go_wp2;go_ret;exact⟨rfl,rfl⟩
theorem aN5 (x:Int) (w:World):Calls pG 283 #[.int .i64 x] w fun e w'=>e=.returned (.bool (!(x==0)&& !(x==1)))/\w'=w:=by
 by_cases d:x=0
 ·subst d;go_enter func283,ntmps283;go_wp2;go_ret;exact⟨rfl,rfl⟩
 ·have t0:(x != 0)=true:=by rw[bne_iff_ne];exact d
  by_cases A:x=1
  ·subst A;go_enter func283,ntmps283;go_wp2;go_ret;exact⟨rfl,rfl⟩
  ·have t1:(x != 1)=true:=by rw[bne_iff_ne];exact A
   go_enter func283,ntmps283;go_wp2;go_ret;exact⟨sJ (by simp[d,A]),rfl⟩
theorem PT (v:Value) (l:List Int) (w:World) (d:RdI w v l):
  Calls pG 195 #[v] w fun e w'=>e=.returned (.bool (decide (0<=iR (fun x=>decide (x<0)) l)))/\w'=w:=by
 have A:=hid (zC 242 #[] (fun x=>decide (x<0)) v l w d (enters_of func242 (by kernel_rfl) rfl) (fun W _ x _=>aN3 x W));obtain⟨i,hi⟩:∃i,i=decide (0<=iR (fun x=>decide (x<0)) l):=⟨_,rfl⟩;rw[<-hi] at A ⊢;clear hi d;go_enter func195,ntmps195;go_wp2_with fail;refine A.out.mono ?_;rintro e w1 ⟨rfl,rfl⟩;go_wp2_with fail;go_ret;exact⟨rfl,rfl⟩
def gR (t:Int) (l:List Int):Nat:=l.findIdx (fun x=>decide (t<x))
theorem aN6 (t:Int):∀l:List Int,(if iR (fun x=>decide (t<x)) l<0 then(l.length:Int) else iR (fun x=>decide (t<x)) l)=(gR t l:Int):=by
 intro l
 induction l with
 |nil=>rfl
 |cons x l d=>
  unfold gR at d ⊢;rw[iR,List.findIdx_cons]
  by_cases A:t<x
  ·simp[A]
  ·grind
theorem BK (t:Int) (l:List Int):gR t l<=l.length:=List.findIdx_le_length
theorem DW (t:Int) (l:List Int):∀x∈l.take (gR t l),¬t<x:=by grind [List.mem_iff_getElem,aQ,List.not_of_lt_findIdx,gR]
theorem BL (t:Int) (l:List Int) {x:Int} (h:l[gR t l]? =some x):t<x:=by grind [gR]
theorem ZR (v:Value) (l:List Int) (t:Int) (w:World) (d:RdI w v l):
  Calls pG 198 #[v,.int .i64 t] w fun e w'=>e=.returned (.int .i64 ((gR t l:Nat):Int))/\Below w.heap.size w w':=by
 have A:=aN6 t l;have F:=hid (ZQ 243 #[.pointer (some ⟨w.heap.size,0,none⟩)] (fun x=>decide (t<x)) v l (w.alloc (.cells #[.int .i64 t] 3)) (d.below ((aH _ _).alloc (aD _) _)) (enters_of func243 (by kernel_rfl) rfl)
  (fun W H x _=>aN4 x t ⟨w.heap.size,0,none⟩ W (by rw[H.cell (p:=⟨w.heap.size,0,none⟩) (by simp)];exact bX _ _ _)))
 obtain⟨a,L,rfl,M,I,J⟩:=d.open;obtain⟨i,hi⟩:∃i,i=iR (fun x=>decide (t<x)) l:=⟨_,rfl⟩;rw[<-hi] at F A;have G:=hid A;clear hi J d A;unfold maxLen at I;go_enter func198,ntmps198;go_wp2_with fail;refine F.out.mono ?_;rintro e w1 ⟨rfl,rfl⟩
 by_cases h:i<0
 ·go_wp2_with fail;go_ret;refine⟨eI ?_,(aH _ _).alloc (aD _) _⟩;have:=G.out;rwa[aB h] at this
 ·go_wp2_with fail;go_ret;refine⟨eI ?_,(aH _ _).alloc (aD _) _⟩;have:=G.out;rwa[aA (by omega)] at this
end
section
open Go.RowKit
theorem aO7 (p:Option Addr) (cap:Nat) (d:Value) (w:World):
  Calls pG 307 #[.slice p 0 cap,.int .i64 0,.int .i64 0,d] w fun e w'=>e=.returned (.tuple #[])/\w=w':=by
 go_enter func307,ntmps307;go_wp2
 go_loopg [8] 0 (fun _gh i wr=>i=.int .i64 1/\w=wr)
 case atStart=>exact⟨rfl,rfl⟩
 case round=>
  obtain⟨rfl,rfl⟩:=hrel;go_wp2
  go_end0
  exact⟨rfl,rfl⟩
theorem aO8 (p:Option Addr) (cap:Nat) (d:Value) (w:World):
  Calls pG 296 #[.slice p 0 cap,.int .i64 0,d] w fun e w'=>e=.returned (.tuple #[])/\w=w':=by
 go_enter func296,ntmps296;go_wp2
 go_loopg [7,8] 0 (fun _gh i j wr=>i=.int .i64 0/\j=.int .i64 20/\w=wr)
 case atStart=>exact⟨rfl,rfl,rfl⟩
 case round=>
  obtain⟨rfl,rfl,rfl⟩:=hrel;go_wp2_with fail;refine(aO7 p cap d w).mono ?_;rintro e w1 ⟨rfl,rfl⟩;go_wp2_with fail
  go_loopg [6,7,8,9] 0 (fun _gh A _s7 _s8 _s9 wr=>A=.int .i64 20/\w=wr)
  case atStart=>exact⟨rfl,rfl⟩
  case round=>
   obtain⟨rfl,rfl⟩:=hrel;go_wp2_with fail
   go_end0
   exact⟨rfl,rfl⟩
theorem aO9 (p:Option Addr) (cap:Nat) (d:Value) (w:World):
  Calls pG 271 #[.slice p 0 cap,d] w fun e w'=>e=.returned (.tuple #[])/\w=w':=by
 go_enter func271,ntmps271;go_wp2_with fail;refine(aO8 p cap d w).mono ?_;rintro e w1 ⟨rfl,rfl⟩;go_wp2
 go_end0
 exact⟨rfl,rfl⟩
theorem aPa (p:Option Addr) (cap:Nat) (t:TypeId) (d:Value) (w:World):
  Calls pG 238 #[.slice p 0 cap,.iface t d] w fun e w'=>e=.returned (.tuple #[])/\Below w.heap.size w w':=by
 go_enter func238,ntmps238;go_wp2_with fail;refine(aO9 p cap _ _).mono ?_;rintro e w1 ⟨rfl,rfl⟩;go_wp2
 go_end0
 exact⟨rfl,zB _ _⟩
noncomputable def BO (c:Nat->Nat) (m:Nat) (x y:Int):Bool:=@decide (ltm c m x.toNat y.toNat) (OF _)
theorem QF (c:Nat->Nat) (m:Nat) (x y:Int):BO c m x y=true↔ltm c m x.toNat y.toNat:=by grind [BO,ltm]
theorem aPb (c:Nat->Nat) (m:Nat):Cmp (bef c m) (BO c m):=
 ⟨BJ c m,fun x y d=>by grind [QF,bef,BO]⟩
theorem aPc {s:ByteArray} {b g bx n M:Nat} {r:Nat->Int} {w:World} {c:Nat->Nat} (G:s.size=n) (H:n<=1000000) (I:M<=4000000) (J:Arr w b 3 (tab n r)) (L:b≠g) (O:bx≠g) (d:w.cell? ⟨bx,0,none⟩=some (uH s b n M))
  (U:Cyc c n) (V:rL c n (max M 1) r):tN w g n bx (BO c (max (2*M) 1)):=by
 intro W A x y a4 a5 a6 a7;have Z:((x.toNat:Nat):Int)=x:=by omega
 have ey:((y.toNat:Nat):Int)=y:=by omega
 have a0:=gV w _ d;have a1:W.cell? ⟨bx,0,none⟩=some (uH s b n M):=by
  rw[<-d];exact World.cell?_of_block (w:=w) (A.block bx a0 (fun e=>O (by have:=cC e;omega)))
 have hA:Arr W b 3 (tab n r):=J.grown A (fun e=>L (by have:=cC e;omega));have:=aN2 s b bx n M x.toNat y.toNat r W G H I (by omega) (by omega) hA a1;rw[Z,ey] at this;refine this.mono ?_;rintro e w' ⟨rfl,a2⟩;refine⟨_,rfl,?_,a2⟩;rw[ZM];have F:=(ZK (x:=x.toNat) (y:=y.toNat) U V (by omega) (by omega)).1
 by_cases h:ltm c (max (2*M) 1) x.toNat y.toNat
 ·rw[(QF _ _ _ _).2 h];exact aG (F.2 h)
 ·have:BO c (max (2*M) 1) x y=false:=by
   cases a3:BO c (max (2*M) 1) x y with
   |false=>rfl
   |true=>exact absurd ((QF _ _ _ _).1 a3) h
  rw[this];exact aE (fun h'=>h (F.1 h'))
theorem aPd (s:ByteArray) (b g cap n M:Nat) (r:Nat->Int) (w:World) (c:Nat->Nat) (hs:s.size=n) (J:n<=1000000) (hM:M<=4000000) (L:Arr w b 3 (tab n r)) (a1:b≠g) (A:Dat w g cap n (fun k=>(k:Int))) (O:cap<=maxLen)
  (U:Cyc c n) (d:rL c n (max M 1) r):
  Calls pG 238 #[.slice (some ⟨g,0,none⟩) n cap,uH s b n M] w fun e w'=>
   e=.returned (.tuple #[])/\(∃h,Ord c n (max (2*M) 1) h/\Dat w' g cap n h)/\w.grownBy w' (some g):=by
 have hg:=A.lt;have F:=zB w (.cells #[uH s b n M] 344);have V:=aPc (bx:=w.heap.size) hs J hM (L.alloc (.cells #[uH s b n M] 344)) a1 (by omega) (bX w (uH s b n M) 344) U d;have G:=aNe g cap n w.heap.size (fun k=>(k:Int)) _ (bef c (max (2*M) 1)) _ (A.below F hg) J O (fun k d=>by show 0<=(k:Int)/\(k:Int)<(n:Int);omega) (fun i j _ h2 _=>by show(i:Int)<(j:Int);omega) V (aPb c _);unfold maxLen at O;unfold qQ at G;have H:=hid G;have I:=hid F;have HD:=hid A;clear G V F d U L A;unfold uH at H I ⊢;obtain⟨Z,a0⟩:∃Z,Z=tO s b n M:=⟨_,rfl⟩
 rw[<-a0] at H I ⊢;clear a0;go_enter func238,ntmps238;go_wp2_with fail;refine H.out.mono ?_;rintro e w1 ⟨rfl,⟨h,hB,hD⟩,hG⟩;go_wp2
 go_end0
 refine⟨rfl,⟨h,⟨fun k d=>?_,hB.srt⟩,hD⟩,eU (vS I.out) hG⟩;obtain⟨k',_,p2,p3⟩:=hB.frm k (aO _) d;rw[p3];show 0<=(k':Int)/\(k':Int)<(n:Int);omega
def iY (n:Nat) (o:Nat->Int):List Int:=(List.range n).map o
theorem qE (n:Nat) (o:Nat->Int):(iY n o).length=n:=by simp[iY]
theorem BP (n:Nat) (o:Nat->Int) (k:Nat) (h:k<n):(iY n o)[k]? =some (o k):=by simp[iY,h]
theorem aPe (n:Nat) (o:Nat->Int):iY (n+1) o=iY n o++[o n]:=by simp[iY,List.range_succ]
theorem aPf {n:Nat} {o d:Nat->Int} (h:∀k,k<n->o k=d k):iY n o=iY n d:=by grind [iY,List.map_congr_left]
theorem aAp (l:List Int):iY l.length (fun k=>l.getD k 0)=l:=by
 apply lH
 grind [BP,qE,iY]
theorem aAq {d:Array Value} {n:Nat} {f:Nat->Int} (A:n<=d.size) (h:∀k,k<n->d[k]? =some (.int .i64 (f k))):d.toList.take n=(iY n f).map (bQ .i64):=by
 apply lH
 grind [BP,iY]
theorem aPg {w:World} {B:Nat} {v:Value} {l:List Int} (h:OwI w B v l) (I:l≠[]):
  ∃g cap,v=.slice (some ⟨g,0,none⟩) l.length cap/\B<=g/\Dat w g cap l.length (fun k=>l.getD k 0)/\cap<=maxLen:=by
 obtain⟨J,h⟩:=h;rw[aS] at h;rcases h with⟨rfl,L⟩|⟨g,cap,d,rfl,A,F,G,H,M,O⟩
 ·grind
 ·refine⟨g,cap,rfl,A,⟨d,F,by omega,G,fun k U=>?_⟩,H⟩;have:(d.toList.take l.length)[k]? =(l.map (bQ .i64))[k]? :=by grind
  grind
theorem aPh {w:World} {B g cap n:Nat} {f:Nat->Int} (h:Dat w g cap n f) (d:B<=g) (A:cap<=maxLen):OwI w B (.slice (some ⟨g,0,none⟩) n cap) (iY n f):=by
 obtain⟨F,G,H,I,J⟩:=h;refine⟨(Nat.mul_one _).symm,.inr ⟨g,cap,F,by rw[aS,qE],d,G,by grind [qE,Dat,OwI,iY],A,by omega,?_⟩⟩
 grind [qE,aAq,Dat,OwI,iY]
theorem Dat.other {w:World} {g cap n:Nat} {f:Nat->Int} (h:Dat w g cap n f) (p:Addr) (d:p.block≠g) (v:Value):Dat (w.setCell p v) g cap n f:=by
 obtain⟨A,h,F⟩:=h;exact⟨A,by rw[Below.heap_setCell w p v g (fun e=>d e.symm)];exact h,F⟩
theorem aPi {n:Nat} {o:Nat->Int} (J:∀k,k<n->0<=o k/\o k<(n:Int)) (L:∀i j,i<j->j<n->o i≠o j):
  (iY n o).mergeSort (fun x y=>decide (x<=y))=iY n (fun k=>(k:Int)):=by
 obtain⟨l,d⟩:∃l,l=(iY n o).mergeSort (fun x y=>decide (x<=y)):=⟨_,rfl⟩;rw[<-d];have A:l.Perm (iY n o):=by grind [List.mergeSort_perm,iY]
 have M:l.Pairwise (fun x y=>decide (x<=y)=true):=by grind [List.pairwise_mergeSort,iY]
 have F:l.length=n:=by rw[A.length_eq,qE]
 have O:l.Nodup:=by grind [iY,List.Nodup,aLc,List.pairwise_lt_range]
 have G:∀k,k<n->0<=l.getD k 0/\l.getD k 0<(n:Int):=by
  intro k U;have V:k<l.length:=by omega
  have Z:l.getD k 0∈l:=by grind
  grind [iY]
 have H:∀k,k+1<n->l.getD k 0<l.getD (k+1) 0:=by grind [List.pairwise_iff_getElem,List.getD,aN,iY]
 have I:=aNw G H;rw[<-aAp l,F];exact aPf I
theorem aPj (g cap n:Nat) (o:Nat->Int) (w:World) (F:Dat w g cap n o) (Z:n<=1000000) (G:∀k,k<n->0<=o k/\o k<(n:Int)) (H:∀i j,i<j->j<n->o i≠o j):
  Calls pG 237 #[.slice (some ⟨g,0,none⟩) n cap] w fun e w'=>e=.returned (.tuple #[])/\Dat w' g cap n (fun k=>(k:Int))/\w.grownBy w' (some g):=by
 obtain⟨I,d,J,L,M⟩:=F;have O:=aAq (by omega) M;have U:Go.Sort.Holds (bQ .i64) w g 0 (iY n o).toArray:=holds_of_blockI d (by rw[qE];exact O);have V:g<w.heap.size:=(Array.getElem?_eq_some_iff.1 d).1;have h:=Tryz.slices_Sort_int g 0 cap (iY n o) w U V (by rw[qE];omega);rw[qE,aPi G H] at h;refine h.mono ?_;rintro e w' ⟨rfl,m,os,rfl⟩;refine⟨rfl,?_,grownBy_sortedI _⟩;refine⟨_,heap_sortedI _ d,by simp[Go.Sort.putCells,J],L,fun k A=>?_⟩;have:=take_putCellsI I (iY n (fun k=>(k:Int))) (by rw[qE];omega);have e:=congrArg (fun l=>l[k]?) this
 rw[qE,List.getElem?_take_of_lt A,Array.getElem?_toList] at e;rw[e,List.getElem?_map,BP _ _ _ A];rfl
noncomputable def vr (c:Nat->Nat) (m:Nat) (o:Nat->Int):Nat->Int
 |0=>0
 |i+1=>vr c m o i+ @ite _ (eqm c m (o i).toNat (o (i+1)).toNat) (OF _) 0 1
theorem QG (c:Nat->Nat) (m:Nat) (o:Nat->Int) (i:Nat):(eqm c m (o i).toNat (o (i+1)).toNat/\vr c m o (i+1)=vr c m o i)\/(¬eqm c m (o i).toNat (o (i+1)).toNat/\vr c m o (i+1)=vr c m o i+1):=by grind [eqm,vr]
theorem aPk (c:Nat->Nat) (m:Nat) (o:Nat->Int):∀i,0<=vr c m o i/\vr c m o i<=(i:Int):=by
 intro i
 induction i with
 |zero=>exact⟨lV _,lV _⟩
 |succ i d=>rcases QG c m o i with h|h<;>omega
def cQ (s:ByteArray) (i:Nat):Nat:=(s.data.toList.getD (i%s.size) 0).toNat
theorem xI (s:ByteArray):Cyc (cQ s) s.size:=by simp[cQ,Cyc]
theorem aPl (s:ByteArray) {i:Nat} (h:i<s.size):cQ s i=(s.data.toList.getD i 0).toNat:=by grind [cQ,Nat.mod_eq_of_lt]
theorem aPm (s:ByteArray):rL (cQ s) s.size 1 (fun k=>(cQ s k:Int)):=by
 intro a b _ _;constructor
 ·intro h;exact⟨0,by omega,fun u d=>by omega,by grind⟩
 ·rintro⟨t,t1,_,A⟩
  grind
theorem aPn {s:ByteArray} (h:s.size=0):s=mkS []:=by
 apply PB;apply List.eq_nil_of_length_eq_zero
 simpa using h
theorem aPo (w:World):
  Calls pG 192 #[.string (mkS [])] w fun e w'=>e=.returned (.slice none 0 0)/\Below w.heap.size w w':=by
 have U:(mkS []).size=0:=rfl;obtain⟨s,I⟩:∃s,s=mkS []:=⟨_,rfl⟩;rw[<-I] at U ⊢;clear I;go_enter func192,ntmps192;go_wp2_with (at_make;refine mkA jL rfl _ _ rfl 0 rfl rfl ?_ ?_;omega)
 go_loopg [2,4,15] 0 (fun _gh F _s4 V wr=>V=.int .i64 0/\F=.slice none 0 0/\
   Arr wr (w.heap.size+1) 298 [.string s,.slice (some ⟨w.heap.size,0,none⟩) 0 0,.int .i64 0]/\
   Below w.heap.size w wr/\w.heap.size+2<=wr.heap.size)
 case atStart=>
  refine⟨rfl,rfl,?_,(zB _ _).trans ((aH _ _).alloc (by simp) _),by simp⟩;have:=Arr.new (w.alloc (.cells (gW (.int .i64 0) 0) 3)) 298 [.string s,.slice (some ⟨w.heap.size,0,none⟩) 0 0,.int .i64 0];rwa[World.size_alloc] at this
 case round=>
  obtain⟨rfl,rfl,d,A,a0⟩:=hrel;obtain⟨G,rfl⟩:∃G:World,G=wr:=⟨_,rfl⟩;go_wp2_with fail
  go_loopg [2,5,6] 0 (fun _gh F _s5 _s6 wr=>F=.slice none 0 0/\G=wr)
  case atStart=>exact⟨rfl,rfl⟩
  case round=>
   obtain⟨rfl,rfl⟩:=hrel;go_wp2_with fail;refine(Tryz.slices_Sort_int_none none 0 _).mono ?_;rintro e w1 ⟨rfl,h⟩;subst h;have J:=d.cell (i:=0) rfl;have L:=d.cell (i:=1) rfl;have M:=d.cell (i:=2) rfl;go_wp2_with fail;refine(aPa none 0 _ _ _).mono ?_;rintro e w2 ⟨rfl,H⟩;have Z:=d.below H d.lt;have O:=A.trans (H.mono A.size);have a1:=H.size;clear d A J L M;go_wp2_with (at_make;refine mkA jL rfl _ _ rfl 0 rfl rfl ?_ ?_;omega)
   go_loopg [6] 0 (fun _gh s6 wr=>s6=.int .i64 1/\Arr wr (w.heap.size+1) 298 [.string s,.slice (some ⟨w.heap.size,0,none⟩) 0 0,.int .i64 0]/\Below w.heap.size w wr)
   case atStart=>exact⟨rfl,Z.alloc _,O.alloc O.size _⟩
   case round=>
    obtain⟨rfl,d,A⟩:=hrel;have J:=d.cell (i:=0) rfl;have L:=d.cell (i:=1) rfl;have M:=d.cell (i:=2) rfl;have f1:=d.free 1;have f2:=d.free 2;go_wp2_with fail;go_ret;exact⟨rfl,(A.setCell (by show w.heap.size<=w.heap.size+1;omega) _).setCell (by show w.heap.size<=w.heap.size+1;omega) _⟩
end
section
theorem aUx (d:List UInt8):eX d=(unS 0 0 d).map ([]++·):=by simp[eX,unS]
theorem EU {o m:List UInt8} (x:Option (List UInt8)):(x.map (m++·)).map (o++·)=x.map ((o++m)++·):=by
 cases x with
 |none=>rfl
 |some y=>simp
theorem aUy {d o s:List UInt8} {c b:UInt8} (h:eX d=(unS 4 c (b::s)).map (o++·)):eX d=(unS 0 c s).map ((o++aX b.toNat c)++·):=by grind [unS,EU,eX]
theorem aUz {d o s:List UInt8} {r:Nat} {c:UInt8} (h:eX d=(unS r c (c::s)).map (o++·)) (A:0<r) (F:r≠4):eX d=(unS (r+1) c s).map ((o++[c])++·):=by
 rw[h]
 conv=>lhs;unfold unS
 rw[aA F,aB ⟨A,rfl⟩];exact EU (m:=[c]) _
theorem aDg {d o s:List UInt8} {r:Nat} {c b:UInt8} (h:eX d=(unS r c (b::s)).map (o++·)) (A:r≠4) (F:¬(0<r/\b=c)):eX d=(unS 1 b s).map ((o++[b])++·):=by
 rw[h]
 conv=>lhs;unfold unS
 rw[aA A,aA F];exact EU (m:=[b]) _
theorem aU0 {d o:List UInt8} {r:Nat} {c:UInt8} (h:eX d=(unS r c []).map (o++·)):eX d=if r=4 then none else some o:=by grind [unS,eX]
theorem LN {α:Type} (o l:List α) (k:Nat):(o.take k++l).take k=(o++l).take k:=by grind [Nat.le_total,aQ,Nat.min_self,cD]
def jX (p:List UInt8) (most:Int):List UInt8×Int:=match eX p with
 |none=>([],3)
 |some o=>if most<(o.length:Int) then([],4) else(o,0)
theorem aDh {p:List UInt8} {most:Int} (h:eX p=none):jX p most=([],3):=by unfold jX;rw[h]
theorem SJ {p o:List UInt8} {most:Int} (h:eX p=some o):jX p most=if most<(o.length:Int) then([],4) else(o,0):=by unfold jX;rw[h]
theorem aU1:∀(s:List UInt8) (r:Nat) (c:UInt8) (o:List UInt8),unS r c s=some o->s≠[]->r≠4->o≠[]
 |[],_,_,_,_,h,_=>absurd rfl h
 |b::s,r,c,o,h,_,d=>by
  unfold unS at h;rw[aA d] at h;split at h
  ·cases q:unS (r+1) c s with
   |none=>rw[q] at h;simp at h
   |some y=>rw[q] at h;simp at h;rw[<-h];simp
  ·cases q:unS 1 b s with
   |none=>rw[q] at h;simp at h
   |some y=>rw[q] at h;simp at h;rw[<-h];simp
theorem aU2 {p:List UInt8} {most:Int} (d:p≠[]) (h:(jX p most).2=0):(jX p most).1≠[]/\((jX p most).1.length:Int)<=most:=by grind [jX,eX,aU1]
theorem zL {s:List UInt8} {k:Nat} (A:k<=255) (d:k<=s.length) (G:∀j,j<k->s[j]? =s[0]?) (F:k=255\/k=s.length\/s[k]?≠s[0]?):bF s=k:=by
 cases s with
 |nil=>simp at d;subst d;rfl
 |cons c r=>
  show mG c 255 (c::r)=k;refine aCh c 255 _ k A (fun j H=>by grind) ?_;rcases F with h|h|h
  ·exact .inl h
  ·grind
  ·grind
theorem aU3 {α:Type} {X Y:List α} {c:α} {k n M:Nat} (d:k<=n) (A:Y=(X++aX k c).take (M+1)) (F:M<Y.length):(X++aX n c).take (M+1)=Y:=by
 have G:M+1<=(X++aX k c).length:=by grind
 have e:aX n c=aX k c++aX (n-k) c:=by grind [List.replicate_append_replicate]
 grind
theorem aU4 {α:Type} {X Y:List α} {c:α} {k M:Nat} (d:Y=(X++aX k c).take (M+1)) (A:Y.length<=M):Y++[c]=(X++aX (k+1) c).take (M+1):=by grind [aX,aQ,cD,List.replicate_succ',List.append_assoc,List.length_append,List.length_singleton]
end
section
open Go.RowKit Go
theorem bAe (s:ByteArray) (w:World) (hs:s.size<=140737488355328):
  Calls pG 156 #[.string s] w fun e w'=>e=.returned (.int .i64 ((bF s.data.toList:Nat):Int))/\Below w.heap.size w w':=by
 have G:=hid (show s.data.toList.length=s.size by simp);go_enter func156,ntmps156;go_wp2_with fail
 go_loopg [3] 256 (fun g Z wr=>∃k:Nat,k<=s.size/\k<=255/\g=256-k/\Z=.int .i64 (k:Int)/\Hid (∀j,j<k->s.data.toList[j]? =s.data.toList[0]?)/\Below w.heap.size w wr)
 case atStart=>exact⟨0,aO _,by omega,rfl,rfl,hid (fun j hj=>by omega),aH _ _⟩
 case round=>
  obtain⟨k,M,O,U,rfl,H,I⟩:=hrel;have HG:=hid U;clear U
  by_cases a0:k<s.size
  ·have t1:decide ((k:Int)<(s.size:Int))=true:=aG (by omega)
   by_cases a1:k<255
   ·have t2:decide ((k:Int)<255)=true:=aG (by omega);have h0:0<s.size:=by omega
    have J:=fW s k a0;have L:=fW s 0 h0;obtain⟨b,d⟩:∃b,b=s[k].toNat:=⟨_,rfl⟩;obtain⟨c,A⟩:∃c,c=s[0].toNat:=⟨_,rfl⟩
    by_cases V:b=c
    ·have t3:((b:Int)==(c:Int))=true:=by rw[V];simp
     have t4:decide ((b:Int)=(c:Int))=true:=aG (by omega);have HS:=hid (show s.data.toList[k]? =s.data.toList[0]? by rw[J,L];congr 1;exact UInt8.toNat_inj.1 (by rw[<-d,<-A];exact V));have e1:(s[k].toNat:Int)=(b:Int):=by rw[d]
     have e2:(s[0].toNat:Int)=(c:Int):=by rw[A]
     clear J L d A;go_wp2_with fail
     go_quiet (fail)
     go_wp2_with fail;have U:=HG.out
     go_roundg (256-(k+1))
     case measure=>omega
     case rel=>exact⟨k+1,by omega,by omega,rfl,by go_num,hid (fun j hj=>by rcases cF j k with q|q;exact H.out j q;rw[show j=k by omega];exact HS.out),kY I _⟩
    ·have t3:((b:Int)==(c:Int))=false:=by rw[cB];omega
     have t4:decide ((b:Int)=(c:Int))=false:=aE (by omega);have F:=hid (show bF s.data.toList=k from zL O (by rw[G.out];exact M) H.out (.inr (.inr (by rw[J,L];intro e;injection e with e;exact V (by rw[d,A,e])))));have e1:(s[k].toNat:Int)=(b:Int):=by rw[d]
     have e2:(s[0].toNat:Int)=(c:Int):=by rw[A]
     clear J L d A;go_wp2_with fail
     go_quiet (fail)
     go_wp2_with fail;go_ret;exact⟨eI (by rw[F.out]),kY I _⟩
   ·have t2:decide ((k:Int)<255)=false:=aE (by omega);have F:=hid (show bF s.data.toList=k from zL O (by rw[G.out];exact M) H.out (.inl (by omega)));go_wp2_with fail
    go_quiet (fail)
    go_wp2_with fail;go_ret;exact⟨eI (by rw[F.out]),kY I _⟩
  ·have t1:decide ((k:Int)<(s.size:Int))=false:=aE (by omega);have F:=hid (show bF s.data.toList=k from zL O (by rw[G.out];exact M) H.out (.inr (.inl (by rw[G.out];omega))));go_wp2_with fail
   go_quiet (fail)
   go_wp2_with fail;go_ret;exact⟨eI (by rw[F.out]),kY I _⟩
end
end Go.Proofs.YtihbnmlinkbnkaaGreatDoor
