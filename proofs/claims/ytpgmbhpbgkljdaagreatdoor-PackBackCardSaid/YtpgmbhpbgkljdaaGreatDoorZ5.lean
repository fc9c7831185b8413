/-
  Texts put together (part 5): the walks and the plain laws on which the statement stands.
-/
import Derived.Shelf.Abstract
import Derived.Deep.Cut
import Derived.Laws.IdiomCopy
import Derived.Lib.BytesEntry
import Derived.Lib.ConvBytes
import Derived.Sort.OwnSortedInts
import Derived.Test.YtpgmbhpbgkljdaaGreatDoorZ4
set_option maxRecDepth 100000
set_option maxHeartbeats 12800000
open Array renaming getElem?_toList->FW
open Classical renaming propDecidable->GL
open Go renaming Operand->iM,heap_setCell_other->kT,run_underlying->sI,wpList_plain->AD
open Go.Addr renaming add->iN
open Go.Instr renaming index->tV
open Go.Oper renaming wp->lX
open Go.Result renaming andThen->jB
open Go.RowKit.Below renaming refl->aB
open Go.Value renaming int->bO
open Go.World renaming block_lt_of_cell?->iO,cell?_alloc_at->FO,cell?_of_block->oK,cell?_setCells_out->aTi,grownBy_alloc->AV
open Int renaming le_refl->lJ,tmod_eq_emod_of_nonneg->oJ
open List renaming append_assoc->cF,append_nil->eE,eq_nil_of_length_eq_zero->vK,ext_getElem?->jA,getD->fF,getElem?_append_left->gS,getElem?_append_right->jY,getElem?_drop->gR,getElem?_eq_getElem->aN,getElem?_eq_none->dL,getElem?_eq_some_iff->eU,getElem?_map->dY,getElem?_set_ne->qU,getElem?_take_of_lt->mB,length_append->aL,length_cons->cR,length_drop->cI,length_map->bJ,length_take->aX,mem_map->dU,pairwise_iff_getElem->xO,range->dG,take_add_one->cQ,take_of_length_le->cS
open List.Pairwise renaming imp_of_mem->aB5
open Nat renaming add_zero->pH,dvd_add->GC,dvd_refl->GD,eq_zero_or_pos->fJ,le_refl->aA,le_trans->aW,lt_of_lt_of_le->dR,lt_or_ge->bT,min_eq_left->gU,min_eq_right->aB9,mul_one->sE,zero_le->aU
open Option.some renaming inj->bW,injEq->iP
open UInt8 renaming ofNat->eK
namespace Go.Proofs.YtpgmbhpbgkljdaaGreatDoor
section
open Go.RowKit
structure lS (lt:Int->Int->Prop) (f g:Nat->Int) (a b:Nat):Prop where
 frm:∀k,a<=k->k<b->∃k',a<=k'/\k'<b/\g k=f k'
 srt:gM lt g a b
theorem lS.congr {lt:Int->Int->Prop} {f g h:Nat->Int} {a b:Nat} (p:lS lt f g a b) (e:∀k,a<=k->k<b->h k=g k):lS lt f h a b:=
 ⟨fun k h1 h2=>by rw[e k h1 h2];exact p.frm k h1 h2,p.srt.congr e⟩
theorem lS.empty {lt:Int->Int->Prop} {f g:Nat->Int} {a b:Nat} (h:b<=a):lS lt f g a b:=
 ⟨fun k h1 h2=>by omega,gM.tiny _ _ _ (by omega)⟩
theorem yJ {d a a':Nat} (h:d ∣ a) (h':d ∣ a') (hl:a'<a+d):a'<=a:=by
 rcases bT a a' with h1|h1
 ·have h2:d ∣ a'-a:=Nat.dvd_sub h' h;have h3:a'-a=0:=Nat.eq_zero_of_dvd_of_lt h2 (by omega);omega
 ·exact h1
def lD (lt:Int->Int->Prop) (f g:Nat->Int) (d lo hi n:Nat):Prop:=∀a,d ∣ a->lo<=a->a<hi->lS lt f g a (min (a+d) n)
theorem QI {lt:Int->Int->Prop} {f g h:Nat->Int} {a b:Nat} (hm:kX lt g h a b) (hfg:∀k,a<=k->g k=f k):lS lt f h a b:=
 ⟨fun k h1 h2=>by obtain⟨k',p,q,r⟩:=hm.frm.1 k h1 h2;exact⟨k',p,q,by rw[r,hfg k' p]⟩,hm.srt⟩
theorem QJ {lt:Int->Int->Prop} {f g:Nat->Int} {a m b n:Nat} (hr:vV f 0 n) (hbn:b<=n) (ham:a<m) (hmb:m<b) (h1:lS lt f g a m) (h2:lS lt f g m b):lC lt g a m b:=
 ⟨ham,hmb,h1.srt,h2.srt,fun i j i1 i2 j1 j2=>by
  obtain⟨i',p1,p2,p3⟩:=h1.frm i i1 i2;obtain⟨j',r1,r2,r3⟩:=h2.frm j j1 j2;rw[p3,r3];exact hr i' j' (by omega) (by omega) (by omega)⟩
theorem QK {lt:Int->Int->Prop} {f g h:Nat->Int} {a m b:Nat} (ham:a<=m) (hmb:m<=b) (h1:lS lt f g a m) (h2:lS lt f g m b) (hm:kX lt g h a b):lS lt f h a b:=
 ⟨fun k k1 k2=>by
  obtain⟨k',p1,p2,p3⟩:=hm.frm.1 k k1 k2;rcases bT k' m with hk|hk
  ·obtain⟨q,q1,q2,q3⟩:=h1.frm k' p1 hk;exact⟨q,q1,by omega,by rw[p3,q3]⟩
  ·obtain⟨q,q1,q2,q3⟩:=h2.frm k' hk p2;exact⟨q,by omega,q2,by rw[p3,q3]⟩,hm.srt⟩
theorem rK {d p:Nat} (h:2*d ∣ p):d ∣ p:=Nat.dvd_trans (Nat.dvd_mul_left d 2) h
theorem aFb {lt:Int->Int->Prop} {f h:Nat->Int} {d p n:Nat} (hr:vV f 0 n) (hd:0<d) (k1:2*d ∣ p) (hlt:p+2*d<=n) (k3:lD lt f h d p n n):lC lt h p (p+d) (p+2*d):=by
 have b1:=k3 p (rK k1) (aA _) (by omega);have b2:=k3 (p+d) (GC (rK k1) (GD _)) (by omega) (by omega);rw[show min (p+d) n=p+d by omega] at b1;rw[show min (p+d+d) n=p+2*d by omega] at b2;exact QJ hr hlt (by omega) (by omega) b1 b2
theorem aFc {lt:Int->Int->Prop} {f h:Nat->Int} {d p n:Nat} (hr:vV f 0 n) (hd:0<d) (k1:2*d ∣ p) (hmn:p+d<n) (hlt:n<p+2*d) (k3:lD lt f h d p n n):lC lt h p (p+d) n:=by
 have b1:=k3 p (rK k1) (aA _) (by omega);have b2:=k3 (p+d) (GC (rK k1) (GD _)) (by omega) (by omega);rw[show min (p+d) n=p+d by omega] at b1;rw[show min (p+d+d) n=n by omega] at b2;exact QJ hr (aA _) (by omega) (by omega) b1 b2
theorem aFd {lt:Int->Int->Prop} {f h h2:Nat->Int} {d p n:Nat} (hd:0<d) (k1:2*d ∣ p) (hlt:p+2*d<=n) (k2:lD lt f h (2*d) 0 p n) (k3:lD lt f h d p n n) (hm:kX lt h h2 p (p+2*d)):
  lD lt f h2 (2*d) 0 (p+2*d) n/\lD lt f h2 d (p+2*d) n n:=by
 have b1:=k3 p (rK k1) (aA _) (by omega);have b2:=k3 (p+d) (GC (rK k1) (GD _)) (by omega) (by omega);rw[show min (p+d) n=p+d by omega] at b1;rw[show min (p+d+d) n=p+2*d by omega] at b2;refine⟨fun a a1 _ a3=>?_,fun a a1 a2 a3=>?_⟩
 ·rcases bT a p with ha|ha
  ·refine(k2 a a1 (aU _) ha).congr (fun k q1 q2=>hm.frm.2 k ?_);have:a+2*d<=p:=by
    rcases bT p (a+2*d) with q|q
    ·have:=yJ a1 k1 q;omega
    ·exact q
   omega
  ·have:a=p:=by have:=yJ k1 a1 a3;omega
   subst this;rw[gU hlt];exact QK (by omega) (by omega) b1 b2 hm
 ·exact(k3 a a1 (by omega) a3).congr (fun k q1 q2=>hm.frm.2 k (by omega))
theorem aFe {lt:Int->Int->Prop} {f h h2:Nat->Int} {d p n:Nat} (hd:0<d) (k1:2*d ∣ p) (hmn:p+d<n) (hlt:n<p+2*d) (k2:lD lt f h (2*d) 0 p n) (k3:lD lt f h d p n n) (hm:kX lt h h2 p n):
  lD lt f h2 (2*d) 0 n n:=by
 have b1:=k3 p (rK k1) (aA _) (by omega);have b2:=k3 (p+d) (GC (rK k1) (GD _)) (by omega) (by omega);rw[show min (p+d) n=p+d by omega] at b1;rw[show min (p+d+d) n=n by omega] at b2;intro a a1 _ a3;rcases bT a p with ha|ha
 ·refine(k2 a a1 (aU _) ha).congr (fun k q1 q2=>hm.frm.2 k ?_);have:a+2*d<=p:=by
   rcases bT p (a+2*d) with q|q
   ·have:=yJ a1 k1 q;omega
   ·exact q
  omega
 ·have:a=p:=by have:=yJ k1 a1 (by omega);omega
  subst this;rw[aB9 (by omega)];exact QK (by omega) (by omega) b1 b2 hm
theorem aFf {lt:Int->Int->Prop} {f h:Nat->Int} {d p n:Nat} (hd:0<d) (k1:2*d ∣ p) (hmn:n<=p+d) (k2:lD lt f h (2*d) 0 p n) (k3:lD lt f h d p n n):lD lt f h (2*d) 0 n n:=by
 intro a a1 _ a3;rcases bT a p with ha|ha
 ·exact k2 a a1 (aU _) ha
 ·have:a=p:=by have:=yJ k1 a1 (by omega);omega
  subst this;have b1:=k3 a (rK k1) (aA _) a3;rw[show min (a+d) n=n by omega] at b1;rwa[show min (a+2*d) n=n by omega]
theorem aFg (g cap n bx:Nat) (f:Nat->Int) (klt:Int->Int->Bool) (lt:Int->Int->Prop) (w:World) (hd:Dat w g cap n f) (hn:n<=1000000) (hcap:cap<=maxLen)
  (hf:InR n f) (hr:vV f 0 n) (hc:pO w g n bx klt) (C:Cmp lt klt):
  Calls Tryz.prog 189 #[.slice (some ⟨g,0,none⟩) n cap,.int .i64 (n:Int),nE bx] w fun e w'=>
   e=.returned (.tuple #[])/\(∃h,lS lt f h 0 n/\Dat w' g cap n h)/\w.grownBy w' (some g):=by
 have hcap':=hcap;unfold maxLen at hcap;unfold nE;have HCAP:=hid hcap';have HCM:=hid hc;have HR:=hid hr;have HF:=hid hf;clear hc hr hcap' hf;go_enter Tryz.func189,Tryz.ntmps189;go_wp2
 go_loopg [7,8] n (fun gh i j wr=>∃(p:Nat) (h:Nat->Int),p<=n/\gh=n-p/\i=.int .i64 p/\j=.int .i64 ((p+20:Nat):Int)/\Dat wr g cap n h/\
   Hid (20 ∣ p/\lD lt f h 20 0 p n/\(∀k,p<=k->h k=f k)/\InR n h)/\w.grownBy wr (some g))
 case atStart=>exact⟨0,f,aU _,rfl,rfl,rfl,hd,hid ⟨Nat.dvd_zero _,fun a h1 h2 h3=>by omega,fun k _=>rfl,HF.out⟩,uI _ _⟩
 case round=>
  obtain⟨p,h,hp,hg,rfl,rfl,hdat,HH,hgr⟩:=hrel;have HG:=hid hg;clear hg
  by_cases hlt:p+20<=n
  ·have t1:decide (((p+20:Nat):Int)<=(n:Int))=true:=by simp;omega
   have t2:decide (p+20<=n)=true:=by simpa using hlt
   go_wp2_with fail;refine(QF g cap n p (p+20) bx h klt lt _ hdat hn HCAP.out (by omega) hlt HH.out.2.2.2 (fun i j i1 i2 i3=>by rw[HH.out.2.2.1 i i1,HH.out.2.2.1 j (by omega)];exact HR.out i j (by omega) i2 (by omega)) (HCM.out.later hgr) C).mono ?_;rintro e w1 ⟨rfl,⟨h2,hm,hd1⟩,hg1⟩;have HM:=hid hm;clear hm;go_wp2;have hg:=HG.out
   go_roundg (n-(p+20))
   case measure=>omega
   case rel=>
    obtain⟨k1,k2,k3,k4⟩:=HH.out;refine⟨p+20,h2,hlt,rfl,by go_num,by go_num,hd1,hid ⟨by omega,fun a a1 _ a3=>?_,fun k hk=>?_,k4.from hlt HM.out.frm⟩,dS hgr hg1⟩
    ·rcases bT a p with ha|ha
     ·exact(k2 a a1 (aU _) ha).congr (fun k q1 q2=>HM.out.frm.2 k (by omega))
     ·have:a=p:=by omega
      subst this;rw[gU hlt];exact QI HM.out k3
    ·rw[HM.out.frm.2 k (by omega)];exact k3 k (by omega)
  ·have t1:decide (((p+20:Nat):Int)<=(n:Int))=false:=by simp;omega
   have t2:decide (p+20<=n)=false:=by simpa using hlt
   go_wp2_with fail;refine(QF g cap n p n bx h klt lt _ hdat hn HCAP.out (by omega) (aA _) HH.out.2.2.2 (fun i j i1 i2 i3=>by rw[HH.out.2.2.1 i i1,HH.out.2.2.1 j (by omega)];exact HR.out i j (by omega) i2 (by omega)) (HCM.out.later hgr) C).mono ?_;rintro e w1 ⟨rfl,⟨h2,hm,hd1⟩,hg1⟩;have hb:lD lt f h2 20 0 n n:=by
    obtain⟨k1,k2,k3,k4⟩:=HH.out;intro a a1 _ a3;rcases bT a p with ha|ha
    ·exact(k2 a a1 (aU _) ha).congr (fun k q1 q2=>hm.frm.2 k (by omega))
    ·have:a=p:=by omega
     subst this;rw[aB9 (by omega)];exact QI hm k3
   have HB:=hid hb;have hin:InR n h2:=HH.out.2.2.2.from (aA _) hm.frm;have HIN:=hid hin;have hg1':=dS hgr hg1;clear hb hm HH hdat hgr hin hg1;go_wp2_with fail
   go_loopg [6,7,8,9] (n-20) (fun gh s6 s7 s8 s9 wr=>∃(d:Nat) (h:Nat->Int),20<=d/\d<=2*n+20/\gh=n-d/\s6=.int .i64 d/\Dat wr g cap n h/\Hid (lD lt f h d 0 n n/\InR n h)/\w.grownBy wr (some g))
   case atStart=>exact⟨20,h2,aA _,by omega,rfl,rfl,hd1,hid ⟨HB.out,HIN.out⟩,hg1'⟩
   case round=>
    obtain⟨d,h,hq1,hq2,hg,rfl,hdat,HH,hgr⟩:=hrel;have HG2:=hid hg;clear hg hd1 hg1'
    by_cases hdn:d<n
    ·have t3:decide (d<n)=true:=by simpa using hdn
     obtain⟨wo,rfl⟩:∃wo:World,wo=wr:=⟨_,rfl⟩;go_wp2_with fail
     go_loopg [7,8] n (fun gh s7 s8 wr=>∃(p:Nat) (h:Nat->Int),p<=n/\gh=n-p/\s7=.int .i64 p/\s8=.int .i64 ((p+2*d:Nat):Int)/\Dat wr g cap n h/\
       Hid (2*d ∣ p/\lD lt f h (2*d) 0 p n/\lD lt f h d p n n/\InR n h)/\w.grownBy wr (some g))
     case atStart=>exact⟨0,h,aU _,rfl,rfl,by go_num,hdat,hid ⟨Nat.dvd_zero _,fun a _ _ h3=>by omega,HH.out.1,HH.out.2⟩,hgr⟩
     case round=>
      clear hdat HH hgr;obtain⟨p,h,hp,hg,rfl,rfl,hdat,HH,hgr⟩:=hrel;have HG3:=hid hg;clear hg
      by_cases hlt:p+2*d<=n
      ·have t1:decide (((p+2*d:Nat):Int)<=(n:Int))=true:=by simp;omega
       have t2:decide (p+2*d<=n)=true:=by simpa using hlt
       have hpre:=hid (aFb HR.out (by omega) HH.out.1 hlt HH.out.2.2.1);go_wp2_with fail;refine(QH g cap n bx klt lt hn HCAP.out C n p (p+d) (p+2*d) h _ (by omega) hdat hlt HH.out.2.2.2 hpre.out (HCM.out.later hgr)).mono ?_;rintro e w1 ⟨rfl,⟨h2,hm,hd1⟩,hg1⟩;have HM:=hid hm;clear hm;go_wp2_with fail;have hg:=HG3.out
       go_roundg (n-(p+2*d))
       case measure=>omega
       case rel=>
        obtain⟨k1,k2,k3,k4⟩:=HH.out;obtain⟨m1,m2⟩:=aFd (by omega) k1 hlt k2 k3 HM.out;exact⟨p+2*d,h2,hlt,rfl,by go_num,by go_num,hd1,hid ⟨GC k1 (GD _),m1,m2,k4.from hlt HM.out.frm⟩,dS hgr hg1⟩
      ·have t1:decide (((p+2*d:Nat):Int)<=(n:Int))=false:=by simp;omega
       have t2:decide (p+2*d<=n)=false:=by simpa using hlt
       by_cases hmn:p+d<n
       ·have t4:decide (p+d<n)=true:=by simpa using hmn
        have hpre:=hid (aFc HR.out (by omega) HH.out.1 hmn (by omega) HH.out.2.2.1);go_wp2_with fail;refine(QH g cap n bx klt lt hn HCAP.out C n p (p+d) n h _ (by omega) hdat (aA _) HH.out.2.2.2 hpre.out (HCM.out.later hgr)).mono ?_;rintro e w1 ⟨rfl,⟨h2,hm,hd1⟩,hg1⟩;have HM:=hid hm;clear hm;go_wp2_with fail;have hg:=HG2.out
        go_roundg (n-2*d)
        case measure=>omega
        case rel=>
         obtain⟨k1,k2,k3,k4⟩:=HH.out;exact⟨2*d,h2,by omega,by omega,rfl,by go_num,hd1,hid ⟨aFe (by omega) k1 hmn (by omega) k2 k3 HM.out,k4.from (aA _) HM.out.frm⟩,dS hgr hg1⟩
       ·have t4:decide (p+d<n)=false:=by simpa using hmn
        go_wp2_with fail;have hg:=HG2.out
        go_roundg (n-2*d)
        case measure=>omega
        case rel=>
         obtain⟨k1,k2,k3,k4⟩:=HH.out;exact⟨2*d,h,by omega,by omega,rfl,by go_num,hdat,hid ⟨aFf (by omega) k1 (by omega) k2 k3,k4⟩,hgr⟩
    ·have t3:decide (d<n)=false:=by simpa using hdn
     have hb:lS lt f h 0 n:=by
      rcases fJ n with h0|h0
      ·exact lS.empty (by omega)
      ·have:=HH.out.1 0 (Nat.dvd_zero _) (aU _) h0;rwa[show min (0+d) n=n by omega] at this
     have HB:=hid hb;clear hb;go_wp2_with fail
     go_end0
     exact⟨rfl,⟨h,HB.out,hdat⟩,hgr⟩
theorem aFh (g cap n bx:Nat) (f:Nat->Int) (klt:Int->Int->Bool) (lt:Int->Int->Prop) (w:World) (hd:Dat w g cap n f) (hn:n<=1000000) (hcap:cap<=maxLen)
  (hf:InR n f) (hr:vV f 0 n) (hc:pO w g n bx klt) (C:Cmp lt klt):
  Calls Tryz.prog 162 #[.slice (some ⟨g,0,none⟩) n cap,nE bx] w fun e w'=>
   e=.returned (.tuple #[])/\(∃h,lS lt f h 0 n/\Dat w' g cap n h)/\w.grownBy w' (some g):=by
 have hs:=aFg g cap n bx f klt lt w hd hn hcap hf hr hc C;unfold maxLen at hcap;unfold nE at hs ⊢;have HS:=hid hs;clear hs hc hr hf;go_enter Tryz.func162,Tryz.ntmps162;go_wp2_with fail;refine HS.out.mono ?_;rintro e w1 ⟨rfl,hx,hg⟩;go_wp2
 go_end0
 exact⟨rfl,hx,hg⟩
def pP (s:ByteArray) (b n M:Nat):Value:=.agg #[.string s,.slice (some ⟨b,0,none⟩) n n,.int .i64 (M:Int)]
theorem iI {B:Nat} {a b:World} (h:Below B a b) (n:Nat):Below B a (b.drewN n):=⟨h.os,h.tape,h.output,h.size,h.block⟩
def orI (p q:Int):Int:=if p=0 then q else p
theorem aF1 {p q:Int} (h:p≠0):orI p q=p:=if_neg h
theorem QY {p q:Int} (h:p=0):orI p q=q:=if_pos h
theorem aF2 (s:ByteArray) (b n M k:Nat) (r:Nat->Int) (w:World) (hs:s.size=n) (hn:n<=1000000) (hM:M<=4000000) (hk:k<n) (hr:Arr w b 3 (tab n r)):
  Calls Tryz.prog 166 #[pP s b n M,.int .i64 (k:Int)] w fun e w'=>e=.returned (.int .i64 (r ((k+M)%n)))/\Below w.heap.size w w':=by
 unfold pP;subst hs;have hpos:0<s.size:=by omega
 obtain⟨j,hj⟩:∃j,j=(k+M)%s.size:=⟨_,rfl⟩;have hjn:j<s.size:=by rw[hj];exact Nat.mod_lt _ hpos
 have ej:((k:Int)+(M:Int)).tmod (s.size:Int)=(j:Int):=by
  rw[hj,oJ (by omega),Int.natCast_emod,Int.natCast_add]
 have hc:=(hr.alloc (.cells #[.string s,.slice (some ⟨b,0,none⟩) s.size s.size,.int .i64 (M:Int)] 223)).cell (iS s.size r j hjn);have hz:((s.size:Int)==0)=false:=by rw[beq_eq_false_iff_ne];omega
 rw[<-hj];have HJ:=hid hj;clear hj;go_enter Tryz.func166,Tryz.ntmps166;go_wp2
 go_quiet (fail)
 go_wp2;go_ret;refine⟨rfl,?_⟩;exact iI (Below.alloc (aB _ _) (aA _) _) _
theorem aF3 (v:Value) (p q:Int) (w:World) (hr:RdI w v [p,q]):
  Calls Tryz.prog 164 #[v] w fun e w'=>e=.returned (.int .i64 (orI p q))/\w=w':=by
 obtain⟨a,cap,rfl,h1,h2,h3⟩:=hr.open;obtain⟨b,off,rfl,hlt,hc⟩:=h3 (by simp);have c0:=hc 0 p rfl;have c1:=hc 1 q rfl;rw[pH] at c0;clear hc h3 hr;simp only[cR,List.length_nil,Nat.zero_add,Nat.reduceAdd] at h1 ⊢;have HQ:=hid hlt;clear hlt;go_enter Tryz.func164,Tryz.ntmps164;go_wp2
 go_loopg [8,5] 2 (fun gh s8 s5 wr=>∃k:Nat,k<=2/\gh=2-k/\s8=.int .i64 k/\(1<=k->p=0)/\(2<=k->q=0)/\w=wr)
 case atStart=>exact⟨0,by omega,rfl,rfl,fun h=>by omega,fun h=>by omega,rfl⟩
 case round=>
  obtain⟨k,hk,hg,rfl,k1,k2,rfl⟩:=hrel;have HG:=hid hg;have K1:=hid k1;have K2:=hid k2;clear hg k1 k2;rcases bT k 1 with h|h
  ·have:k=0:=by omega
   subst this
   by_cases hp:p=0
   ·have t:(p != 0)=false:=by simp[hp]
    have HP:=hid hp;clear hp;go_wp2;have hg:=HG.out
    go_roundg 1
    case measure=>omega
    case rel=>exact⟨1,by omega,rfl,by go_num,fun _=>HP.out,fun h=>by omega,rfl⟩
   ·have t:(p != 0)=true:=by simp[hp]
    have HP:=hid hp;clear hp;go_wp2;go_ret;exact⟨fX (aF1 HP.out).symm,rfl⟩
  ·rcases bT k 2 with h'|h'
   ·have:k=1:=by omega
    subst this
    by_cases hp:q=0
    ·have t:(q != 0)=false:=by simp[hp]
     have HP:=hid hp;clear hp;go_wp2;have hg:=HG.out
     go_roundg 0
     case measure=>omega
     case rel=>exact⟨2,by omega,rfl,by go_num,fun _=>K1.out (by omega),fun _=>HP.out,rfl⟩
    ·have t:(q != 0)=true:=by simp[hp]
     have HP:=hid hp;clear hp;go_wp2;go_ret;exact⟨fX (QY (K1.out (by omega))).symm,rfl⟩
   ·have:k=2:=by omega
    subst this;go_wp2;go_ret;exact⟨fX ((QY (K1.out (by omega))).trans (K2.out (by omega))).symm,rfl⟩
theorem yL {w1 w2:World} {p1 p2 p3 p4 p5:Addr} {v1 v2 v3 v4 v5:Value} {B:Nat} {w0:World}
  (h:w1.cell? p1=some v1/\w1.cell? p2=some v2/\w1.cell? p3=some v3/\w1.cell? p4=some v4/\w1.cell? p5=some v5/\Below B w0 w1/\B<=w1.heap.size) (hb:Below w1.heap.size w1 w2):
  w2.cell? p1=some v1/\w2.cell? p2=some v2/\w2.cell? p3=some v3/\w2.cell? p4=some v4/\w2.cell? p5=some v5/\Below B w0 w2/\B<=w2.heap.size:=by
 obtain⟨h1,h2,h3,h4,h5,h6,h7⟩:=h;have k:∀{p:Addr} {v:Value},w1.cell? p=some v->w2.cell? p=some v:=fun{p} {v} hp=>(hb.cell (iO w1 p hp)).trans hp
 exact⟨k h1,k h2,k h3,k h4,k h5,h6.trans (hb.mono h7),aW h7 hb.size⟩
def rM (r:Nat->Int) (n M x y:Nat):Int:=orI (Lib.compareInt (r x) (r y)) (Lib.compareInt (r ((x+M)%n)) (r ((y+M)%n)))
theorem QZ (r:Nat->Int) (n M x y:Nat):rM r n M x y=yK r n M x y:=by
 unfold rM orI yK Lib.compareInt;generalize r x=p;generalize r y=q;generalize r ((x+M)%n)=s;generalize r ((y+M)%n)=t
 by_cases h1:p<q
 ·simp[h1]
 ·by_cases h2:q<p
  ·simp[h1,h2]
  ·simp[h1,h2]
theorem JH {w1 w0:World} {p1 p2 p3 p4 p5:Addr} {v1 v2 v3 v4 v5:Value} {b:Nat} {e:TypeId} {l:List Value} (ha:Arr w0 b e l) (hb:b<w0.heap.size)
  (h:w1.cell? p1=some v1/\w1.cell? p2=some v2/\w1.cell? p3=some v3/\w1.cell? p4=some v4/\w1.cell? p5=some v5/\Below w0.heap.size w0 w1/\w0.heap.size<=w1.heap.size):Arr w1 b e l:=
 ha.below h.2.2.2.2.2.1 hb
theorem RA {w w0 w1:World} {p1 p2 p3 p4 p5:Addr} {v1 v2 v3 v4 v5:Value} {q:Nat} (hb:Below q w w0)
  (h:w1.cell? p1=some v1/\w1.cell? p2=some v2/\w1.cell? p3=some v3/\w1.cell? p4=some v4/\w1.cell? p5=some v5/\Below w0.heap.size w0 w1/\w0.heap.size<=w1.heap.size) (hq:q<=w0.heap.size):Below q w w1:=
 hb.trans (h.2.2.2.2.2.1.mono hq)
theorem uM (w:World) (o:Obj):Below w.heap.size w (w.alloc o):=(aB _ _).alloc (aA _) _
theorem aF4 (x y:Int) (w:World):Calls Tryz.prog 165 #[.int .i64 x,.int .i64 y] w fun e w'=>e=.returned (.int .i64 (Lib.compareInt x y))/\w=w':=
 (Tryz.cmp_Compare_int x y w).mono fun _ _ h=>⟨h.1,h.2.symm⟩
theorem RB (s:ByteArray) (b n M x y:Nat) (r:Nat->Int) (w:World) (hs:s.size=n) (hn:n<=1000000) (hM:M<=4000000) (hx:x<n) (hy:y<n) (hr:Arr w b 3 (tab n r)):
  Calls Tryz.prog 144 #[pP s b n M,.int .i64 (x:Int),.int .i64 (y:Int)] w fun e w'=>e=.returned (.int .i64 (rM r n M x y))/\Below w.heap.size w w':=by
 have hat:∀(k:Nat) (w2:World),k<n->Arr w2 b 3 (tab n r)->Calls Tryz.prog 166 #[pP s b n M,.int .i64 (k:Int)] w2 fun e w'=>e=.returned (.int .i64 (r ((k+M)%n)))/\Below w2.heap.size w2 w':=
  fun k w2 hk h2=>aF2 s b n M k r w2 hs hn hM hk h2
 unfold pP at hat ⊢;have HAT:=hid hat;have HS:=hid hs;clear hat hs;have hbl:=hr.lt;have a0:=hr.alloc (.cells #[.string s,.slice (some ⟨b,0,none⟩) n n,.int .i64 (M:Int)] 223);have c4:=a0.cell (iS n r x hx);have c5:=a0.cell (iS n r y hy);have c1:(w.alloc (.cells #[.string s,.slice (some ⟨b,0,none⟩) n n,.int .i64 (M:Int)] 223)).cell? ⟨w.heap.size,0,none⟩=some (.string s):=FO _ _ _ _ rfl
 have c2:(w.alloc (.cells #[.string s,.slice (some ⟨b,0,none⟩) n n,.int .i64 (M:Int)] 223)).cell? ⟨w.heap.size,1,none⟩=some (.slice (some ⟨b,0,none⟩) n n):=FO _ _ _ _ rfl;have c3:(w.alloc (.cells #[.string s,.slice (some ⟨b,0,none⟩) n n,.int .i64 (M:Int)] 223)).cell? ⟨w.heap.size,2,none⟩=some (.int .i64 (M:Int)):=FO _ _ _ _ rfl;have hWb:Below w.heap.size w (w.alloc (.cells #[.string s,.slice (some ⟨b,0,none⟩) n n,.int .i64 (M:Int)] 223)):=(aB _ _).alloc (aA _) _;have hbW:=a0.lt;have hqW:=hWb.size;have HWB:=hid hWb;clear hWb hr
 have i1:(0:Int)<=(x:Int):=by omega
 have i2:(x:Int)<(n:Int):=by omega
 have i3:(0:Int)<=(y:Int):=by omega
 have i4:(y:Int)<(n:Int):=by omega
 go_enter Tryz.func144,Tryz.ntmps144;go_wp2;generalize w.alloc (.cells #[.string s,.slice (some ⟨b,0,none⟩) n n,.int .i64 (M:Int)] 223)=W at*
 have hS0:=yL ⟨c1,c2,c3,c4,c5,aB W.heap.size W,aA _⟩ (aB W.heap.size W).drew;clear c1 c2 c3 c4 c5
 go_region_held3 (fun w'=>w'.cell? ⟨w.heap.size,0,none⟩=some (.string s)/\w'.cell? ⟨w.heap.size,1,none⟩=some (.slice (some ⟨b,0,none⟩) n n)/\w'.cell? ⟨w.heap.size,2,none⟩=some (.int .i64 (M:Int))/\
   w'.cell? ⟨b,x,none⟩=some (.int .i64 (r x))/\w'.cell? ⟨b,y,none⟩=some (.int .i64 (r y))/\Below W.heap.size W w'/\W.heap.size<=w'.heap.size)
  (first
   |with_reducible assumption
   |with_reducible exact yL (by assumption) (by assumption)
   |with_reducible exact yL (by assumption) (uM _ _))
  (first
   |(go_at_call 165;refine(aF4 _ _ _).mono ?_;rintro e w' ⟨rfl,rfl⟩)
   |(go_at_call_of 166 (bO .i64 (x:Int));refine(HAT.out x _ hx (JH a0 hbW (by assumption))).mono ?_;rintro e w' ⟨rfl,hb⟩)
   |(go_at_call_of 166 (bO .i64 (y:Int));refine(HAT.out y _ hy (JH a0 hbW (by assumption))).mono ?_;rintro e w' ⟨rfl,hb⟩)
   |(go_at_call 164;refine(aF3 _ _ _ _ (xY _ _ [_,_] 2 rfl (by decide))).mono ?_;rintro e w' ⟨rfl,rfl⟩))
 all_goals go_wp2
 all_goals go_ret
 all_goals exact⟨rfl,RA HWB.out (by assumption) hqW⟩
def qJ (s:ByteArray) (b n M:Nat):Value:=.iface 223 (pP s b n M)
theorem aF5 (s:ByteArray) (b bx n M x y:Nat) (r:Nat->Int) (w:World) (hs:s.size=n) (hn:n<=1000000) (hM:M<=4000000) (hx:x<n) (hy:y<n) (hr:Arr w b 3 (tab n r)) (hb:w.cell? ⟨bx,0,none⟩=some (qJ s b n M)):
  Calls Tryz.prog 163 #[.int .i64 (x:Int),.int .i64 (y:Int),.pointer (some ⟨bx,0,none⟩)] w fun e w'=>e=.returned (.int .i64 (rM r n M x y))/\Below w.heap.size w w':=by
 have hcmp:=RB s b n M x y r w hs hn hM hx hy hr;unfold qJ at hb;unfold pP at hcmp hb;have HC:=hid hcmp;clear hcmp hs hr;go_enter Tryz.func163,Tryz.ntmps163;go_wp2_with fail;refine HC.out.mono ?_;rintro e w1 ⟨rfl,hbl⟩;go_wp2;go_ret;exact⟨rfl,hbl⟩
end
section
open Go.RowKit Go.Shelf
def RC (w0:World) (g:Nat) (caps:Array Value) (p:Int->Bool) (l:List Int):Prop:=
 ∀W,Below w0.heap.size w0 W->∀x∈l,Calls Tryz.prog g (#[bO .i64 x]++caps) W fun e W'=>e=.returned (.bool (p x))/\W'=W
theorem RD (g:Nat) (caps:Array Value) (p:Int->Bool) (v:Value) (l:List Int) (w:World) (hr:RdI w v l) (hg:Enters Tryz.prog g) (hp:RC w g caps p l):
  Calls Tryz.prog 136 #[v,.func (.func g) #[] caps] w fun e w'=>e=.returned (.int .i64 (fP p l))/\w'=w:=by
 obtain⟨a,ca,rfl,hca,hma,hA⟩:=hr.open;unfold maxLen at hma;clear hr;have HP:=hid hp;have hE:∀args W,(callFunc g args).run Tryz.prog W=.ok (.enter g args) W:=hg;clear hp hg;go_enter Tryz.func136,Tryz.ntmps136;go_wp2_with fail
 go_loopg [8] l.length (fun gh s8 wr=>∃k:Nat,k<=l.length/\gh=l.length-k/\s8=.int .i64 k/\Hid (∀x∈l.take k,p x=false)/\wr=w)
 case atStart=>exact⟨0,aU _,rfl,rfl,hid (fun x hx=>by simp at hx),rfl⟩
 case round=>
  obtain⟨k,hk,hg,rfl,HT,rfl⟩:=hrel;have HG:=hid hg;clear hg
  by_cases hlt:k<l.length
  ·obtain⟨b1,o1,rfl,hb1,hc1⟩:=hA (by omega);obtain⟨x,hx⟩:=dH hlt;have c1:=hc1 k x hx;have hmem:x∈l:=List.mem_of_getElem? hx;have HX:=hid hx;have hP:=HP.out _ (aB _ wr) x hmem;clear hc1 hx hA;go_wp2_with fail;refine hP.mono ?_;rintro e w1 ⟨rfl,rfl⟩
   by_cases hpx:p x=true
   ·rw[hpx];go_wp2_with fail;go_ret;refine⟨fX ?_,rfl⟩;rw[BR HT.out hlt (by have:=HX.out;rw[aN hlt] at this;rw[bW this];exact hpx)]
   ·have hpf:p x=false:=by simpa using hpx
    rw[hpf];go_wp2_with fail;have hg:=HG.out
    go_roundg (l.length-(k+1))
    case measure=>omega
    case rel=>
     refine⟨k+1,by omega,rfl,by go_num,hid (fun y hy=>?_),rfl⟩;rw[cQ,HX.out] at hy;rcases List.mem_append.1 hy with hy|hy
     ·exact HT.out y hy
     ·simp at hy;rw[hy];exact hpf
  ·go_wp2_with fail;go_ret;exact⟨fX (by rw[oN];have:=HT.out;rwa[cS (by omega)] at this),rfl⟩
theorem uN (g:Nat) (caps:Array Value) (p:Int->Bool) (v:Value) (l:List Int) (w:World) (hr:RdI w v l) (hg:Enters Tryz.prog g) (hp:RC w g caps p l):
  Calls Tryz.prog 105 #[v,.func (.func g) #[] caps] w fun e w'=>e=.returned (.bool (decide (0<=fP p l)))/\w'=w:=by
 have HI:=hid (RD g caps p v l w hr hg hp);obtain⟨i,hi⟩:∃i,i=fP p l:=⟨_,rfl⟩;rw[<-hi] at HI ⊢;clear hr hg hp hi;go_enter Tryz.func105,Tryz.ntmps105;go_wp2_with fail;refine HI.out.mono ?_;rintro e w1 ⟨rfl,rfl⟩;go_wp2_with fail;go_ret;exact⟨rfl,rfl⟩
theorem aF6 (x:Int) (w:World):Calls Tryz.prog 147 #[.int .i64 x] w fun e w'=>e=.returned (.bool (decide (x<0)))/\w'=w:=by
 go_enter Tryz.func147,Tryz.ntmps147;go_wp2;go_ret;exact⟨rfl,rfl⟩
theorem aF7 (x:Int) (w:World):Calls Tryz.prog 127 #[.int .i64 x] w fun e w'=>e=.returned (.bool (decide (1099511627776<x)))/\w'=w:=by
 go_enter Tryz.func127,Tryz.ntmps127;go_wp2;go_ret;exact⟨rfl,rfl⟩
theorem aF8 (x t:Int) (b:Addr) (w:World) (hc:w.cell? b=some (.int .i64 t)):Calls Tryz.prog 148 #[.int .i64 x,.pointer (some b)] w fun e w'=>e=.returned (.bool (decide (t<x)))/\w'=w:=by
 go_enter Tryz.func148,Tryz.ntmps148;go_wp2;go_ret;exact⟨rfl,rfl⟩
theorem aF9 (x:Int) (w:World):Calls Tryz.prog 233 #[.int .i64 x] w fun e w'=>e=.returned (.bool (!(x==0)&& !(x==1)))/\w'=w:=by
 by_cases h0:x=0
 ·subst h0;go_enter Tryz.func233,Tryz.ntmps233;go_wp2;go_ret;exact⟨rfl,rfl⟩
 ·have t0:(x != 0)=true:=by rw[bne_iff_ne];exact h0
  by_cases h1:x=1
  ·subst h1;go_enter Tryz.func233,Tryz.ntmps233;go_wp2;go_ret;exact⟨rfl,rfl⟩
  ·have t1:(x != 1)=true:=by rw[bne_iff_ne];exact h1
   go_enter Tryz.func233,Tryz.ntmps233;go_wp2;go_ret;exact⟨sN (by simp[h0,h1]),rfl⟩
theorem JI (v:Value) (l:List Int) (w:World) (hr:RdI w v l):
  Calls Tryz.prog 126 #[v] w fun e w'=>e=.returned (.bool (decide (0<=fP (fun x=>decide (x<0)) l)))/\w'=w:=by
 have HI:=hid (uN 147 #[] (fun x=>decide (x<0)) v l w hr (enters_of Tryz.func147 (by kernel_rfl) rfl) (fun W _ x _=>aF6 x W));obtain⟨i,hi⟩:∃i,i=decide (0<=fP (fun x=>decide (x<0)) l):=⟨_,rfl⟩;rw[<-hi] at HI ⊢;clear hi hr;go_enter Tryz.func126,Tryz.ntmps126;go_wp2_with fail;refine HI.out.mono ?_;rintro e w1 ⟨rfl,rfl⟩;go_wp2_with fail;go_ret;exact⟨rfl,rfl⟩
def eY (t:Int) (l:List Int):Nat:=l.findIdx (fun x=>decide (t<x))
theorem aGa (t:Int):∀l:List Int,(if fP (fun x=>decide (t<x)) l<0 then(l.length:Int) else fP (fun x=>decide (t<x)) l)=(eY t l:Int):=by
 intro l
 induction l with
 |nil=>rfl
 |cons x l ih=>
  unfold eY at ih ⊢;rw[fP,List.findIdx_cons]
  by_cases hx:t<x
  ·simp[hx]
  ·simp only[hx,decide_false,Bool.false_eq_true,if_false,cond_false];obtain⟨h1,_,_⟩:=BQ (fun x=>decide (t<x)) l
   by_cases h:fP (fun x=>decide (t<x)) l<0
   ·rw[if_pos h] at ih;rw[if_pos h,if_pos (by omega),cR];omega
   ·rw[if_neg h] at ih;rw[if_neg h,if_neg (by omega),ih];omega
theorem vX (t:Int) (l:List Int):eY t l<=l.length:=List.findIdx_le_length
theorem yM (t:Int) (l:List Int):∀x∈l.take (eY t l),¬t<x:=by
 intro x hx;obtain⟨i,hi,rfl⟩:=List.mem_iff_getElem.1 hx;rw[aX] at hi;rw[List.getElem_take];have:=List.not_of_lt_findIdx (p:=fun x=>decide (t<x)) (xs:=l) (i:=i) (by unfold eY at hi;omega)
 simpa using this
theorem vY (t:Int) (l:List Int) {x:Int} (h:l[eY t l]? =some x):t<x:=by
 obtain⟨hl,hx⟩:=eU.1 h;have:=List.findIdx_getElem (p:=fun x=>decide (t<x)) (w:=hl);have h2:decide (t<l[eY t l])=true:=this;rw[hx] at h2
 simpa using h2
theorem RF (v:Value) (l:List Int) (t:Int) (w:World) (hr:RdI w v l):
  Calls Tryz.prog 129 #[v,.int .i64 t] w fun e w'=>e=.returned (.int .i64 ((eY t l:Nat):Int))/\Below w.heap.size w w':=by
 have hli:=aGa t l;have HI:=hid (RD 148 #[.pointer (some ⟨w.heap.size,0,none⟩)] (fun x=>decide (t<x)) v l (w.alloc (.cells #[.int .i64 t] 3)) (hr.below ((aB _ _).alloc (aA _) _)) (enters_of Tryz.func148 (by kernel_rfl) rfl)
  (fun W hW x _=>aF8 x t ⟨w.heap.size,0,none⟩ W (by rw[hW.cell (p:=⟨w.heap.size,0,none⟩) (by simp)];exact bS _ _ _)))
 obtain⟨a,ca,rfl,hca,hma,hA⟩:=hr.open;obtain⟨i,hi⟩:∃i,i=fP (fun x=>decide (t<x)) l:=⟨_,rfl⟩;rw[<-hi] at HI hli;have HL:=hid hli;clear hi hA hr hli;unfold maxLen at hma;go_enter Tryz.func129,Tryz.ntmps129;go_wp2_with fail;refine HI.out.mono ?_;rintro e w1 ⟨rfl,rfl⟩
 by_cases h:i<0
 ·go_wp2_with fail;go_ret;refine⟨fX ?_,(aB _ _).alloc (aA _) _⟩;have:=HL.out;rwa[if_pos h] at this
 ·go_wp2_with fail;go_ret;refine⟨fX ?_,(aB _ _).alloc (aA _) _⟩;have:=HL.out;rwa[if_neg (by omega)] at this
end
section
open Go.RowKit
theorem yZ {ops:Array Oper} {rest:List Oper} {o:Oper} {a:Act} {Q:Exit->Act->World->Prop} {w:World} (hgd:o.guard=none) (s x:iM)
  (ho:o.op=.call {callee:=.builtin .append,args:=#[s,x],argTypes:=#[75,75]}) (base:Nat) (v:Value) (l:List UInt8) (hs:a.eval s=v) (hown:OwB w base v l)
  (g:Nat) (b:UInt8) (hx:a.eval x=.slice (some ⟨g,0,none⟩) 1 1) (hc:w.cell? ⟨g,0,none⟩=some (.int .u8 (b.toNat:Int))) (hroom:(l.length+1)*1<=140737488355328) (hbase:base<=w.heap.size)
  (h:∀v' w',OwB w' base v' (l++[b])->Below base w w'->w.grownBy w' v.ownBlock->wpList Tryz.prog ops Q rest (a.put o.dst v') w'):wpList Tryz.prog ops Q (o::rest) a w:=
 rD vQ hgd s x ho base v _ hs hown g _ hx hc rfl (by simpa using hroom) hbase (fun v' w' q1 q2 q3=>h v' w' (by unfold OwB;rw[IC];exact q1) q2 q3)
def oT (s:List UInt8) (k c:Nat):Bool:=dB (s.take k) c
theorem UP (s:List UInt8) (k:Nat) (b:UInt8) (h:s[k]? =some b) (c:Nat):oT s (k+1) c=if c=b.toNat then true else oT s k c:=by
 unfold oT dB;rw[cQ,h,Option.toList_some,List.any_append]
 by_cases e:c=b.toNat
 ·rw[if_pos e,e];simp
 ·rw[if_neg e];have:(b.toNat==c)=false:=by rw[beq_eq_false_iff_ne];exact fun h=>e h.symm
  simp[this]
def eS (f:Nat->Bool):List Value:=(dG 256).map fun c=>.bool (f c)
theorem zA (f:Nat->Bool) (c:Nat) (h:c<256):(eS f)[c]? =some (.bool (f c)):=by simp[eS,h]
theorem aJe (f f':Nat->Bool) (c:Nat) (v:Bool) (h:∀d,f' d=if d=c then v else f d):(eS f).set c (.bool v)=eS f':=by
 apply jA;intro j
 by_cases hj:j<256
 ·by_cases e:c=j
  ·subst e;simp[eS,hj,h]
  ·rw[qU e,zA f j hj,zA f' j hj,h,if_neg (fun h=>e h.symm)]
 ·rw[dL (by simp[eS];omega),dL (by simp[eS];omega)]
theorem UQ:Tryz.zeroCells162=(eS (fun _=>false)).toArray:=by kernel_rfl
theorem KX (f:Nat->Bool):(eS f).toArray.size=256:=by simp[eS]
theorem wN (f:Nat->Bool):(Tryz.prog.info? 162).map (·.size)=some (eS f).toArray.size:=by rw[KX];kernel_rfl
theorem uW:Tryz.prog.underlying 162=some (.array 256 4):=by kernel_rfl
theorem UR {w:World} {b:Nat} {e:TypeId} {l:List Value} (h:Arr w b e l) (hl:l.length=256) (f:Nat->Bool):
  (storeCells ⟨b,0,none⟩ (eS f)).run Tryz.prog w=.ok () (w.setRow b (eS f).toArray):=by
 have h1:(eS f).length=256:=by simp[eS]
 have h2:=run_storeCells_from (P:=Tryz.prog) b e (eS f) 0 l.toArray w h (by simp[hl,h1]) (fun v hv=>by obtain⟨c,_,rfl⟩:=dU.1 hv;rfl);rw[h2]
 congr 2
theorem zB {B:Nat} {w w':World} (h:Below B w w') (g:Nat) (hg:B<=g) (cs:Array Value):Below B w (w'.setRow g cs):=
 ⟨h.os,h.tape,h.output,by rw[size_setRow];exact h.size,fun k hk=>(setRow_other w' g k cs (by omega)).trans (h.block k hk)⟩
theorem US (s:ByteArray) (w:World) (hs:s.size<=140737488355328):
  Calls Tryz.prog 102 #[.string s] w fun e w'=>e=.returned (.agg (eS (dB s.data.toList)).toArray)/\Below w.heap.size w w':=by
 have HL:=hid (show s.data.toList.length=s.size by simp);go_enter Tryz.func102,Tryz.ntmps102;go_wp2_with fail
 go_loopg [3,6] s.size (fun gh _s3 s6 wr=>∃k:Nat,k<=s.size/\gh=s.size-k/\s6=.int .i64 k/\Arr wr w.heap.size 162 (eS (oT s.data.toList k))/\Below w.heap.size w wr)
 case atStart=>
  refine⟨0,aU _,rfl,rfl,?_,(aB _ _).alloc (aA _) _⟩;rw[UQ,show oT s.data.toList 0=fun _=>false from by funext c;simp[oT,dB]];exact Arr.new w _ _
 case round=>
 obtain⟨k,hk,hg,rfl,harr,hbel⟩:=hrel;have HG:=hid hg;clear hg
 by_cases hlt:k<s.size
 ·have hb:=s[k].toNat_lt;have c1:=harr.cell (zA (oT s.data.toList k) s[k].toNat hb);have f1:=harr.free s[k].toNat;have HS:=hid (UP s.data.toList k s[k] (eW s k hlt));go_wp2_with fail;have hg:=HG.out
  go_roundg (s.size-(k+1))
  case measure=>omega
  case rel=>
   refine⟨k+1,by omega,rfl,by go_num,?_,hbel.setCell (p:=⟨w.heap.size,s[k].toNat,none⟩) (aA _) _⟩;have:=harr.set s[k].toNat (.bool true);rwa[aJe _ (oT s.data.toList (k+1)) _ true HS.out] at this
 ·have hke:k=s.size:=by omega
  subst hke;have hfin:oT s.data.toList s.size=dB s.data.toList:=by funext c;unfold oT;rw[cS (by rw[HL.out];exact aA _)]
  rw[hfin] at harr;clear hfin;go_wp2_with fail;refine wp_load_row 162 (.tmp 2) rfl w.heap.size rfl _ _ (0,0) (.array 256 4) harr uW rfl (wN _) ?_;have hst:=UR harr (by simp[eS]) (dB s.data.toList);go_wp2_with fail;have harr2:Arr (wr.setRow w.heap.size (eS (dB s.data.toList)).toArray) w.heap.size 162 (eS (dB s.data.toList)):=setRow_heap wr w.heap.size _ _ 162 (0,0) harr;refine bodyPost_ret (results_cell_row rfl _ _ w.heap.size _ _ (0,0) (.array 256 4) rfl harr2 uW rfl (wN _)) rfl ?_;exact⟨rfl,zB hbel _ (aA _) _⟩
theorem aJf (cs:Array Value) (k:Nat) (hk:k<256) (b:Bool) (h:cs[k]? =some (.bool b)) (w:World):(tV 162 (.agg cs) (.int .i64 (k:Int))).run Tryz.prog w=.ok (.bool b) w:=by
 have hk':(k:Int)<256:=by omega
 simp[tV,sI uW,asIntOf,hk,part,isAgg,sI Tryz.underlying4,h,jB]
theorem UT {c:Nat} (h:c<256):(eK c).toNat=c:=by rw[UInt8.toNat_ofNat'];omega
theorem KY (s:ByteArray) (w:World) (hs:s.size<=140737488355328):
  Calls Tryz.prog 93 #[.string s] w fun e w'=>e=.returned (.string (mkS (bK s.data.toList)))/\Below w.heap.size w w':=by
 go_enter Tryz.func93,Tryz.ntmps93;go_wp2_with fail;refine(US s _ hs).mono ?_;rintro e w1 ⟨rfl,h1⟩;obtain⟨cs,hcs⟩:∃cs,cs=(eS (dB s.data.toList)).toArray:=⟨_,rfl⟩;rw[<-hcs];have hsz:cs.size=256:=by rw[hcs];exact KX _
 have hget:∀c,c<256->cs[c]? =some (.bool (dB s.data.toList c)):=fun c hc=>by rw[hcs];simpa using zA (dB s.data.toList) c hc
 have HGET:=hid hget;clear hcs hget;go_wp2_with fail
 go_loopg [3,4,5,8] 256 (fun gh s3 _s4 _s5 s8 wr=>∃k:Nat,k<=256/\gh=256-k/\s8=.int .i64 k/\OwB wr w1.heap.size s3 (jH s.data.toList k)/\Below w1.heap.size w1 wr)
 case atStart=>exact⟨0,by omega,rfl,rfl,Ow.nil _ _ _,aB _ _⟩
 case round=>
 obtain⟨k,hk,hg,rfl,hown,hbel⟩:=hrel;have HG:=hid hg;clear hg
 by_cases hlt:k<256
 ·have t1:decide ((k:Int)<256)=true:=decide_eq_true (by omega);have t2:(k:Int)<256:=by omega
  have g1:=HGET.out k hlt;have ix:(tV 162 (.agg cs) (.int .i64 (k:Int))).run Tryz.prog wr=.ok (.bool (dB s.data.toList k)) wr:=aJf cs k hlt _ g1 wr;have g2:IntKind.u8.wrap (k:Int)=(k:Int):=by unfold IntKind.wrap;simp[IntKind.signed,IntKind.bits];omega
  have hlen:=PI s.data.toList k;have hbs:=hbel.size;have hsucc:=hid (IK s.data.toList k);have e1:((eK k).toNat:Int)=(k:Int):=by rw[UT hlt]
  by_cases hh:dB s.data.toList k=true
  ·rw[hh] at ix;have HH:=hid hh;clear hh;go_wp2_with (at_builtin;refine yZ rfl _ _ rfl w1.heap.size _ _ rfl (hown.alloc _) wr.heap.size (eK k) rfl ?_ ?_ ?_ ?_;(rw[e1];exact bS _ _ _);omega;(simp;omega);intro v' w3 hown' hB hgrow);have hg:=HG.out
   go_roundg (256-(k+1))
   case measure=>omega
   case rel=>
    refine⟨k+1,by omega,rfl,by go_num,?_,(hbel.alloc hbs _).trans hB⟩;have:=hsucc.out;rw[if_pos HH.out] at this;rw[this];exact hown'
  ·have hf:dB s.data.toList k=false:=by simpa using hh
   rw[hf] at ix;have HH:=hid hf;clear hh hf;go_wp2_with fail;have hg:=HG.out
   go_roundg (256-(k+1))
   case measure=>omega
   case rel=>
    refine⟨k+1,by omega,rfl,by go_num,?_,hbel⟩;have:=hsucc.out;rw[if_neg (by rw[HH.out];exact Bool.false_ne_true),eE] at this;rw[this];exact hown
 ·have hke:k=256:=by omega
  subst hke;have hcv:=lQ hown.rd;have HE:=hid (show jH s.data.toList 256=bK s.data.toList from rfl);go_wp2_with fail;go_ret;exact⟨tY (by rw[HE.out]),bV h1 hbel⟩
def ByA (w:World) (g:Nat) (l:List UInt8):Prop:=g<w.heap.size/\(∀j b,l[j]? =some b->w.cell? ⟨g,j,none⟩=some (.int .u8 (b.toNat:Int)))/\∀j,j<l.length->w.frozen? ⟨g,j,none⟩=false
theorem ByA.kept {w w':World} {g:Nat} {l:List UInt8} {row:Option Nat} (h:ByA w g l) (hg:w.grownBy w' row) (hne:some g≠row):ByA w' g l:=
 ⟨dR h.1 hg.size,fun j b hj=>by rw[oK (hg.block g h.1 hne)];exact h.2.1 j b hj,fun j hj=>by rw[World.frozen?_of_block (hg.block g h.1 hne)];exact h.2.2 j hj⟩
theorem ByA.below {w w':World} {B g:Nat} {l:List UInt8} (h:ByA w g l) (hb:Below B w w') (hg:g<B):ByA w' g l:=
 ⟨dR h.1 hb.size,fun j b hj=>by rw[hb.cell (p:=⟨g,j,none⟩) hg];exact h.2.1 j b hj,fun j hj=>by rw[hb.frozen (p:=⟨g,j,none⟩) hg];exact h.2.2 j hj⟩
theorem ByA.set {w:World} {g:Nat} {l:List UInt8} (h:ByA w g l) (i:Nat) (b:UInt8):ByA (w.setCell ⟨g,i,none⟩ (.int .u8 (b.toNat:Int))) g (l.set i b):=by
 refine⟨by simpa using h.1,fun j c hj=>?_,fun j hj=>by rw[World.frozen?_setCell];exact h.2.2 j (by simpa using hj)⟩;obtain⟨hl,hc⟩:=eU.1 hj;rw[List.length_set] at hl
 by_cases e:i=j
 ·subst e;rw[List.getElem_set_self] at hc;subst hc;exact World.cell?_setCell_same _ _ _ (h.2.1 i _ (aN hl))
 ·rw[World.cell?_setCell_other _ _ _ _ (fun e'=>e (by have:=congrArg Addr.off e';simpa using this))];refine h.2.1 j c ?_;rw[<-hj,qU e]
theorem WI:(Tryz.prog.info? 5).map (·.size)=some 1:=by kernel_rfl
theorem WJ {ops:Array Oper} {rest:List Oper} {o:Oper} {a:Act} {Q:Exit->Act->World->Prop} {w:World} (hgd:o.guard=none) (d s:iM)
  (ho:o.op=.call {callee:=.builtin .copy,args:=#[d,s],argTypes:=#[75,75]}) (g:Nat) (l:List UInt8) (i:Nat) (hA:ByA w g l) (hi:i<l.length)
  (dp:Option Addr) (dLen dCap sCap:Nat) (hd:a.eval d=.slice dp dLen dCap) (hs:a.eval s=.slice (some ⟨g,0,none⟩) i sCap) (hdl:dLen=l.length-1) (hdp:1<l.length->dp=some ⟨g,1,none⟩)
  (h:∀w',ByA w' g (l.take 1++l.take i++l.drop (i+1))->w.grownBy w' (some g)->wpList Tryz.prog ops Q rest (a.put o.dst (goInt i)) w'):
  wpList Tryz.prog ops Q (o::rest) a w:=by
 refine AD hgd fun K hK=>?_
 replace h:=fun w' q1 q2=>hK _ _ (h w' q1 q2)
 rcases fJ i with h0|h0
 ·subst h0;have hrun:=run_copy_none (P:=Tryz.prog) w 75 75 o.type 5 dp (some ⟨g,0,none⟩) dLen dCap 0 sCap Tryz.underlying75 WI (Nat.zero_min _);unfold lX;simp[execOp,ho,resolve,invoke,builtin,hd,hs,hrun,jB];refine h w ?_ ⟨rfl,rfl,rfl,aA _,fun _ _ _=>rfl⟩;rw[List.take_zero,eE,List.take_append_drop];exact hA
 ·have hdp':=hdp (by omega);subst hdp';have hl1:(l.take i).length=i:=by rw[aX];omega
  have hrun:=run_copy_cells (P:=Tryz.prog) w 75 75 o.type 5 g 1 dLen dCap ⟨g,0,none⟩ i sCap (eO (l.take i)) Tryz.underlying75 WI (by rw[rE,hl1];exact(gU (by omega)).symm)
   (fun j v hj=>by
    unfold eO at hj;rw[dY] at hj
    cases hn:(l.take i)[j]? with
    |none=>rw[hn] at hj;simp at hj
    |some b=>
     rw[hn] at hj;simp at hj;subst hj;have e:(⟨g,0,none⟩:Addr).add j=⟨g,j,none⟩:=by unfold iN;split<;>simp_all
     rw[e];have hj':j<i:=by have:=(eU.1 hn).1;omega
     rw[mB hj'] at hn;exact hA.2.1 j b hn)
   (fun j hj=>by
    rw[rE,hl1] at hj;rw[hA.2.1 (1+j) _ (aN (by omega))];rfl)
   (fun j hj=>by rw[rE,hl1] at hj;exact hA.2.2 (1+j) (by omega))
   (fun v hv=>by obtain⟨b,_,rfl⟩:=dU.1 hv;rfl)
  rw[rE,hl1] at hrun;unfold lX;simp[execOp,ho,resolve,invoke,builtin,hd,hs,hrun,jB];have hsz:∀(vs:List Value) (o:Nat) (w:World),w.grownBy (w.setCells g o vs) (some g):=by
   intro vs
   induction vs with
   |nil=>intro o w;exact⟨rfl,rfl,rfl,aA _,fun _ _ _=>rfl⟩
   |cons v vs ih=>
    intro o w;have h2:=ih (o+1) (w.setCell ⟨g,o,none⟩ v);refine⟨h2.os,h2.tape,h2.output,aW (by simp) h2.size,fun k hk hne=>?_⟩;rw[World.setCells,h2.block k (by simpa using hk) hne];exact kT _ _ _ _ (fun e=>hne (by rw[e]))
  have hlen:(l.take 1++l.take i++l.drop (i+1)).length=l.length:=by simp only[aL,aX,cI];omega
  refine h _ ⟨dR hA.1 (hsz _ _ _).size,fun j b hj=>?_,fun j hj=>?_⟩ (hsz _ _ _)
  ·rcases fJ j with j0|j0
   ·subst j0;rw[aTi g _ _ _ _ (fun _ _=>.inl (by simp))];refine hA.2.1 0 b ?_;rw[<-hj,cF,gS (by rw[aX];omega),mB (by omega)]
   ·rcases bT j (i+1) with q|q
    ·have hjl:j-1<(eO (l.take i)).length:=by rw[rE,hl1];omega
     have hin:=World.cell?_setCells_in g (eO (l.take i)) 1 w (fun k hk=>by
      rw[rE,hl1] at hk;rw[hA.2.1 (1+k) _ (aN (by omega))];rfl) (j-1) hjl
     rw[show 1+(j-1)=j by omega] at hin;rw[hin];have e:(l.take i)[j-1]? =some b:=by
      rw[<-hj,cF,jY (by rw[aX];omega),aX,show min 1 l.length=1 by omega,gS (by rw[hl1];omega)]
     have:=BH e;rw[aN hjl] at this;exact this
    ·rw[aTi g _ _ _ _ (fun _ _=>.inr (by rw[rE,hl1];simp;omega))];refine hA.2.1 j b ?_;have e3:i+1+(j-(l.take 1++l.take i).length)=j:=by simp only[aL,aX];omega
     rw[<-hj,jY (by simp only[aL,aX];omega),gR,e3]
  ·rw[World.frozen?_setCells];rw[hlen] at hj;exact hA.2.2 j hj
theorem aKu {l:List UInt8} {i:Nat} (hi:i<l.length):eF l i=l[i]::(l.take i++l.drop (i+1)):=by
 have e:(l.drop i).take 1=[l[i]]:=by rw[List.drop_eq_getElem_cons hi];rfl
 unfold eF;rw[e];simp
theorem WK {l:List UInt8} {i:Nat} (hi:i<l.length):(l.take 1++l.take i++l.drop (i+1)).set 0 l[i]=eF l i:=by
 rw[aKu hi]
 cases l with
 |nil=>simp at hi
 |cons b l=>simp
theorem nK {w w':World} {g:Nat} (h:w.grownBy w' (some g)) (k:Nat) (v:Value):w.grownBy (w'.setCell ⟨g,k,none⟩ v) (some g):=
 ⟨h.os,h.tape,h.output,by simpa using h.size,fun i hi hne=>(kT _ _ _ _ (fun e=>hne (by rw[e]))).trans (h.block i hi hne)⟩
theorem WL {w0 w:World} {g n cap bx:Nat} {l:List UInt8} (h:w.cell? ⟨bx,0,none⟩=some (.slice (some ⟨g,0,none⟩) n cap)/\ByA w g l/\w0.grownBy w (some g)):w.drew.cell? ⟨bx,0,none⟩=some (.slice (some ⟨g,0,none⟩) n cap)/\ByA w.drew g l/\w0.grownBy w.drew (some g):=
 ⟨h.1,h.2.1,nC h.2.2⟩
theorem WM (g cap i:Nat) (l:List UInt8) (w:World) (hA:ByA w g l) (hi:i<l.length) (hl:l.length<=1000) (hcap:l.length<=cap) (hcm:cap<=maxLen):
  Calls Tryz.prog 168 #[.agg #[.slice (some ⟨g,0,none⟩) l.length cap],.int .i64 (i:Int)] w fun e w'=>e=.returned (.int .u8 (l[i].toNat:Int))/\ByA w' g (eF l i)/\w.grownBy w' (some g):=by
 unfold maxLen at hcm;obtain⟨b,hb⟩:∃b,b=l[i]:=⟨_,rfl⟩;have HB:=hid hb;have c1:=hA.2.1 i b (by rw[hb];exact aN hi);rw[<-hb];have hgl:=hA.1;have hA1:ByA (w.alloc (.cells #[.slice (some ⟨g,0,none⟩) l.length cap] 199)) g l:=hA.kept (row:=none) (AV _ _ _) (by simp);have hG1:w.grownBy (w.alloc (.cells #[.slice (some ⟨g,0,none⟩) l.length cap] 199)) (some g):=AV _ _ _;have hC1:=bS w (.slice (some ⟨g,0,none⟩) l.length cap) 199;have hB1:w.heap.size<(w.alloc (.cells #[.slice (some ⟨g,0,none⟩) l.length cap] 199)).heap.size:=by simp
 have hle1:1<=l.length:=by omega
 have hle2:1<=cap:=by omega
 have hbt:=b.toNat_lt;clear hb;go_enter Tryz.func168,Tryz.ntmps168;have b1:i<=cap:=by omega
 have b2:(i:Int)<=(cap:Int):=by omega
 have b3:(1:Int)<=(l.length:Int):=by omega
 have b4:(1:Int)<=(cap:Int):=by omega
 go_upto_region 2 with fail;generalize w.alloc (.cells #[.slice (some ⟨g,0,none⟩) l.length cap] 199)=w1 at*
 by_cases hc1:cap=1
 ·subst hc1;have hl1:l.length=1:=by omega
  have hi0:i=0:=by omega
  subst hi0
  go_still_tail 7,(by kernel_rfl)
  change wpList _ _ _ _ _ w1.drew;obtain⟨hC2,hA2,hG2⟩:=WL ⟨hC1,hA1,hG1⟩
  replace hB1:w.heap.size<w1.drew.heap.size:=hB1
  clear hC1 hA1 hG1;generalize w1.drew=w2 at*
  refine WJ rfl _ _ rfl g l 0 hA2 hi _ _ _ _ rfl rfl (by omega) (fun h1=>?_) ?_
  ·exfalso;omega
  intro w3 hA3 hG3;have hbx:some w.heap.size≠some g:=by simp;omega
  have hC3:=hC2;rw[<-oK (hG3.block _ hB1 hbx)] at hC3;have hlen:(l.take 1++l.take 0++l.drop (0+1)).length=l.length:=by simp only[aL,aX,cI];omega
  have hb0:0<(l.take 1++l.take 0++l.drop (0+1)).length:=by omega
  have hw0:=hA3.2.1 0 _ (aN hb0);have hf0:=hA3.2.2 0 hb0;have hA4:=hA3.set 0 b;have hG4:=nK (dS hG2 hG3) 0 (.int .u8 (b.toNat:Int));rw[HB.out,WK hi,<-HB.out] at hA4;go_wp2_with fail;go_ret;exact⟨rfl,hA4,hG4⟩
 ·go_still_tail 7,(by kernel_rfl)
  change wpList _ _ _ _ _ w1.drew;obtain⟨hC2,hA2,hG2⟩:=WL ⟨hC1,hA1,hG1⟩
  replace hB1:w.heap.size<w1.drew.heap.size:=hB1
  clear hC1 hA1 hG1;generalize w1.drew=w2 at*
  refine WJ rfl _ _ rfl g l i hA2 hi _ _ _ _ rfl rfl rfl (fun h1=>rfl) ?_;intro w3 hA3 hG3;have hbx:some w.heap.size≠some g:=by simp;omega
  have hC3:=hC2;rw[<-oK (hG3.block _ hB1 hbx)] at hC3;have hlen:(l.take 1++l.take i++l.drop (i+1)).length=l.length:=by simp only[aL,aX,cI];omega
  have hb0:0<(l.take 1++l.take i++l.drop (i+1)).length:=by omega
  have hw0:=hA3.2.1 0 _ (aN hb0);have hf0:=hA3.2.2 0 hb0;have hA4:=hA3.set 0 b;have hG4:=nK (dS hG2 hG3) 0 (.int .u8 (b.toNat:Int));rw[HB.out,WK hi,<-HB.out] at hA4;go_wp2_with fail;go_ret;exact⟨rfl,hA4,hG4⟩
def pQ (w:World) (v:Value) (m:List Int):Prop:=
 (v=.slice none 0 0/\m=[])\/∃b off cap,v=.slice (some ⟨b,off,none⟩) m.length cap/\b<w.heap.size/\∀j x,m[j]? =some x->w.cell? ⟨b,off+j,none⟩=some (.int .i64 x)
theorem pQ.below {w w':World} {v:Value} {m:List Int} (h:pQ w v m) (hb:Below w.heap.size w w'):pQ w' v m:=by
 rcases h with h|⟨b,off,cap,rfl,hl,hc⟩
 ·exact .inl h
 ·exact .inr ⟨b,off,cap,rfl,dR hl hb.size,fun j x hx=>by rw[hb.cell (p:=⟨b,off+j,none⟩) hl];exact hc j x hx⟩
theorem OwI.src {w:World} {B:Nat} {v:Value} {l:List Int} (h:OwI w B v l):pQ w v l:=by
 have h2:=h.rd.open;obtain⟨a,cap,rfl,_,_,hA⟩:=h2;rcases h.2 with⟨e,e2⟩|⟨g,cap',cur,e,_⟩
 ·have:l=[]:=vK (by simpa using e2);subst this;exact .inl ⟨e,rfl⟩
 ·rw[Value.slice.injEq] at e;obtain⟨rfl,_,rfl⟩:=e;rcases fJ l.length with h0|h0
  ·have:l=[]:=vK h0;subst this;exact .inr ⟨g,0,cap,rfl,(h.lt g rfl).2,fun j x hx=>by simp at hx⟩
  ·obtain⟨b,off,e3,hb,hc⟩:=hA h0;rw[iP] at e3;rw[e3];exact .inr ⟨b,off,cap,rfl,hb,hc⟩
theorem RG (w:World) (t:TypeId) (x:Int):pQ (w.alloc (.cells #[.int .i64 x] t)) (.slice (some ⟨w.heap.size,0,none⟩) 1 1) [x]:=
 .inr ⟨w.heap.size,0,1,rfl,by simp,fun j y hy=>by
  cases j with
  |zero=>simp at hy;subst hy;exact bS _ _ _
  |succ j=>simp at hy⟩
theorem RH {w:World} (ty:TypeId) (base:Nat) (v:Value) (l:List Int) (hown:OwI w base v l) (sv:Value) (m:List Int) (hsrc:pQ w sv m) (hroom:(l.length+m.length)*8<=140737488355328) (hbase:base<=w.heap.size):
  ∃v' w',(Builtin.append_ #[39,39] ty #[v,sv]).run Tryz.prog w=.ok v' w'/\OwI w' base v' (l++m)/\Below base w w'/\w.grownBy w' v.ownBlock:=by
 obtain⟨i,hi,hz,h2,h3⟩:=gL.info;have h4:(bO .i64 0).cells.size=1:=by rw[gL.cells];rfl
 have hown':w.ownsRow base 3 1 v l.length (l.map (bO .i64)):=by have:=hown;unfold OwI Ow at this;rwa[bJ] at this
 rcases hsrc with⟨rfl,rfl⟩|⟨b,off,cap,rfl,_,hc⟩
 ·refine⟨v,w,run_append_owned_none (P:=Tryz.prog) (w:=w) base _ ty 3 i 1 gL.under hi v l.length _ hown',by rw[eE];exact hown,aB _ _,⟨rfl,rfl,rfl,aA _,fun _ _ _=>rfl⟩⟩
 ·obtain⟨v',w',q1,q2,q3,_⟩:=run_append_own (P:=Tryz.prog) w base 39 ty 3 i _ 1 8 gL.under hi hz h2 h3 h4 (by decide) v l.length _ hown' ⟨b,off,none⟩ m.length cap (m.map (bO .i64)) (by simp) (fun j u hu=>by
    rw[dY] at hu
    cases hn:m[j]? with
    |none=>rw[hn] at hu;simp at hu
    |some y=>
     rw[hn] at hu;simp at hu;subst hu;have e:(⟨b,off,none⟩:Addr).add j=⟨b,off+j,none⟩:=by unfold iN;split<;>simp_all
     rw[e];exact hc j y hn) (fun u hu=>by obtain⟨y,_,rfl⟩:=dU.1 hu;rfl) (by simp only[maxLen];omega) hroom hbase
  refine⟨v',w',q1,?_,rC hown' q3 hbase,q3⟩;unfold OwI Ow;rw[List.map_append,aL,bJ,bJ];exact q2
theorem CO {ops:Array Oper} {rest:List Oper} {o:Oper} {a:Act} {Q:Exit->Act->World->Prop} {w:World} (hgd:o.guard=none) (s x:iM)
  (ho:o.op=.call {callee:=.builtin .append,args:=#[s,x],argTypes:=#[39,39]}) (base:Nat) (v:Value) (l:List Int) (hs:a.eval s=v) (hown:OwI w base v l)
  (sv:Value) (m:List Int) (hx:a.eval x=sv) (hsrc:pQ w sv m) (hroom:(l.length+m.length)*8<=140737488355328) (hbase:base<=w.heap.size)
  (h:∀v' w',OwI w' base v' (l++m)->Below base w w'->w.grownBy w' v.ownBlock->wpList Tryz.prog ops Q rest (a.put o.dst v') w'):wpList Tryz.prog ops Q (o::rest) a w:=by
 refine AD hgd fun K hK=>?_
 obtain⟨v',w',hr,q1,q2,q3⟩:=RH o.type base v l hown sv m hsrc hroom hbase;unfold lX execOp;simp only[ho,resolve,invoke,builtin,Sem.run_bind,Sem.run_pure,Result.andThen_ok,List.map_toArray,List.map_cons,List.map_nil,hs,hx,hr];exact hK _ _ (h v' w' q1 q2 q3)
theorem RdI.dropS {w:World} {b off:Nat} {l:List Int} (hc:∀j x,l[j]? =some x->w.cell? ⟨b,off+j,none⟩=some (.int .i64 x)) (k:Nat):∀j x,(l.drop k)[j]? =some x->w.cell? ⟨b,off+k+j,none⟩=some (.int .i64 x):=by
 intro j x hx;rw[gR] at hx;have:=hc _ x hx;rw[<-Nat.add_assoc] at this;exact this
theorem RI (m:Nat) (h:0<m):∃b:Nat,b<=1/\dig m=(b:Int)::dig ((m-1)/2)/\((m:Int)-1).tmod 2=(b:Int)/\((m:Int)-1)%2=(b:Int)/\(1:Int)-(m:Int).tmod 2=(b:Int)/\(1:Int)-(m:Int)%2=(b:Int)/\
  ((m:Int)-1).tdiv 2=(((m-1)/2:Nat):Int)/\((m:Int)-1)/2=(((m-1)/2:Nat):Int):=by
 obtain⟨p,rfl⟩:∃p,m=p+1:=⟨m-1,by omega⟩;refine⟨p%2,by omega,?_,?_,by omega,?_,by omega,?_,by omega⟩
 ·rw[BY h]
  congr 1
  split<;>omega
 ·rw[oJ (by omega)];omega
 ·rw[oJ (by omega)];omega
 ·rw[Int.tdiv_eq_ediv_of_nonneg (by omega)];omega
theorem aGb (n:Nat) (w:World) (hn:n<=1000000):
  Calls Tryz.prog 130 #[.int .i64 (n:Int)] w fun e w'=>∃v,e=.returned v/\OwI w' w.heap.size v (dig n)/\Below w.heap.size w w':=by
 go_enter Tryz.func130,Tryz.ntmps130;go_wp2_with fail
 go_loopg [0,2] n (fun gh s0 s2 wr=>∃(m:Nat) (l:List Int),m<=n/\gh=m/\s0=.int .i64 m/\OwI wr w.heap.size s2 l/\Hid (l++dig m=dig n)/\l.length+m<=n/\Below w.heap.size w wr)
 case atStart=>exact⟨n,[],aA _,rfl,rfl,OwI.nil _ _,hid rfl,by simp,aB _ _⟩
 case round=>
  obtain⟨m,l,hm,hg,rfl,hown,HD,hlm,hbel⟩:=hrel;have HG:=hid hg;clear hg;rcases fJ m with h0|h0
  ·subst h0;go_wp2_with fail;go_ret;refine⟨_,rfl,?_,hbel⟩;have:=HD.out;rw[qF,eE] at this;rw[<-this];exact hown
  ·obtain⟨b,hb,e1,e2,e3,_,_,e6,e7⟩:=RI m h0;have E1:=hid e1;clear e1;have hbs:=hbel.size;have s1:IntKind.i64.wrap ((m:Int)-1)=(m:Int)-1:=IntWalk.i64_in _ (by omega);go_wp2_with (at_builtin;refine eN rfl _ _ rfl w.heap.size _ _ rfl (hown.alloc _) wr.heap.size (b:Int) rfl ?_ ?_ ?_ ?_;(exact bS _ _ _);omega;(simp;omega);intro v' w1 hown' hB hgrow);have hg:=HG.out
   go_roundg ((m-1)/2)
   case measure=>omega
   case rel=>
    refine⟨(m-1)/2,l++[(b:Int)],by omega,rfl,by go_num,hown',hid ?_,by simp;omega,(hbel.alloc hbel.size _).trans hB⟩;rw[cF,List.singleton_append,<-E1.out];exact HD.out
theorem OwI.setLow {w:World} {B:Nat} {v:Value} {l:List Int} (h:OwI w B v l) {p:Addr} (hp:p.block<B) (x:Value):OwI (w.setCell p x) B v l:=by
 refine⟨h.1,?_⟩;rcases h.2 with hn|⟨g,cap,cur,rfl,h1,hg,rest⟩
 ·exact .inl hn
 ·refine .inr ⟨g,cap,cur,rfl,h1,?_,rest⟩;rw[kT w p g x (fun e=>by omega)];exact hg
def qK (w:World) (b:Nat) (l:List Int):Prop:=∃v,Arr w b 206 [v]/\OwI w (b+1) v l
theorem qK.lt {w:World} {b:Nat} {l:List Int} (h:qK w b l):b<w.heap.size:=by obtain⟨v,h,_⟩:=h;exact h.lt
theorem qK.below {w w':World} {b:Nat} {l:List Int} (h:qK w b l) (hb:Below w.heap.size w w'):qK w' b l:=by
 have:=h.lt;obtain⟨v,h1,h2⟩:=h;exact⟨v,h1.below hb this,h2.below hb (aA _)⟩
theorem CP (b:Nat) (src:Value) (l m:List Int) (w:World) (hl:qK w b l) (hs:pQ w src m) (hroom:(l.length+m.length)*8<=140737488355328):
  Calls Tryz.prog 128 #[.pointer (some ⟨b,0,none⟩),src] w fun e w'=>e=.returned (.tuple #[])/\qK w' b (l++m)/\Below b w w':=by
 have hb:=hl.lt;obtain⟨v,harr,hown⟩:=hl;have c1:=harr.cell (i:=0) rfl;have f1:=harr.free 0;go_enter Tryz.func128,Tryz.ntmps128;go_wp2_with (at_builtin;refine CO rfl _ _ rfl (b+1) _ _ rfl hown _ m rfl hs hroom (by omega) ?_;intro v' w1 hown' hB hgrow;(obtain⟨a',cap',rfl,_,_,_⟩:=hown'.rd.open);(have harr1:=harr.below hB (by omega));(have c2:=harr1.cell (i:=0) rfl);(have f2:=harr1.free 0))
 go_end0
 rw[aL] at hown';exact⟨rfl,⟨_,harr1.set 0 _,hown'.setLow (p:=⟨b,0,none⟩) (Nat.lt_succ_self b) _⟩,(hB.mono (Nat.le_succ b)).setCell (p:=⟨b,0,none⟩) (aA _) _⟩
theorem aGi (p:Option Addr) (cap:Nat) (cv:Value) (w:World):
  Calls Tryz.prog 211 #[.slice p 0 cap,.int .i64 0,.int .i64 0,cv] w fun e w'=>e=.returned (.tuple #[])/\w=w':=by
 go_enter Tryz.func211,Tryz.ntmps211;go_wp2
 go_loopg [8] 0 (fun _gh i wr=>i=.int .i64 1/\w=wr)
 case atStart=>exact⟨rfl,rfl⟩
 case round=>
  obtain⟨rfl,rfl⟩:=hrel;go_wp2
  go_end0
  exact⟨rfl,rfl⟩
theorem aGj (p:Option Addr) (cap:Nat) (cv:Value) (w:World):
  Calls Tryz.prog 189 #[.slice p 0 cap,.int .i64 0,cv] w fun e w'=>e=.returned (.tuple #[])/\w=w':=by
 go_enter Tryz.func189,Tryz.ntmps189;go_wp2
 go_loopg [7,8] 0 (fun _gh i j wr=>i=.int .i64 0/\j=.int .i64 20/\w=wr)
 case atStart=>exact⟨rfl,rfl,rfl⟩
 case round=>
  obtain⟨rfl,rfl,rfl⟩:=hrel;go_wp2_with fail;refine(aGi p cap cv w).mono ?_;rintro e w1 ⟨rfl,rfl⟩;go_wp2_with fail
  go_loopg [6,7,8,9] 0 (fun _gh s6 _s7 _s8 _s9 wr=>s6=.int .i64 20/\w=wr)
  case atStart=>exact⟨rfl,rfl⟩
  case round=>
   obtain⟨rfl,rfl⟩:=hrel;go_wp2_with fail
   go_end0
   exact⟨rfl,rfl⟩
theorem aGk (p:Option Addr) (cap:Nat) (cv:Value) (w:World):
  Calls Tryz.prog 162 #[.slice p 0 cap,cv] w fun e w'=>e=.returned (.tuple #[])/\w=w':=by
 go_enter Tryz.func162,Tryz.ntmps162;go_wp2_with fail;refine(aGj p cap cv w).mono ?_;rintro e w1 ⟨rfl,rfl⟩;go_wp2
 go_end0
 exact⟨rfl,rfl⟩
theorem aGl (p:Option Addr) (cap:Nat) (t:TypeId) (rv:Value) (w:World):
  Calls Tryz.prog 143 #[.slice p 0 cap,.iface t rv] w fun e w'=>e=.returned (.tuple #[])/\Below w.heap.size w w':=by
 go_enter Tryz.func143,Tryz.ntmps143;go_wp2_with fail;refine(aGk p cap _ _).mono ?_;rintro e w1 ⟨rfl,rfl⟩;go_wp2
 go_end0
 exact⟨rfl,uM _ _⟩
noncomputable def wB (c:Nat->Nat) (m:Nat) (x y:Int):Bool:=@decide (ltm c m x.toNat y.toNat) (GL _)
theorem JO (c:Nat->Nat) (m:Nat) (x y:Int):wB c m x y=true↔ltm c m x.toNat y.toNat:=by unfold wB;exact@decide_eq_true_iff _ (GL _)
theorem aGm (c:Nat->Nat) (m:Nat):Cmp (bef c m) (wB c m):=
 ⟨vW c m,fun x y hxy=>by
  rw[JO];unfold bef;constructor
  ·exact .inl
  ·rintro(h|⟨_,h⟩)
   ·exact h
   ·omega⟩
theorem aGn {s:ByteArray} {b g bx n M:Nat} {r:Nat->Int} {w:World} {c:Nat->Nat} (hs:s.size=n) (hn:n<=1000000) (hM:M<=4000000) (hr:Arr w b 3 (tab n r)) (hbg:b≠g) (hbx:bx≠g) (hb:w.cell? ⟨bx,0,none⟩=some (qJ s b n M))
  (hc:Cyc c n) (hk:sW c n (max M 1) r):pO w g n bx (wB c (max (2*M) 1)):=by
 intro W hW x y hx0 hx1 hy0 hy1;have ex:((x.toNat:Nat):Int)=x:=by omega
 have ey:((y.toNat:Nat):Int)=y:=by omega
 have hlt:=iO w _ hb;have hcell:W.cell? ⟨bx,0,none⟩=some (qJ s b n M):=by
  rw[<-hb];exact oK (w:=w) (hW.block bx hlt (fun e=>hbx (by have:=bW e;omega)))
 have hA:Arr W b 3 (tab n r):=hr.grown hW (fun e=>hbg (by have:=bW e;omega));have:=aF5 s b bx n M x.toNat y.toNat r W hs hn hM (by omega) (by omega) hA hcell;rw[ex,ey] at this;refine this.mono ?_;rintro e w' ⟨rfl,hbel⟩;refine⟨_,rfl,?_,hbel⟩;rw[QZ];have sp:=(QX (x:=x.toNat) (y:=y.toNat) hc hk (by omega) (by omega)).1
 by_cases h:ltm c (max (2*M) 1) x.toNat y.toNat
 ·rw[(JO _ _ _ _).2 h];exact decide_eq_true (sp.2 h)
 ·have:wB c (max (2*M) 1) x y=false:=by
   cases hk':wB c (max (2*M) 1) x y with
   |false=>rfl
   |true=>exact absurd ((JO _ _ _ _).1 hk') h
  rw[this];exact decide_eq_false (fun h'=>h (sp.1 h'))
theorem aGo (s:ByteArray) (b g cap n M:Nat) (r:Nat->Int) (w:World) (c:Nat->Nat) (hs:s.size=n) (hn:n<=1000000) (hM:M<=4000000) (hr:Arr w b 3 (tab n r)) (hbg:b≠g) (hd:Dat w g cap n (fun k=>(k:Int))) (hcap:cap<=maxLen)
  (hc:Cyc c n) (hk:sW c n (max M 1) r):
  Calls Tryz.prog 143 #[.slice (some ⟨g,0,none⟩) n cap,qJ s b n M] w fun e w'=>
   e=.returned (.tuple #[])/\(∃h,Ord c n (max (2*M) 1) h/\Dat w' g cap n h)/\w.grownBy w' (some g):=by
 have hg:=hd.lt;have hN:=uM w (.cells #[qJ s b n M] 252);have hok:=aGn (bx:=w.heap.size) hs hn hM (hr.alloc (.cells #[qJ s b n M] 252)) hbg (by omega) (bS w (qJ s b n M) 252) hc hk;have hst:=aFh g cap n w.heap.size (fun k=>(k:Int)) _ (bef c (max (2*M) 1)) _ (hd.below hN hg) hn hcap (fun k hk=>by show 0<=(k:Int)/\(k:Int)<(n:Int);omega) (fun i j _ h2 _=>by show(i:Int)<(j:Int);omega) hok (aGm c _);unfold maxLen at hcap;unfold nE at hst;have HST:=hid hst;have HN:=hid hN;have HD:=hid hd;clear hst hok hN hk hc hr hd;unfold qJ at HST HN ⊢
 obtain⟨rv,hrv⟩:∃rv,rv=pP s b n M:=⟨_,rfl⟩;rw[<-hrv] at HST HN ⊢;clear hrv;go_enter Tryz.func143,Tryz.ntmps143;go_wp2_with fail;refine HST.out.mono ?_;rintro e w1 ⟨rfl,⟨h,hB,hD⟩,hG⟩;go_wp2
 go_end0
 refine⟨rfl,⟨h,⟨fun k hk=>?_,hB.srt⟩,hD⟩,dS (rJ HN.out) hG⟩;obtain⟨k',_,p2,p3⟩:=hB.frm k (aU _) hk;rw[p3];show 0<=(k':Int)/\(k':Int)<(n:Int);omega
def gI (n:Nat) (o:Nat->Int):List Int:=(dG n).map o
theorem mL (n:Nat) (o:Nat->Int):(gI n o).length=n:=by simp[gI]
theorem wC (n:Nat) (o:Nat->Int) (k:Nat) (h:k<n):(gI n o)[k]? =some (o k):=by simp[gI,h]
theorem aGp (n:Nat) (o:Nat->Int):gI (n+1) o=gI n o++[o n]:=by simp[gI,List.range_succ]
theorem aGq {n:Nat} {o o':Nat->Int} (h:∀k,k<n->o k=o' k):gI n o=gI n o':=by
 unfold gI;exact List.map_congr_left (fun k hk=>h k (by simpa using hk))
theorem RO (l:List Int):gI l.length (fun k=>l.getD k 0)=l:=by
 apply jA;intro k
 by_cases h:k<l.length
 ·rw[wC _ _ _ h];simp[fF,aN h]
 ·rw[dL (by rw[mL];omega),dL (by omega)]
theorem RP {cur:Array Value} {n:Nat} {f:Nat->Int} (hn:n<=cur.size) (h:∀k,k<n->cur[k]? =some (.int .i64 (f k))):cur.toList.take n=(gI n f).map (bO .i64):=by
 apply jA;intro k
 by_cases hk:k<n
 ·rw[mB hk,FW,h k hk,dY,wC _ _ _ hk];rfl
 ·rw[dL (by simp;omega),dL (by simp[gI];omega)]
theorem aGr {w:World} {B:Nat} {v:Value} {l:List Int} (h:OwI w B v l) (hl:l≠[]):
  ∃g cap,v=.slice (some ⟨g,0,none⟩) l.length cap/\B<=g/\Dat w g cap l.length (fun k=>l.getD k 0)/\cap<=maxLen:=by
 obtain⟨hlen,h⟩:=h;rw[bJ] at h;rcases h with⟨rfl,hn⟩|⟨g,cap,cur,rfl,hb,hg,hnc,hcm,hcs,ht⟩
 ·exact absurd (by cases l with|nil=>rfl|cons x l=>simp at hn) hl
 ·refine⟨g,cap,rfl,hb,⟨cur,hg,by omega,hnc,fun k hk=>?_⟩,hcm⟩;have:(cur.toList.take l.length)[k]? =(l.map (bO .i64))[k]? :=by rw[<-ht,sE]
  rw[mB hk,FW] at this;rw[this];simp[fF,aN hk]
theorem aGs {w:World} {B g cap n:Nat} {f:Nat->Int} (h:Dat w g cap n f) (hB:B<=g) (hcap:cap<=maxLen):OwI w B (.slice (some ⟨g,0,none⟩) n cap) (gI n f):=by
 obtain⟨cur,hg,hs,hn,hc⟩:=h;refine⟨(sE _).symm,.inr ⟨g,cap,cur,by rw[bJ,mL],hB,hg,by rw[bJ,mL];exact hn,hcap,by omega,?_⟩⟩;rw[bJ,mL,sE];exact RP (by omega) hc
theorem Dat.other {w:World} {g cap n:Nat} {f:Nat->Int} (h:Dat w g cap n f) (p:Addr) (hp:p.block≠g) (v:Value):Dat (w.setCell p v) g cap n f:=by
 obtain⟨cur,h,hr⟩:=h;exact⟨cur,by rw[Below.heap_setCell w p v g (fun e=>hp e.symm)];exact h,hr⟩
theorem aGt {n:Nat} {o:Nat->Int} (hr:∀k,k<n->0<=o k/\o k<(n:Int)) (hne:∀i j,i<j->j<n->o i≠o j):
  (gI n o).mergeSort (fun x y=>decide (x<=y))=gI n (fun k=>(k:Int)):=by
 obtain⟨l,hl⟩:∃l,l=(gI n o).mergeSort (fun x y=>decide (x<=y)):=⟨_,rfl⟩;rw[<-hl];have hp:l.Perm (gI n o):=by rw[hl];exact List.mergeSort_perm _ _
 have hs:l.Pairwise (fun x y=>decide (x<=y)=true):=by
  rw[hl];exact List.pairwise_mergeSort (fun a b c h1 h2=>by simp at*;omega) (fun a b=>by simp;omega) _
 have hlen:l.length=n:=by rw[hp.length_eq,mL]
 have hnd:l.Nodup:=by
  rw[hp.nodup_iff];unfold gI List.Nodup;rw[List.pairwise_map];refine aB5 ?_ List.pairwise_lt_range;intro a b ha hb hab;exact hne a b hab (by simpa using hb)
 have hmem:∀k,k<n->0<=l.getD k 0/\l.getD k 0<(n:Int):=by
  intro k hk;have hk':k<l.length:=by omega
  have h1:l.getD k 0∈l:=by simp[fF,aN hk']
  have h2:=hp.mem_iff.1 h1;unfold gI at h2;obtain⟨i,hi,e⟩:=dU.1 h2;rw[<-e];exact hr i (by simpa using hi)
 have hst:∀k,k+1<n->l.getD k 0<l.getD (k+1) 0:=by
  intro k hk;have a1:k<l.length:=by omega
  have a2:k+1<l.length:=by omega
  have h1:=xO.1 hs k (k+1) a1 a2 (by omega);have h2:=xO.1 hnd k (k+1) a1 a2 (by omega);simp only[decide_eq_true_eq] at h1;simp only[fF,aN a1,aN a2,Option.getD_some];omega
 have key:=aFz hmem hst;rw[<-RO l,hlen];exact aGq key
theorem aGu (g cap n:Nat) (o:Nat->Int) (w:World) (hd:Dat w g cap n o) (hn:n<=1000000) (hr:∀k,k<n->0<=o k/\o k<(n:Int)) (hne:∀i j,i<j->j<n->o i≠o j):
  Calls Tryz.prog 142 #[.slice (some ⟨g,0,none⟩) n cap] w fun e w'=>e=.returned (.tuple #[])/\Dat w' g cap n (fun k=>(k:Int))/\w.grownBy w' (some g):=by
 obtain⟨cur,hg,hs,hnc,hc⟩:=hd;have ht:=RP (by omega) hc;have hH:Go.Sort.Holds (bO .i64) w g 0 (gI n o).toArray:=holds_of_blockI hg (by rw[mL];exact ht);have hlt:g<w.heap.size:=(Array.getElem?_eq_some_iff.1 hg).1;have h:=Tryz.slices_Sort_int g 0 cap (gI n o) w hH hlt (by rw[mL];omega);rw[mL,aGt hr hne] at h;refine h.mono ?_;rintro e w' ⟨rfl,m,os,rfl⟩;refine⟨rfl,?_,grownBy_sortedI _⟩;refine⟨_,heap_sortedI _ hg,by simp[Go.Sort.putCells,hs],hnc,fun k hk=>?_⟩;have:=take_putCellsI cur (gI n (fun k=>(k:Int))) (by rw[mL];omega)
 have e:=congrArg (fun l=>l[k]?) this;rw[mL,mB hk,FW] at e;rw[e,dY,wC _ _ _ hk];rfl
noncomputable def vr (c:Nat->Nat) (m:Nat) (o:Nat->Int):Nat->Int
 |0=>0
 |i+1=>vr c m o i+ @ite _ (eqm c m (o i).toNat (o (i+1)).toNat) (GL _) 0 1
theorem JP (c:Nat->Nat) (m:Nat) (o:Nat->Int) (i:Nat):(eqm c m (o i).toNat (o (i+1)).toNat/\vr c m o (i+1)=vr c m o i)\/(¬eqm c m (o i).toNat (o (i+1)).toNat/\vr c m o (i+1)=vr c m o i+1):=by
 by_cases h:eqm c m (o i).toNat (o (i+1)).toNat
 ·exact .inl ⟨h,by rw[vr,@if_pos _ (GL _) h];omega⟩
 ·exact .inr ⟨h,by rw[vr,@if_neg _ (GL _) h]⟩
theorem aGv (c:Nat->Nat) (m:Nat) (o:Nat->Int):∀i,0<=vr c m o i/\vr c m o i<=(i:Int):=by
 intro i
 induction i with
 |zero=>exact⟨lJ _,lJ _⟩
 |succ i ih=>rcases JP c m o i with h|h<;>omega
def bX (s:ByteArray) (i:Nat):Nat:=(s.data.toList.getD (i%s.size) 0).toNat
theorem sX (s:ByteArray):Cyc (bX s) s.size:=fun i=>by unfold bX;rw[Nat.add_mod_right]
theorem aGw (s:ByteArray) {i:Nat} (h:i<s.size):bX s i=(s.data.toList.getD i 0).toNat:=by unfold bX;rw[Nat.mod_eq_of_lt h]
theorem aGx (s:ByteArray):sW (bX s) s.size 1 (fun k=>(bX s k:Int)):=by
 intro a b _ _;constructor
 ·intro h;exact⟨0,by omega,fun u hu=>by omega,by simp only[pH];have h':(bX s a:Int)<(bX s b:Int):=h;omega⟩
 ·rintro⟨t,t1,_,t3⟩;have:t=0:=by omega
  subst this;simp only[pH] at t3;show(bX s a:Int)<(bX s b:Int);omega
end
end Go.Proofs.YtpgmbhpbgkljdaaGreatDoor
