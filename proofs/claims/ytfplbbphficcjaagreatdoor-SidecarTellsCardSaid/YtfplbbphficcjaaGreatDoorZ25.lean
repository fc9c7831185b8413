/-
  Texts put together (part 25): the walks and the plain laws on which the statement stands.
-/
import Derived.Test.YtfplbbphficcjaaGreatDoorZ19
import Derived.Test.YtfplbbphficcjaaGreatDoorZ22
set_option maxRecDepth 100000
set_option maxHeartbeats 12800000
set_option linter.unusedVariables false
set_option linter.unusedSimpArgs false
open Go.Proofs.Tryz
open Go.Proofs.Tryz renaming prog->pG
open Decidable renaming not_not->eB
open Go.IntKind renaming i64->aJ,wrap_i64->aM
open Go.RowKit.Below renaming refl->aH
open List renaming getD_eq_getElem?_getD->bV,mem_of_getElem?->cN
open Nat renaming le_refl->aD,zero_le->aO
namespace Go.Proofs.YtfplbbphficcjaaGreatDoor
open Go.RowKit Go Go.Shelf
theorem UA {s:List UInt8} {a c:Int} {k:Nat} (h:(bO s a c k).2.2=0):bO s a c (k+1)=
  if(gS s (bO s a c k).2.1 c).2.2≠0 then((bO s a c k).1,(bO s a c k).2.1,(gS s (bO s a c k).2.1 c).2.2)
  else if bM (gS s (bO s a c k).2.1 c).1≠0 then((bO s a c k).1,(bO s a c k).2.1,bM (gS s (bO s a c k).2.1 c).1)
  else((bO s a c k).1++[(gS s (bO s a c k).2.1 c).1],(gS s (bO s a c k).2.1 c).2.1,0):=by grind [bO,gS,bM]
theorem MN {s:List UInt8} {a c:Int} {k:Nat} (h:(bO s a c k).2.2≠0):∀j,(bO s a c (k+j)).2.2=(bO s a c k).2.2
 |0=>rfl
 |j+1=>by
  have d:=MN h j
  grind [bO]
theorem MO {s:List UInt8} {a c:Int} (d:0<=a):∀k,(bO s a c k).2.2=0->a<=(bO s a c k).2.1/\((bO s a c k).2.1=a\/(bO s a c k).2.1<=8*(s.length:Int))
 |0,_=>⟨Int.le_refl _,.inl rfl⟩
 |k+1,h=>by
  have e:(bO s a c k).2.2=0:=by grind [bO,MN]
  obtain⟨A,D⟩:=MO (s:=s) (c:=c) d k e
  grind [UA,gS,EP,bO,bC]
def iE (w:World) (B:Nat) (d:List Value) (e:List (List Int)):Prop:=d.length=e.length/\∀(j:Nat) (x:Value) (g:List Int),d[j]? =some x->e[j]? =some g->OwI w B x g
theorem iE.nil (w:World) (B:Nat):iE w B [] []:=by simp[iE]
theorem iE.map {w w':World} {B d:Nat} {e:List Value} {A:List (List Int)} (h:iE w B e A) (k:∀(x:Value) (g:List Int),OwI w B x g->OwI w' d x g):iE w' d e A:=by grind [iE,OwI]
theorem iE.below {w w':World} {B:Nat} {d:List Value} {e:List (List Int)} (h:iE w B d e) (A:Below w.heap.size w w'):iE w' B d e:=by grind [OwI.below,iE]
theorem iE.alloc {w:World} {B:Nat} {d:List Value} {e:List (List Int)} (h:iE w B d e) (o:Obj):iE (w.alloc o) B d e:=by grind [OwI.alloc,iE]
theorem iE.ok {w:World} {B:Nat} {d:List Value} {e:List (List Int)} (h:iE w B d e):LOK w d e:=by grind [OwI.rd,iE,LOK]
theorem iE.app {w w':World} {B A:Nat} {d D:List Value} {e:List (List Int)} {v:Value} (h:iE w B d e) (F:Ow w A 55 v D) (G:w.grownBy w' v.ownBlock):iE w' B d e:=h.map (fun _ _ k=>Ow.kept k G (uV k F (by decide)))
theorem iE.snoc {w:World} {B:Nat} {d:List Value} {e:List (List Int)} (h:iE w B d e) {x:Value} {g:List Int} (A:OwI w B x g):iE w B (d++[x]) (e++[g]):=by grind [iE,OwI]
def aHe (w w':World) (s:List UInt8) (a c n:Nat) (e:Ending):Prop:=
 ((bO s (a:Int) (c:Int) n).2.2=0/\∃v,e=.returned (.tuple #[v,.int .i64 (bO s (a:Int) (c:Int) n).2.1,.int .i64 0])/\RdL w' v (bO s (a:Int) (c:Int) n).1/\Below w.heap.size w w')\/
 ((bO s (a:Int) (c:Int) n).2.2≠0/\e=.returned (.tuple #[.slice none 0 0,.int .i64 0,.int .i64 (bO s (a:Int) (c:Int) n).2.2])/\Below w.heap.size w w')
theorem bAd (s:ByteArray) (a n c:Nat) (w:World) (hs:s.size<=1000000) (ha:a<=80000000) (hn:n<=6) (b0:2<=c) (b1:c<=258):
  Calls pG 111 #[.string s,.int .i64 (a:Int),.int .i64 (n:Int),.int .i64 (c:Int)] w fun e w'=>aHe w w' s.data.toList a c n e:=by
 have HL:=hid (show s.data.toList.length=s.size by simp);have a5:=hid (fun k=>MO (s:=s.data.toList) (a:=(a:Int)) (c:=(c:Int)) (by omega) k);have a6:=hid (fun k (hk:k<=n) (h:(bO s.data.toList (a:Int) (c:Int) k).2.2≠0)=>show(bO s.data.toList (a:Int) (c:Int) n).2.2=(bO s.data.toList (a:Int) (c:Int) k).2.2 by
  have:=MN h (n-k);rwa[show k+(n-k)=n by omega] at this)
 go_enter func111,ntmps111;go_wp2_with fail
 go_loopg [11,12,13,14,15,16,17] n (fun g b2 b3 b4 _s14 _s15 _s16 _s17 wr=>∃(k p:Nat) (v:Value) (I:List Value),k<=n/\g=n-k/\v=b2/\b4=.int .i64 (k:Int)/\b3=.int .i64 (p:Int)/\Hid ((bO s.data.toList (a:Int) (c:Int) k).2.2=0/\(bO s.data.toList (a:Int) (c:Int) k).2.1=(p:Int))/\Ow wr w.heap.size 55 v I/\iE wr w.heap.size I (bO s.data.toList (a:Int) (c:Int) k).1/\I.length=k/\Below w.heap.size w wr)
 case atStart=>exact⟨0,a,_,[],aO _,rfl,rfl,rfl,rfl,hid ⟨rfl,rfl⟩,Ow.nil _ _ _,iE.nil _ _,rfl,aH _ _⟩
 case round=>
  obtain⟨k,p,v,I,hk,hg,rfl,rfl,rfl,O,ho,hx,b5,D⟩:=hrel;have HG:=hid hg;clear hg;have c2:=D.size;have b6:=a5.out k O.out.1;rw[O.out.2,HL.out] at b6;have c4:p<=80000000:=by omega
  by_cases c5:k<n
  ·have v1:decide ((k:Int)<(n:Int))=true:=aG (by omega);have d:=UA O.out.1;rw[O.out.2] at d;have F:=fun W=>aYu s p c W hs (by omega) b0 b1
   unfold CL at F;obtain⟨A,Y,q3,hq⟩:∃A Y q3,gS s.data.toList (p:Int) (c:Int)=(A,Y,q3):=⟨_,_,_,rfl⟩;rw[hq] at d F;simp only at d F;have HQ:=hid hq;clear hq
   by_cases Z:q3=0
   ·subst Z;rw[aA (fun k=>k rfl)] at d;have T:=fun u W (h:RdI W u A)=>LV u A W h
    by_cases G:bM A=0
    ·rw[aA (fun k=>k G)] at d;rw[G] at T;have HS:=hid d;clear d G;go_wp2_with fail;refine(F _).mono ?_;rintro e w3 ⟨v3,rfl,U,H⟩;have hx:=hx.below H;have ho:=ho.below H (aD _);have D:=aW D H;have a0:=T v3 w3 (OwI.rd U);have b7:=D.size;have c6:=H.size;clear F T;have a2:=a5.out (k+1) (by rw[HS.out]);rw[HS.out] at a2;have a2:(a:Int)<=Y:=a2.1;obtain⟨pp,rfl⟩:∃pp:Nat,Y=(pp:Int):=⟨Y.toNat,by omega⟩;obtain⟨J,L,rfl,_,_,_⟩:=(OwI.rd U).open;have b8:(I.length+1)*24<=140737488355328:=by omega
     have b9:=hx.alloc (.cells #[.slice J A.length L] 55);have a4:=Ow.alloc ho (.cells #[.slice J A.length L] 55);have a7:=OwI.alloc (OwI.base U (show w.heap.size<=wr.heap.size by omega)) (.cells #[.slice J A.length L] 55);have c0:=D.alloc (o:=.cells #[.slice J A.length L] 55) b7;go_wp2_with fail;refine a0.mono ?_;rintro e w4 ⟨rfl,rfl⟩;clear a0;go_wp2_with (at_builtin;refine tM CK rfl _ _ rfl w.heap.size _ I rfl a4 w4.heap.size (.slice J A.length L) rfl (bX _ _ _) rfl ?_ ?_ ?_;(exact b8);(simp;omega);intro v5 w5 r1 r2 r3)
     have a8:(w4.alloc (.cells #[.slice J A.length L] 55)).grownBy w5 v.ownBlock:=r3;have hg:=HG.out
     go_roundg (n-(k+1))
     case measure=>omega
     case rel=>
      refine⟨k+1,pp,_,I++[.slice J A.length L],by omega,rfl,rfl,by go_num,rfl,hid ⟨by rw[HS.out],by rw[HS.out]⟩,r1,?_,by rw[List.length_append,b5];rfl,c0.trans r2⟩;rw[HS.out];exact(b9.app a4 a8).snoc (Ow.kept a7 a8 (uV a7 a4 (by decide)))
    ·rw[aB G] at d;have v2:(bM A != 0)=true:=by simpa using G
     have M:=a6.out (k+1) (by omega) (by rw[d];exact G);rw[d] at M;have V:=hid M;have a1:=hid G;obtain⟨E,a9⟩:∃E,E=bM A:=⟨_,rfl⟩;rw[<-a9] at T v2 V a1;clear d G M a9;go_wp2_with fail;refine(F _).mono ?_;rintro e w3 ⟨v3,rfl,U,H⟩;have D:=aW D H;have a0:=T v3 w3 (OwI.rd U);clear F T;go_wp2_with fail;refine a0.mono ?_;rintro e w4 ⟨rfl,rfl⟩;go_wp2_with fail
     go_ret3
     exact .inr ⟨by rw[V.out];exact a1.out,by rw[V.out];rfl,D⟩
   ·rw[aB Z] at d;have v2:(q3 != 0)=true:=by simpa using Z
    have M:=a6.out (k+1) (by omega) (by rw[d];exact Z);rw[d] at M;have V:=hid M;have a1:=hid Z;clear d M;go_wp2_with fail;refine(F _).mono ?_;rintro e w3 ⟨v3,rfl,U,H⟩;have D:=aW D H;clear F;go_wp2_with fail
    go_ret3
    exact .inr ⟨by rw[V.out];exact a1.out,by rw[V.out];rfl,D⟩
  ·have v1:decide ((k:Int)<(n:Int))=false:=aE (by omega);have c1:k=n:=by omega
   subst c1;go_wp2_with fail
   go_ret3
   exact .inl ⟨O.out.1,_,by rw[O.out.2];rfl,ho.rdL hx.ok,D⟩
theorem aHp {s:List UInt8} {a:Int} {t:List (List Int)} {ch:List Int} {fin:Int} {k:Nat} (h:(bZ s a t ch fin k).2.2.1=0) (d:(bZ s a t ch fin k).2.2.2=false):bZ s a t ch fin (k+1)=
  if(dE (t.getD (ch.getD (k/10) 0).toNat []) s (bZ s a t ch fin k).2.1).2.2≠0 then((bZ s a t ch fin k).1,(bZ s a t ch fin k).2.1,(dE (t.getD (ch.getD (k/10) 0).toNat []) s (bZ s a t ch fin k).2.1).2.2,false)
  else if(dE (t.getD (ch.getD (k/10) 0).toNat []) s (bZ s a t ch fin k).2.1).1=fin then
   if k/10+1<ch.length then((bZ s a t ch fin k).1++[(dE (t.getD (ch.getD (k/10) 0).toNat []) s (bZ s a t ch fin k).2.1).1],(dE (t.getD (ch.getD (k/10) 0).toNat []) s (bZ s a t ch fin k).2.1).2.1,3,false)
   else((bZ s a t ch fin k).1++[(dE (t.getD (ch.getD (k/10) 0).toNat []) s (bZ s a t ch fin k).2.1).1],(dE (t.getD (ch.getD (k/10) 0).toNat []) s (bZ s a t ch fin k).2.1).2.1,0,true)
  else((bZ s a t ch fin k).1++[(dE (t.getD (ch.getD (k/10) 0).toNat []) s (bZ s a t ch fin k).2.1).1],(dE (t.getD (ch.getD (k/10) 0).toNat []) s (bZ s a t ch fin k).2.1).2.1,0,false):=by grind [bZ,dE]
theorem aHq {s:List UInt8} {a:Int} {t:List (List Int)} {ch:List Int} {fin:Int} {k:Nat} (h:(bZ s a t ch fin k).2.2.1≠0\/(bZ s a t ch fin k).2.2.2=true):∀j,bZ s a t ch fin (k+j)=bZ s a t ch fin k
 |0=>rfl
 |j+1=>by
  have d:=aHq h j
  grind [bZ]
theorem UE (s:List UInt8) (a:Int) (t:List (List Int)) (ch:List Int) (fin:Int):∀k,(bZ s a t ch fin k).1.length<=k
 |0=>aD _
 |k+1=>by
  have d:=UE s a t ch fin k
  grind [bZ]
theorem aHr {s:List UInt8} {a:Int} {t:List (List Int)} {ch:List Int} {fin:Int} {k:Nat} {r:List Int} {p E:Int} {b:Bool} (e:k<=10*ch.length) (h:bZ s a t ch fin k=(r,p,E,b)) (d:E≠0\/b=true):
  jW s a t ch fin=if E≠0 then([],0,E) else(r,p,0):=by
 have:=aHq (s:=s) (a:=a) (t:=t) (ch:=ch) (fin:=fin) (k:=k) (by rw[h];exact d) (10*ch.length-k)
 grind [jW,bZ]
theorem aHs {l:List Int} {s:List UInt8} {a:Nat} (h:(dE l s (a:Int)).2.2=0):(a:Int)<=(dE l s (a:Int)).2.1/\(dE l s (a:Int)).2.1<=8*(s.length:Int)/\0<=(dE l s (a:Int)).1/\(dE l s (a:Int)).1<(l.length:Int):=by grind [bM,dE,lA,zH,zI]
def UF (w w':World) (s:List UInt8) (a:Nat) (T:List (List Int)) (ch:List Int) (fin:Int) (e:Ending):Prop:=
 ∃v,e=.returned (.tuple #[v,.int .i64 (jW s (a:Int) T ch fin).2.1,.int .i64 (jW s (a:Int) T ch fin).2.2])/\OwI w' w.heap.size v (jW s (a:Int) T ch fin).1/\Below w.heap.size w w'
theorem UG {w w':World} {s:List UInt8} {a:Nat} {T:List (List Int)} {ch:List Int} {fin E:Int} (h:jW s (a:Int) T ch fin=([],0,E)) (d:Below w.heap.size w w'):UF w w' s a T ch fin (.returned (.tuple #[.slice none 0 0,.int .i64 0,.int .i64 E])):=by grind [OwI.nil,jW,UF]
theorem bA2 (s:ByteArray) (a:Nat) (vt vc:Value) (T:List (List Int)) (ch:List Int) (fin:Int) (w:World) (hs:s.size<=1000000) (ha:a<=80000000) (ht:RdL w vt T) (hc:RdI w vc ch) (hT:∀l∈T,bM l=0) (a3:∀x∈ch,0<=x/\x<(T.length:Int)) (hn:ch.length<=40000):
  Calls pG 112 #[.string s,.int .i64 (a:Int),vt,vc,.int .i64 fin] w fun e w'=>UF w w' s.data.toList a T ch fin e:=by
 have HL:=hid (show s.data.toList.length=s.size by simp);have HT:=hid hT;have b3:=hid a3;obtain⟨at',ct,rfl,c8,b4,a4⟩:=ht.open;unfold maxLen at b4;obtain⟨ac,cc,rfl,c9,b5,a5⟩:=hc.open;unfold maxLen at b5;obtain⟨N,hN⟩:∃N,N=10*ch.length:=⟨_,rfl⟩;have m1:aJ.wrap (10*(ch.length:Int))=(N:Int):=by rw[aM];omega
 have m2:10*(ch.length:Int)=(N:Int):=by omega
 have a1:=hid (fun k (r:List Int) (p E:Int) (b:Bool) (hk:k<=N) (h:bZ s.data.toList (a:Int) T ch fin k=(r,p,E,b)) (hE:E≠0\/b=true)=>aHr (by omega) h hE);have b6:=hid (fun(r:List Int) (p:Int) (h:bZ s.data.toList (a:Int) T ch fin N=(r,p,0,false))=>show jW s.data.toList (a:Int) T ch fin=([],0,3) by
  unfold jW;rw[<-hN,h];rfl)
 have b7:=hid (UE s.data.toList (a:Int) T ch fin);have HN:=hid hN;clear ht hc hT a3 hN;go_enter func112,ntmps112;go_wp2_with fail
 go_loopg [13,14,15,16,17,18] N (fun g b8 b9 c0 _s16 _s17 _s18 wr=>∃(k p:Nat) (v:Value) (r:List Int),k<=N/\g=N-k/\v=b8/\c0=.int .i64 (k:Int)/\b9=.int .i64 (p:Int)/\p<=80000000/\Hid (bZ s.data.toList (a:Int) T ch fin k=(r,(p:Int),0,false))/\OwI wr w.heap.size v r/\Below w.heap.size w wr)
 case atStart=>exact⟨0,a,_,[],aO _,rfl,rfl,rfl,rfl,ha,hid rfl,OwI.nil _ _,aH _ _⟩
 case round=>
  obtain⟨k,p,v,r,hk,hg,rfl,rfl,rfl,hp,U,O,F⟩:=hrel;have HG:=hid hg;clear hg;have d0:=F.size;have d1:r.length<=400000:=by
   have h1:=b7.out k;rw[U.out] at h1;have h1:r.length<=k:=h1;have:=HN.out;omega
  by_cases d2:k<N
  ·have v1:decide ((k:Int)<(N:Int))=true:=aG (by omega);obtain⟨q,hq⟩:∃q,q=k/10:=⟨_,rfl⟩;have c3:q<ch.length:=by have:=HN.out;omega
   have m3:(k:Int).tdiv 10=(q:Int):=by rw[hq];exact Int.ofNat_tdiv k 10
   have m4:aJ.wrap (q:Int)=(q:Int):=by rw[aM];omega
   have m5:(k:Int)/10=(q:Int):=by omega
   obtain⟨bc,oc,rfl,c4,a6⟩:=a5 (by omega);obtain⟨x,hx⟩:=eG c3;have c1:=(F.cell (p:=⟨bc,oc+q,none⟩) c4).trans (a6 q x hx);have d3:=b3.out x (cN hx);have e1:ch.getD (k/10) 0=x:=by rw[<-hq,bV,hx];rfl
   obtain⟨X,rfl⟩:∃X:Nat,x=(X:Int):=⟨x.toNat,by omega⟩;have c5:X<T.length:=by omega
   obtain⟨l,hl⟩:∃l,T[X]? =some l:=⟨_,List.getElem?_eq_getElem c5⟩;have e2:T.getD X []=l:=by rw[bV,hl];rfl
   obtain⟨bt,ot,rfl,c6,a7⟩:=a4 (by omega);obtain⟨y,a8,a2⟩:=a7 X l hl;have c2:=(F.cell (p:=⟨bt,ot+X,none⟩) c6).trans a8;obtain⟨ay,cy,rfl,_,_,_⟩:=a2.open;have a9:=a2.below F;have b0:=HT.out l (cN hl);have G:=aYi _ l s p wr a9 b0 hs (by omega);have d:=aHp (s:=s.data.toList) (a:=(a:Int)) (t:=T) (ch:=ch) (fin:=fin) (k:=k) (by rw[U.out]) (by rw[U.out]);rw[U.out,e1,Int.toNat_natCast,e2] at d;simp only at d;have H:=aHs (l:=l) (s:=s.data.toList) (a:=p);rw[HL.out] at H;obtain⟨I,q2,q3,b1⟩:∃I q2 q3,dE l s.data.toList (p:Int)=(I,q2,q3):=⟨_,_,_,rfl⟩
   rw[b1] at d G H;simp only at d G H;have b2:k/10=q:=hq.symm;rw[b2] at d;clear hq a6 a5 hx e1 e2 hl a7 a4 a8 a2 a9 b1 b2 b0
   by_cases V:q3=0
   ·subst V;rw[aA (fun k=>k rfl)] at d;obtain⟨p1,p2,p3,p4⟩:=H rfl;obtain⟨pp,rfl⟩:∃pp:Nat,q2=(pp:Int):=⟨q2.toNat,by omega⟩
    by_cases M:I=fin
    ·rw[aB M] at d;have v2:(I==fin)=true:=by rw[beq_iff_eq];exact M
     have m6:aJ.wrap ((ch.length:Int)-1)=(ch.length:Int)-1:=by rw[aM];omega
     by_cases a0:q+1<ch.length
     ·rw[aB a0] at d;have v3:decide ((q:Int)<(ch.length:Int)-1)=true:=aG (by omega);have A:=a1.out (k+1) _ _ _ _ (by omega) d (.inl (by decide));rw[aB (by decide)] at A;have J:=hid A;clear d A H M a0;go_wp2_with fail;refine G.mono ?_;rintro e w3 ⟨rfl,D⟩;have Y:=OwI.below O D (aD _);have L:=aW F D;have Z:=L.size;clear G O D;go_wp2_with (at_builtin;refine gK rfl _ _ rfl w.heap.size _ _ rfl (OwI.alloc Y _) _ I rfl (bX _ _ _) ?_ ?_ ?_;(omega);(simp;omega);intro v4 w4 r1 r2 r3)
      go_ret3
      exact UG J.out ((L.alloc Z _).trans r2)
     ·rw[aA a0] at d;have v3:decide ((q:Int)<(ch.length:Int)-1)=false:=aE (by omega);have A:=a1.out (k+1) _ _ _ _ (by omega) d (.inr rfl);rw[aA (fun k=>k rfl)] at A;have J:=hid A;clear d A H M a0;go_wp2_with fail;refine G.mono ?_;rintro e w3 ⟨rfl,D⟩;have Y:=OwI.below O D (aD _);have L:=aW F D;have Z:=L.size;clear G O D;go_wp2_with (at_builtin;refine gK rfl _ _ rfl w.heap.size _ _ rfl (OwI.alloc Y _) _ I rfl (bX _ _ _) ?_ ?_ ?_;(omega);(simp;omega);intro v4 w4 r1 r2 r3)
      go_ret3
      exact⟨_,by rw[J.out];rfl,by rw[J.out];exact r1,(L.alloc Z _).trans r2⟩
    ·rw[aA M] at d;have v2:(I==fin)=false:=by rw[cB];exact M
     have HS:=hid d;clear d H M;go_wp2_with fail;refine G.mono ?_;rintro e w3 ⟨rfl,D⟩;have Y:=OwI.below O D (aD _);have L:=aW F D;have Z:=L.size;clear G O D;go_wp2_with (at_builtin;refine gK rfl _ _ rfl w.heap.size _ _ rfl (OwI.alloc Y _) _ I rfl (bX _ _ _) ?_ ?_ ?_;(omega);(simp;omega);intro v4 w4 r1 r2 r3);have hg:=HG.out
     go_roundg (N-(k+1))
     case measure=>omega
     case rel=>exact⟨k+1,pp,_,_,by omega,rfl,rfl,by go_num,rfl,by omega,HS,r1,(L.alloc Z _).trans r2⟩
   ·rw[aB V] at d;have v2:(q3 != 0)=true:=by simpa using V
    have A:=a1.out (k+1) _ _ _ _ (by omega) d (.inl V);rw[aB V] at A;have J:=hid A;clear d H A;go_wp2_with fail;refine G.mono ?_;rintro e w3 ⟨rfl,D⟩;go_wp2_with fail
    go_ret3
    exact UG J.out (aW F D)
  ·have v1:decide ((k:Int)<(N:Int))=false:=aE (by omega);have c7:k=N:=by omega
   subst c7;have A:=b6.out _ _ U.out;have J:=hid A;clear A;go_wp2_with fail
   go_ret3
   exact UG J.out F
theorem aHt (s:List UInt8) (a c:Int):dW s a c=
  if aP s.length a 3≠0 then([],0,aP s.length a 3)
  else if aK s a 3<2\/6<aK s a 3 then([],0,3)
  else if aP s.length (a+3) 15≠0 then([],0,aP s.length (a+3) 15)
  else if aK s (a+3) 15=0 then([],0,3)
  else if(eD s (a+18) (aK s (a+3) 15) (aK s a 3)).2.2≠0 then([],0,(eD s (a+18) (aK s (a+3) 15) (aK s a 3)).2.2)
  else if(bO s (eD s (a+18) (aK s (a+3) 15) (aK s a 3)).2.1 c (aK s a 3)).2.2≠0 then([],0,(bO s (eD s (a+18) (aK s (a+3) 15) (aK s a 3)).2.1 c (aK s a 3)).2.2)
  else jW s (bO s (eD s (a+18) (aK s (a+3) 15) (aK s a 3)).2.1 c (aK s a 3)).2.1 (bO s (eD s (a+18) (aK s (a+3) 15) (aK s a 3)).2.1 c (aK s a 3)).1 (eD s (a+18) (aK s (a+3) 15) (aK s a 3)).1 (c-1):=rfl
def UH (w w':World) (s:List UInt8) (a c:Nat) (e:Ending):Prop:=
 ∃v,e=.returned (.tuple #[v,.int .i64 (dW s (a:Int) (c:Int)).2.1,.int .i64 (dW s (a:Int) (c:Int)).2.2])/\OwI w' w.heap.size v (dW s (a:Int) (c:Int)).1/\Below w.heap.size w w'
theorem zX {w w':World} {s:List UInt8} {a c:Nat} {E:Int} (h:dW s (a:Int) (c:Int)=([],0,E)) (d:Below w.heap.size w w'):UH w w' s a c (.returned (.tuple #[.slice none 0 0,.int .i64 0,.int .i64 E])):=by grind [OwI.nil,dW,UH]
theorem aHu {s:List UInt8} {a n t:Nat} (e:2<=t) (d:t<=6) (A:n<=1048576) (h:(eD s (a:Int) (n:Int) (t:Int)).2.2=0):
  (eD s (a:Int) (n:Int) (t:Int)).1.length=n/\(∀x∈(eD s (a:Int) (n:Int) (t:Int)).1,0<=x/\x<(t:Int))/\(a:Int)<=(eD s (a:Int) (n:Int) (t:Int)).2.1/\((eD s (a:Int) (n:Int) (t:Int)).2.1=(a:Int)\/(eD s (a:Int) (n:Int) (t:Int)).2.1<=8*(s.length:Int)):=by
 rw[MB s a n t e d A] at h ⊢;split at h
 ·grind
 ·next q=>
  rw[aA q];obtain⟨I,J,D,F⟩:=BV s (t:Int) (a:Int) (by omega) (by omega) n (eB.1 q);refine⟨by grind [sL,eD],fun x G=>?_,D,F⟩;obtain⟨b,H,rfl⟩:=List.mem_map.1 G;have:=(RI d b).1 (PJ _ _ (fun y L=>by grind [sT,eD]) b H);omega
theorem bA3 (s:ByteArray) (a c:Nat) (w:World) (L:s.size<=1000000) (ha:a<=70000000) (b7:2<=c) (b8:c<=258):
  Calls pG 100 #[.string s,.int .i64 (a:Int),.int .i64 (c:Int)] w fun e w'=>UH w w' s.data.toList a c e:=by
 have HL:=hid (show s.data.toList.length=s.size by simp);have a4:=fun W=>sV s (a:Int) 3 W L (by decide) (by omega) (by omega)
 have a5:=fun W=>sV s ((a:Int)+3) 15 W L (by decide) (by omega) (by omega)
 have a6:=jV s.data.toList (a:Int) 3;have a7:=jV s.data.toList ((a:Int)+3) 15;have d:=aHt s.data.toList (a:Int) (c:Int);rw[HL.out] at d;have a9:=iG (n:=s.size) (at':=(a:Int)) (k:=3);have a8:=iG (n:=s.size) (at':=((a:Int)+3)) (k:=15);obtain⟨V,Y⟩:∃V,V=aP s.size (a:Int) 3:=⟨_,rfl⟩;obtain⟨h,Z⟩:∃h,h=aK s.data.toList (a:Int) 3:=⟨_,rfl⟩;obtain⟨E2,a0⟩:∃E2,E2=aP s.size ((a:Int)+3) 15:=⟨_,rfl⟩;obtain⟨F,a1⟩:∃F,F=aK s.data.toList ((a:Int)+3) 15:=⟨_,rfl⟩;rw[<-Y,<-Z] at a4;rw[<-a0,<-a1] at a5;rw[<-Z] at a6;rw[<-a1] at a7;rw[<-Y] at a9;rw[<-a0] at a8
 rw[<-Y,<-Z,<-a0,<-a1] at d;clear Y Z a0 a1;have a6:h<8:=a6;have a7:F<32768:=a7;have m1:aJ.wrap ((a:Int)+3)=(a:Int)+3:=by rw[aM];omega
 obtain⟨A,hA⟩:∃A,A=a+18:=⟨_,rfl⟩;have m2:aJ.wrap ((a:Int)+18)=(A:Int):=by rw[aM];omega
 have m3:(a:Int)+18=(A:Int):=by omega
 have m7:aJ.wrap (A:Int)=(A:Int):=by rw[aM];omega
 have c5:A<=70000018:=by omega
 clear hA;have m4:aJ.wrap (h:Int)=(h:Int):=by rw[aM];omega
 have m5:aJ.wrap (F:Int)=(F:Int):=by rw[aM];omega
 have m6:aJ.wrap ((c:Int)-1)=(c:Int)-1:=by rw[aM];omega
 go_enter func100,ntmps100;go_wp2_with fail;refine(a4 _).mono ?_;rintro e w1 ⟨rfl,rfl⟩
 by_cases h1:V=0
 rotate_left
 ·have u1:(V != 0)=true:=by simpa using h1
  rw[aB h1] at d;have D:=hid d;clear d;go_wp2_with fail
  go_ret3
  exact zX D.out (aH _ _)
 subst h1;rw[aA (fun k=>k rfl)] at d
 by_cases h2:h<2\/6<h
 ·rw[aB h2] at d;have D:=hid d;clear d
  by_cases h3:h<2
  ·have u1:decide ((h:Int)<2)=true:=aG (by omega);go_wp2_with fail
   go_ret3
   exact zX D.out (aH _ _)
  ·have u1:decide ((h:Int)<2)=false:=aE (by omega);have u2:decide ((h:Int)>6)=true:=aG (by omega);have u3:decide (6<(h:Int))=true:=aG (by omega);go_wp2_with fail
   go_ret3
   exact zX D.out (aH _ _)
 rw[aA h2] at d;have u1:decide ((h:Int)<2)=false:=aE (by omega);have u2:decide ((h:Int)>6)=false:=aE (by omega);have u3:decide (6<(h:Int))=false:=aE (by omega);have b0:2<=h:=by omega
 have b1:h<=6:=by omega
 clear h2;go_wp2_with fail;refine(a5 _).mono ?_;rintro e w2 ⟨rfl,rfl⟩
 by_cases h3:E2=0
 rotate_left
 ·have u4:(E2 != 0)=true:=by simpa using h3
  rw[aB h3] at d;have D:=hid d;clear d;go_wp2_with fail
  go_ret3
  exact zX D.out (aH _ _)
 subst h3;rw[aA (fun k=>k rfl)] at d;have a8:=a8 rfl
 by_cases M:F=0
 ·rw[aB M] at d;have D:=hid d;subst M;clear d;go_wp2_with fail
  go_ret3
  exact zX D.out (aH _ _)
 rw[aA M] at d;have u4:((F:Int)==0)=false:=by rw[cB];omega
 have u5:(F==0)=false:=by rw[cB];exact M
 have O:=fun W=>aXl s A F h W L (by omega) (by omega) b0 b1
 have G:=aHu (s:=s.data.toList) (a:=A) (n:=F) (t:=h) b0 b1 (by omega);unfold FJ at O;rw[m3] at d;obtain⟨c1,c2,c3,b2⟩:∃c1 c2 c3,eD s.data.toList (A:Int) (F:Int) (h:Int)=(c1,c2,c3):=⟨_,_,_,rfl⟩;rw[b2] at O G d;simp only at O G d;rw[HL.out] at G;clear b2 M a4 a5 a9;go_wp2_with fail;refine(O _).mono ?_;rintro e w3 ⟨v3,rfl,b3,a2⟩;clear O
 by_cases h5:c3=0
 rotate_left
 ·have u6:(c3 != 0)=true:=by simpa using h5
  rw[aB h5] at d;have D:=hid d;clear d G;go_wp2_with fail
  go_ret3
  exact zX D.out a2
 subst h5;rw[aA (fun k=>k rfl)] at d;obtain⟨s1,s2,s3,s4⟩:=G rfl;obtain⟨H,rfl⟩:∃H:Nat,c2=(H:Int):=⟨c2.toNat,by omega⟩;have I:=bAd s H h c w3 L (by omega) (by omega) b7 b8;have T:=LE s.data.toList (H:Int) (c:Int) h;have J:=MO (s:=s.data.toList) (a:=(H:Int)) (c:=(c:Int)) (by omega) h;unfold aHe at I;obtain⟨t1,t2,t3,b4⟩:∃t1 t2 t3,bO s.data.toList (H:Int) (c:Int) h=(t1,t2,t3):=⟨_,_,_,rfl⟩;rw[b4] at I T J d;simp only at I T J d;rw[HL.out] at J;have b5:=OwI.rd b3;clear b4 G b3;go_wp2_with fail;refine I.mono ?_;rintro e w4 (⟨h6,v4,rfl,b6,U⟩|⟨h6,rfl,U⟩)
 rotate_left
 ·have u6:(t3 != 0)=true:=by simpa using h6
  rw[aB h6] at d;have D:=hid d;clear d T J I;go_wp2_with fail
  go_ret3
  exact zX D.out (aW a2 U)
 subst h6;rw[aA (fun k=>k rfl)] at d;obtain⟨k1,k2⟩:=T rfl;obtain⟨k3,k4⟩:=J rfl;obtain⟨p3,rfl⟩:∃p3:Nat,t2=(p3:Int):=⟨t2.toNat,by omega⟩;have a3:=bA2 s p3 v4 v3 t1 c1 ((c:Int)-1) w4 L (by omega) b6 (b5.below U) (fun l hl=>(k2 l hl).1) (fun x hx=>by have:=s2 x hx;omega) (by omega);unfold UF at a3;rw[<-d] at a3;have hB:=aW a2 U;have b9:=hB.size;clear I T J d b6 b5 U a2 k2 s2;go_wp2_with fail;refine a3.mono ?_;rintro e w5 ⟨v5,rfl,c0,c4⟩;clear a3;go_wp2_with fail
 go_ret3
 exact⟨v5,rfl,OwI.base c0 b9,aW hB c4⟩
end Go.Proofs.YtfplbbphficcjaaGreatDoor
