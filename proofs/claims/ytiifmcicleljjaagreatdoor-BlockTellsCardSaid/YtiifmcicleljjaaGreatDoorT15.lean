/- The walks and the plain laws, part 15. -/
import Derived.Test.YtiifmcicleljjaaGreatDoorT13
import Derived.Test.YtiifmcicleljjaaGreatDoorT14
set_option maxRecDepth 100000
set_option maxHeartbeats 12800000
set_option linter.unusedVariables false
open Decidable renaming not_not->dK
open Go.IntKind renaming i64->aI,wrap_i64->aM
open Go.RowKit.Below renaming refl->aB
open Int renaming toNat_natCast->eG
open List renaming getD_eq_getElem?_getD->aV,getElem?_append_left->gS,getElem?_concat_length->AQ,getElem?_eq_getElem->aN,length_append->aL,length_singleton->fK,mem_of_getElem?->cH
open Nat renaming le_refl->aA,le_trans->aW,zero_le->aU
open Option.some renaming inj->bW
namespace Go.Proofs.YtiifmcicleljjaaGreatDoor
open Go.RowKit Go Go.Shelf
theorem KR {s:List UInt8} {a c:Int} {k:Nat} (h:(bF s a c k).2.2=0):bF s a c (k+1)=
  if(eJ s (bF s a c k).2.1 c).2.2≠0 then((bF s a c k).1,(bF s a c k).2.1,(eJ s (bF s a c k).2.1 c).2.2)
  else if bL (eJ s (bF s a c k).2.1 c).1≠0 then((bF s a c k).1,(bF s a c k).2.1,bL (eJ s (bF s a c k).2.1 c).1)
  else((bF s a c k).1++[(eJ s (bF s a c k).2.1 c).1],(eJ s (bF s a c k).2.1 c).2.1,0):=by
 show(if(bF s a c k).2.2≠0 then bF s a c k else _)=_;rw[if_neg (fun q=>q h)]
theorem DP {s:List UInt8} {a c:Int} {k:Nat} (h:(bF s a c k).2.2≠0):∀j,(bF s a c (k+j)).2.2=(bF s a c k).2.2
 |0=>rfl
 |j+1=>by
  have d:=DP h j;show(if(bF s a c (k+j)).2.2≠0 then bF s a c (k+j) else _).2.2=_;rw[if_pos (by rw[d];exact h),d]
theorem DQ {s:List UInt8} {a c:Int} (E:0<=a):∀k,(bF s a c k).2.2=0->a<=(bF s a c k).2.1/\((bF s a c k).2.1=a\/(bF s a c k).2.1<=8*(s.length:Int))
 |0,_=>⟨Int.le_refl _,.inl rfl⟩
 |k+1,h=>by
  have A:(bF s a c k).2.2=0:=by
   rcases Decidable.em ((bF s a c k).2.2=0) with q|q
   ·exact q
   ·have:=DP q 1;rw[h] at this;exact this.symm
  obtain⟨G,H⟩:=DQ (s:=s) (c:=c) E k A;rw[KR A] at h ⊢;split at h
  ·next q=>exact absurd h q
  ·next q=>
   rw[if_neg q];split at h
   ·next z=>exact absurd h z
   ·next z=>
    rw[if_neg z];have q:=dK.1 q;unfold eJ at q ⊢;split at q
    ·simp at q
    ·next F=>
     rw[if_neg F];simp only at q ⊢;split at q
     ·next d=>exact absurd q d
     ·next d=>
      rw[if_neg d];have:=yR s (bF s a c k).2.1 (by omega) c.toNat (dK.1 d);show a<=(aZ s (bF s a c k).2.1 c.toNat).2.2.1/\((aZ s (bF s a c k).2.1 c.toNat).2.2.1=a\/(aZ s (bF s a c k).2.1 c.toNat).2.2.1<=_);omega
def fE (w:World) (B:Nat) (xs:List Value) (gs:List (List Int)):Prop:=xs.length=gs.length/\∀(j:Nat) (x:Value) (g:List Int),xs[j]? =some x->gs[j]? =some g->OwI w B x g
theorem fE.nil (w:World) (B:Nat):fE w B [] []:=⟨rfl,fun j x g h=>by simp at h⟩
theorem fE.map {w w':World} {B B':Nat} {xs:List Value} {gs:List (List Int)} (h:fE w B xs gs) (k:∀(x:Value) (g:List Int),OwI w B x g->OwI w' B' x g):fE w' B' xs gs:=⟨h.1,fun j x g d z=>k x g (h.2 j x g d z)⟩
theorem fE.below {w w':World} {B:Nat} {xs:List Value} {gs:List (List Int)} (h:fE w B xs gs) (d:Below w.heap.size w w'):fE w' B xs gs:=h.map (fun _ _ k=>OwI.below k d (aA _))
theorem fE.alloc {w:World} {B:Nat} {xs:List Value} {gs:List (List Int)} (h:fE w B xs gs) (o:Obj):fE (w.alloc o) B xs gs:=h.map (fun _ _ k=>OwI.alloc k o)
theorem fE.ok {w:World} {B:Nat} {xs:List Value} {gs:List (List Int)} (h:fE w B xs gs):LOK w xs gs:=⟨h.1,fun j x g d z=>OwI.rd (h.2 j x g d z)⟩
theorem fE.app {w w':World} {B B':Nat} {xs d:List Value} {gs:List (List Int)} {v:Value} (h:fE w B xs gs) (z:Ow w B' 27 v d) (A:w.grownBy w' v.ownBlock):fE w' B xs gs:=h.map (fun _ _ k=>Ow.kept k A (qO k z (by decide)))
theorem fE.snoc {w:World} {B:Nat} {xs:List Value} {gs:List (List Int)} (h:fE w B xs gs) {x:Value} {g:List Int} (E:OwI w B x g):fE w B (xs++[x]) (gs++[g]):=by
 refine⟨by rw[aL,aL,h.1];rfl,fun j F G d z=>?_⟩
 by_cases A:j<xs.length
 ·rw[gS A] at d;rw[gS (by rw[<-h.1];exact A)] at z;exact h.2 j F G d z
 ·have H:=(List.getElem?_eq_some_iff.1 d).1;rw[aL,fK] at H;obtain rfl:j=xs.length:=by omega
  rw[AQ] at d;rw[h.1,AQ] at z;obtain rfl:=bW d;obtain rfl:=bW z;exact E
def UI (w w':World) (s:List UInt8) (a c n:Nat) (e:Ending):Prop:=
 ((bF s (a:Int) (c:Int) n).2.2=0/\∃v,e=.returned (.tuple #[v,.int .i64 (bF s (a:Int) (c:Int) n).2.1,.int .i64 0])/\RdL w' v (bF s (a:Int) (c:Int) n).1/\Below w.heap.size w w')\/
 ((bF s (a:Int) (c:Int) n).2.2≠0/\e=.returned (.tuple #[.slice none 0 0,.int .i64 0,.int .i64 (bF s (a:Int) (c:Int) n).2.2])/\Below w.heap.size w w')
theorem aJb (s:ByteArray) (a n c:Nat) (w:World) (hs:s.size<=1000000) (ha:a<=80000000) (hn:n<=6) (b0:2<=c) (b1:c<=258):
  Calls Tryz.prog 120 #[.string s,.int .i64 (a:Int),.int .i64 (n:Int),.int .i64 (c:Int)] w fun e w'=>UI w w' s.data.toList a c n e:=by
 have HL:=hid (show s.data.toList.length=s.size by simp);have a5:=hid (fun k=>DQ (s:=s.data.toList) (a:=(a:Int)) (c:=(c:Int)) (by omega) k);have a6:=hid (fun k (hk:k<=n) (h:(bF s.data.toList (a:Int) (c:Int) k).2.2≠0)=>show(bF s.data.toList (a:Int) (c:Int) n).2.2=(bF s.data.toList (a:Int) (c:Int) k).2.2 by
  have:=DP h (n-k);rwa[show k+(n-k)=n by omega] at this)
 go_enter Tryz.func120,Tryz.ntmps120;go_wp2_with fail
 go_loopg [11,12,13,14,15,16,17] n (fun g b2 b3 b4 _s14 _s15 _s16 _s17 wr=>∃(k p:Nat) (v:Value) (xs:List Value),k<=n/\g=n-k/\v=b2/\b4=.int .i64 (k:Int)/\b3=.int .i64 (p:Int)/\Hid ((bF s.data.toList (a:Int) (c:Int) k).2.2=0/\(bF s.data.toList (a:Int) (c:Int) k).2.1=(p:Int))/\Ow wr w.heap.size 27 v xs/\fE wr w.heap.size xs (bF s.data.toList (a:Int) (c:Int) k).1/\xs.length=k/\Below w.heap.size w wr)
 case atStart=>exact⟨0,a,_,[],aU _,rfl,rfl,rfl,rfl,hid ⟨rfl,rfl⟩,Ow.nil _ _ _,fE.nil _ _,rfl,aB _ _⟩
 case round=>
  obtain⟨k,p,v,xs,hk,hg,rfl,rfl,rfl,M,Z,hx,b5,A⟩:=hrel;have HG:=hid hg;clear hg;have c2:=A.size;have b6:=a5.out k M.out.1;rw[M.out.2,HL.out] at b6;have c4:p<=80000000:=by omega
  by_cases c5:k<n
  ·have v1:decide ((k:Int)<(n:Int))=true:=decide_eq_true (by omega);have d:=KR M.out.1;rw[M.out.2] at d;have F:=fun W=>aI8 s p c W hs (by omega) b0 b1
   unfold wM at F;obtain⟨z,V,q3,hq⟩:∃z V q3,eJ s.data.toList (p:Int) (c:Int)=(z,V,q3):=⟨_,_,_,rfl⟩;rw[hq] at d F;simp only at d F;have HQ:=hid hq;clear hq
   by_cases hq3:q3=0
   ·subst hq3;rw[if_neg (fun k=>k rfl)] at d;have O:=fun u W (h:RdI W u z)=>DH u z W h
    by_cases G:bL z=0
    ·rw[if_neg (fun k=>k G)] at d;rw[G] at O;have Y:=hid d;clear d G;go_wp2_with fail;refine(F _).mono ?_;rintro e w3 ⟨v3,rfl,T,H⟩;have hx:=hx.below H;have Z:=Z.below H (aA _);have A:=bV A H;have a0:=O v3 w3 (OwI.rd T);have b7:=A.size;have c6:=H.size;clear F O;have a2:=a5.out (k+1) (by rw[Y.out]);rw[Y.out] at a2;have a2:(a:Int)<=V:=a2.1;obtain⟨pp,rfl⟩:∃pp:Nat,V=(pp:Int):=⟨V.toNat,by omega⟩;obtain⟨I,J,rfl,_,_,_⟩:=(OwI.rd T).open;have b8:(xs.length+1)*24<=140737488355328:=by omega
     have b9:=hx.alloc (.cells #[.slice I z.length J] 27);have a4:=Ow.alloc Z (.cells #[.slice I z.length J] 27);have a7:=OwI.alloc (OwI.base T (show w.heap.size<=wr.heap.size by omega)) (.cells #[.slice I z.length J] 27);have c0:=A.alloc (o:=.cells #[.slice I z.length J] 27) b7;go_wp2_with fail;refine a0.mono ?_;rintro e w4 ⟨rfl,rfl⟩;clear a0;go_wp2_with (at_builtin;refine rD wK rfl _ _ rfl w.heap.size _ xs rfl a4 w4.heap.size (.slice I z.length J) rfl (bS _ _ _) rfl ?_ ?_ ?_;(exact b8);(simp;omega);intro v5 w5 r1 r2 r3)
     have a8:(w4.alloc (.cells #[.slice I z.length J] 27)).grownBy w5 v.ownBlock:=r3;have hg:=HG.out
     go_roundg (n-(k+1))
     case measure=>omega
     case rel=>
      refine⟨k+1,pp,_,xs++[.slice I z.length J],by omega,rfl,rfl,by go_num,rfl,hid ⟨by rw[Y.out],by rw[Y.out]⟩,r1,?_,by rw[aL,b5];rfl,c0.trans r2⟩;rw[Y.out];exact(b9.app a4 a8).snoc (Ow.kept a7 a8 (qO a7 a4 (by decide)))
    ·rw[if_pos G] at d;have v2:(bL z != 0)=true:=by simpa using G
     have L:=a6.out (k+1) (by omega) (by rw[d];exact G);rw[d] at L;have U:=hid L;have a1:=hid G;obtain⟨E,a9⟩:∃E,E=bL z:=⟨_,rfl⟩;rw[<-a9] at O v2 U a1;clear d G L a9;go_wp2_with fail;refine(F _).mono ?_;rintro e w3 ⟨v3,rfl,T,H⟩;have A:=bV A H;have a0:=O v3 w3 (OwI.rd T);clear F O;go_wp2_with fail;refine a0.mono ?_;rintro e w4 ⟨rfl,rfl⟩;go_wp2_with fail
     go_ret3
     exact .inr ⟨by rw[U.out];exact a1.out,by rw[U.out];rfl,A⟩
   ·rw[if_pos hq3] at d;have v2:(q3 != 0)=true:=by simpa using hq3
    have L:=a6.out (k+1) (by omega) (by rw[d];exact hq3);rw[d] at L;have U:=hid L;have a1:=hid hq3;clear d L;go_wp2_with fail;refine(F _).mono ?_;rintro e w3 ⟨v3,rfl,T,H⟩;have A:=bV A H;clear F;go_wp2_with fail
    go_ret3
    exact .inr ⟨by rw[U.out];exact a1.out,by rw[U.out];rfl,A⟩
  ·have v1:decide ((k:Int)<(n:Int))=false:=decide_eq_false (by omega);have c1:k=n:=by omega
   subst c1;go_wp2_with fail
   go_ret3
   exact .inl ⟨M.out.1,_,by rw[M.out.2];rfl,Z.rdL hx.ok,A⟩
theorem UJ {s:List UInt8} {a:Int} {t:List (List Int)} {ch:List Int} {fin:Int} {k:Nat} (h:(bH s a t ch fin k).2.2.1=0) (d:(bH s a t ch fin k).2.2.2=false):bH s a t ch fin (k+1)=
  if(bZ (t.getD (ch.getD (k/10) 0).toNat []) s (bH s a t ch fin k).2.1).2.2≠0 then((bH s a t ch fin k).1,(bH s a t ch fin k).2.1,(bZ (t.getD (ch.getD (k/10) 0).toNat []) s (bH s a t ch fin k).2.1).2.2,false)
  else if(bZ (t.getD (ch.getD (k/10) 0).toNat []) s (bH s a t ch fin k).2.1).1=fin then
   if k/10+1<ch.length then((bH s a t ch fin k).1++[(bZ (t.getD (ch.getD (k/10) 0).toNat []) s (bH s a t ch fin k).2.1).1],(bZ (t.getD (ch.getD (k/10) 0).toNat []) s (bH s a t ch fin k).2.1).2.1,3,false)
   else((bH s a t ch fin k).1++[(bZ (t.getD (ch.getD (k/10) 0).toNat []) s (bH s a t ch fin k).2.1).1],(bZ (t.getD (ch.getD (k/10) 0).toNat []) s (bH s a t ch fin k).2.1).2.1,0,true)
  else((bH s a t ch fin k).1++[(bZ (t.getD (ch.getD (k/10) 0).toNat []) s (bH s a t ch fin k).2.1).1],(bZ (t.getD (ch.getD (k/10) 0).toNat []) s (bH s a t ch fin k).2.1).2.1,0,false):=by
 show(if(bH s a t ch fin k).2.2.1≠0\/(bH s a t ch fin k).2.2.2=true then bH s a t ch fin k else _)=_;rw[if_neg (by rw[h,d];simp)]
theorem UK {s:List UInt8} {a:Int} {t:List (List Int)} {ch:List Int} {fin:Int} {k:Nat} (h:(bH s a t ch fin k).2.2.1≠0\/(bH s a t ch fin k).2.2.2=true):∀j,bH s a t ch fin (k+j)=bH s a t ch fin k
 |0=>rfl
 |j+1=>by
  have d:=UK h j;show(if(bH s a t ch fin (k+j)).2.2.1≠0\/(bH s a t ch fin (k+j)).2.2.2=true then bH s a t ch fin (k+j) else _)=_;rw[d,if_pos h]
theorem KS (s:List UInt8) (a:Int) (t:List (List Int)) (ch:List Int) (fin:Int):∀k,(bH s a t ch fin k).1.length<=k
 |0=>aA _
 |k+1=>by
  have d:=KS s a t ch fin k;unfold bH;simp only
  split
  ·omega
  ·split
   ·show(bH s a t ch fin k).1.length<=_;omega
   ·split
    ·split
     ·rw[aL];simp;omega
     ·rw[aL];simp;omega
    ·rw[aL];simp;omega
theorem UL {s:List UInt8} {a:Int} {t:List (List Int)} {ch:List Int} {fin:Int} {k:Nat} {r:List Int} {p E:Int} {b:Bool} (z:k<=10*ch.length) (h:bH s a t ch fin k=(r,p,E,b)) (d:E≠0\/b=true):
  gX s a t ch fin=if E≠0 then([],0,E) else(r,p,0):=by
 have:=UK (s:=s) (a:=a) (t:=t) (ch:=ch) (fin:=fin) (k:=k) (by rw[h];exact d) (10*ch.length-k);rw[show k+(10*ch.length-k)=10*ch.length by omega] at this;unfold gX;simp only[this,h];rcases d with q|q
 ·rw[if_pos q,if_pos q]
 ·subst q;simp
theorem UM {l:List Int} {s:List UInt8} {a:Nat} (h:(bZ l s (a:Int)).2.2=0):(a:Int)<=(bZ l s (a:Int)).2.1/\(bZ l s (a:Int)).2.1<=8*(s.length:Int)/\0<=(bZ l s (a:Int)).1/\(bZ l s (a:Int)).1<(l.length:Int):=by
 have z:bL l=0:=by
  unfold bZ at h;split at h
  ·next q=>exact absurd h q
  ·next q=>exact dK.1 q
 by_cases A:∃i,i<l.length/\gZ l s a i
 ·obtain⟨i,hi,d⟩:=A;rw[uB z hi d];have:=d.1;simp only
  omega
 ·exfalso;rw[uD z (fun i hi d=>A ⟨i,hi,d⟩)] at h;split at h<;>simp at h
def KU (w w':World) (s:List UInt8) (a:Nat) (T:List (List Int)) (ch:List Int) (fin:Int) (e:Ending):Prop:=
 ∃v,e=.returned (.tuple #[v,.int .i64 (gX s (a:Int) T ch fin).2.1,.int .i64 (gX s (a:Int) T ch fin).2.2])/\OwI w' w.heap.size v (gX s (a:Int) T ch fin).1/\Below w.heap.size w w'
theorem KV {w w':World} {s:List UInt8} {a:Nat} {T:List (List Int)} {ch:List Int} {fin E:Int} (h:gX s (a:Int) T ch fin=([],0,E)) (d:Below w.heap.size w w'):KU w w' s a T ch fin (.returned (.tuple #[.slice none 0 0,.int .i64 0,.int .i64 E])):=by
 refine⟨.slice none 0 0,?_,?_,d⟩
 ·rw[h]
 ·rw[h];exact OwI.nil _ _
theorem aJc (s:ByteArray) (a:Nat) (vt vc:Value) (T:List (List Int)) (ch:List Int) (fin:Int) (w:World) (hs:s.size<=1000000) (ha:a<=80000000) (ht:RdL w vt T) (hc:RdI w vc ch) (hT:∀l∈T,bL l=0) (a2:∀x∈ch,0<=x/\x<(T.length:Int)) (hn:ch.length<=40000):
  Calls Tryz.prog 121 #[.string s,.int .i64 (a:Int),vt,vc,.int .i64 fin] w fun e w'=>KU w w' s.data.toList a T ch fin e:=by
 have HL:=hid (show s.data.toList.length=s.size by simp);have HT:=hid hT;have a9:=hid a2;obtain⟨at',ct,rfl,c4,b0,a3⟩:=ht.open;unfold maxLen at b0;obtain⟨ac,cc,rfl,c5,b1,a4⟩:=hc.open;unfold maxLen at b1;obtain⟨N,hN⟩:∃N,N=10*ch.length:=⟨_,rfl⟩;have m1:aI.wrap (10*(ch.length:Int))=(N:Int):=by rw[aM];omega
 have m2:10*(ch.length:Int)=(N:Int):=by omega
 have a1:=hid (fun k (r:List Int) (p E:Int) (b:Bool) (hk:k<=N) (h:bH s.data.toList (a:Int) T ch fin k=(r,p,E,b)) (hE:E≠0\/b=true)=>UL (by omega) h hE);have b2:=hid (fun(r:List Int) (p:Int) (h:bH s.data.toList (a:Int) T ch fin N=(r,p,0,false))=>show gX s.data.toList (a:Int) T ch fin=([],0,3) by
  unfold gX;rw[<-hN,h];rfl)
 have b3:=hid (KS s.data.toList (a:Int) T ch fin);have HN:=hid hN;clear ht hc hT a2 hN;go_enter Tryz.func121,Tryz.ntmps121;go_wp2_with fail
 go_loopg [13,14,15,16,17,18] N (fun g b4 b5 b6 _s16 _s17 _s18 wr=>∃(k p:Nat) (v:Value) (r:List Int),k<=N/\g=N-k/\v=b4/\b6=.int .i64 (k:Int)/\b5=.int .i64 (p:Int)/\p<=80000000/\Hid (bH s.data.toList (a:Int) T ch fin k=(r,(p:Int),0,false))/\OwI wr w.heap.size v r/\Below w.heap.size w wr)
 case atStart=>exact⟨0,a,_,[],aU _,rfl,rfl,rfl,rfl,ha,hid rfl,OwI.nil _ _,aB _ _⟩
 case round=>
  obtain⟨k,p,v,r,hk,hg,rfl,rfl,rfl,hp,U,O,F⟩:=hrel;have HG:=hid hg;clear hg;have c6:=F.size;have c7:r.length<=400000:=by
   have h1:=b3.out k;rw[U.out] at h1;have h1:r.length<=k:=h1;have:=HN.out;omega
  by_cases c8:k<N
  ·have v1:decide ((k:Int)<(N:Int))=true:=decide_eq_true (by omega);obtain⟨q,hq⟩:∃q,q=k/10:=⟨_,rfl⟩;have b7:q<ch.length:=by have:=HN.out;omega
   have m3:(k:Int).tdiv 10=(q:Int):=by rw[hq];exact Int.ofNat_tdiv k 10
   have m4:aI.wrap (q:Int)=(q:Int):=by rw[aM];omega
   have m5:(k:Int)/10=(q:Int):=by omega
   obtain⟨bc,oc,rfl,b8,a5⟩:=a4 (by omega);obtain⟨x,hx⟩:=dH b7;have c1:=(F.cell (p:=⟨bc,oc+q,none⟩) b8).trans (a5 q x hx);have c9:=a9.out x (cH hx);have e1:ch.getD (k/10) 0=x:=by rw[<-hq,aV,hx];rfl
   obtain⟨X,rfl⟩:∃X:Nat,x=(X:Int):=⟨x.toNat,by omega⟩;have b9:X<T.length:=by omega
   obtain⟨l,hl⟩:∃l,T[X]? =some l:=⟨_,aN b9⟩;have e2:T.getD X []=l:=by rw[aV,hl];rfl
   obtain⟨bt,ot,rfl,c0,a6⟩:=a3 (by omega);obtain⟨y,hy1,hy2⟩:=a6 X l hl;have c2:=(F.cell (p:=⟨bt,ot+X,none⟩) c0).trans hy1;obtain⟨ay,cy,rfl,_,_,_⟩:=hy2.open;have hy3:=hy2.below F;have a7:=HT.out l (cH hl);have G:=aJa _ l s p wr hy3 a7 hs (by omega);have d:=UJ (s:=s.data.toList) (a:=(a:Int)) (t:=T) (ch:=ch) (fin:=fin) (k:=k) (by rw[U.out]) (by rw[U.out]);rw[U.out,e1,eG,e2] at d;simp only at d;have H:=UM (l:=l) (s:=s.data.toList) (a:=p);rw[HL.out] at H;obtain⟨I,q2,q3,a8⟩:∃I q2 q3,bZ l s.data.toList (p:Int)=(I,q2,q3):=⟨_,_,_,rfl⟩
   rw[a8] at d G H;simp only at d G H;have hq10:k/10=q:=hq.symm;rw[hq10] at d;clear hq a5 a4 hx e1 e2 hl a6 a3 hy1 hy2 hy3 a8 hq10 a7
   by_cases hq3:q3=0
   ·subst hq3;rw[if_neg (fun k=>k rfl)] at d;obtain⟨p1,p2,p3,p4⟩:=H rfl;obtain⟨pp,rfl⟩:∃pp:Nat,q2=(pp:Int):=⟨q2.toNat,by omega⟩
    by_cases M:I=fin
    ·rw[if_pos M] at d;have v2:(I==fin)=true:=by rw[beq_iff_eq];exact M
     have m6:aI.wrap ((ch.length:Int)-1)=(ch.length:Int)-1:=by rw[aM];omega
     by_cases a0:q+1<ch.length
     ·rw[if_pos a0] at d;have v3:decide ((q:Int)<(ch.length:Int)-1)=true:=decide_eq_true (by omega);have z:=a1.out (k+1) _ _ _ _ (by omega) d (.inl (by decide));rw[if_pos (by decide)] at z;have J:=hid z;clear d z H M a0;go_wp2_with fail;refine G.mono ?_;rintro e w3 ⟨rfl,A⟩;have V:=OwI.below O A (aA _);have L:=bV F A;have Y:=L.size;clear G O A;go_wp2_with (at_builtin;refine eN rfl _ _ rfl w.heap.size _ _ rfl (OwI.alloc V _) _ I rfl (bS _ _ _) ?_ ?_ ?_;(omega);(simp;omega);intro v4 w4 r1 Z r3)
      go_ret3
      exact KV J.out ((L.alloc Y _).trans Z)
     ·rw[if_neg a0] at d;have v3:decide ((q:Int)<(ch.length:Int)-1)=false:=decide_eq_false (by omega);have z:=a1.out (k+1) _ _ _ _ (by omega) d (.inr rfl);rw[if_neg (fun k=>k rfl)] at z;have J:=hid z;clear d z H M a0;go_wp2_with fail;refine G.mono ?_;rintro e w3 ⟨rfl,A⟩;have V:=OwI.below O A (aA _);have L:=bV F A;have Y:=L.size;clear G O A;go_wp2_with (at_builtin;refine eN rfl _ _ rfl w.heap.size _ _ rfl (OwI.alloc V _) _ I rfl (bS _ _ _) ?_ ?_ ?_;(omega);(simp;omega);intro v4 w4 r1 Z r3)
      go_ret3
      exact⟨_,by rw[J.out];rfl,by rw[J.out];exact r1,(L.alloc Y _).trans Z⟩
    ·rw[if_neg M] at d;have v2:(I==fin)=false:=by rw[beq_eq_false_iff_ne];exact M
     have HS:=hid d;clear d H M;go_wp2_with fail;refine G.mono ?_;rintro e w3 ⟨rfl,A⟩;have V:=OwI.below O A (aA _);have L:=bV F A;have Y:=L.size;clear G O A;go_wp2_with (at_builtin;refine eN rfl _ _ rfl w.heap.size _ _ rfl (OwI.alloc V _) _ I rfl (bS _ _ _) ?_ ?_ ?_;(omega);(simp;omega);intro v4 w4 r1 Z r3);have hg:=HG.out
     go_roundg (N-(k+1))
     case measure=>omega
     case rel=>exact⟨k+1,pp,_,_,by omega,rfl,rfl,by go_num,rfl,by omega,HS,r1,(L.alloc Y _).trans Z⟩
   ·rw[if_pos hq3] at d;have v2:(q3 != 0)=true:=by simpa using hq3
    have z:=a1.out (k+1) _ _ _ _ (by omega) d (.inl hq3);rw[if_pos hq3] at z;have J:=hid z;clear d H z;go_wp2_with fail;refine G.mono ?_;rintro e w3 ⟨rfl,A⟩;go_wp2_with fail
    go_ret3
    exact KV J.out (bV F A)
  ·have v1:decide ((k:Int)<(N:Int))=false:=decide_eq_false (by omega);have c3:k=N:=by omega
   subst c3;have z:=b2.out _ _ U.out;have J:=hid z;clear z;go_wp2_with fail
   go_ret3
   exact KV J.out F
theorem UN (s:List UInt8) (a c:Int):cV s a c=
  if aO s.length a 3≠0 then([],0,aO s.length a 3)
  else if aE s a 3<2\/6<aE s a 3 then([],0,3)
  else if aO s.length (a+3) 15≠0 then([],0,aO s.length (a+3) 15)
  else if aE s (a+3) 15=0 then([],0,3)
  else if(dD s (a+18) (aE s (a+3) 15) (aE s a 3)).2.2≠0 then([],0,(dD s (a+18) (aE s (a+3) 15) (aE s a 3)).2.2)
  else if(bF s (dD s (a+18) (aE s (a+3) 15) (aE s a 3)).2.1 c (aE s a 3)).2.2≠0 then([],0,(bF s (dD s (a+18) (aE s (a+3) 15) (aE s a 3)).2.1 c (aE s a 3)).2.2)
  else gX s (bF s (dD s (a+18) (aE s (a+3) 15) (aE s a 3)).2.1 c (aE s a 3)).2.1 (bF s (dD s (a+18) (aE s (a+3) 15) (aE s a 3)).2.1 c (aE s a 3)).1 (dD s (a+18) (aE s (a+3) 15) (aE s a 3)).1 (c-1):=rfl
def KW (w w':World) (s:List UInt8) (a c:Nat) (e:Ending):Prop:=
 ∃v,e=.returned (.tuple #[v,.int .i64 (cV s (a:Int) (c:Int)).2.1,.int .i64 (cV s (a:Int) (c:Int)).2.2])/\OwI w' w.heap.size v (cV s (a:Int) (c:Int)).1/\Below w.heap.size w w'
theorem uV {w w':World} {s:List UInt8} {a c:Nat} {E:Int} (h:cV s (a:Int) (c:Int)=([],0,E)) (d:Below w.heap.size w w'):KW w w' s a c (.returned (.tuple #[.slice none 0 0,.int .i64 0,.int .i64 E])):=by
 refine⟨.slice none 0 0,?_,?_,d⟩
 ·rw[h]
 ·rw[h];exact OwI.nil _ _
theorem UO {s:List UInt8} {a n t:Nat} (z:2<=t) (d:t<=6) (A:n<=1048576) (h:(dD s (a:Int) (n:Int) (t:Int)).2.2=0):
  (dD s (a:Int) (n:Int) (t:Int)).1.length=n/\(∀x∈(dD s (a:Int) (n:Int) (t:Int)).1,0<=x/\x<(t:Int))/\(a:Int)<=(dD s (a:Int) (n:Int) (t:Int)).2.1/\((dD s (a:Int) (n:Int) (t:Int)).2.1=(a:Int)\/(dD s (a:Int) (n:Int) (t:Int)).2.1<=8*(s.length:Int)):=by
 rw[DO s a n t z d A] at h ⊢;split at h
 ·next q=>exact absurd h q
 ·next q=>
  rw[if_neg q];obtain⟨E,F,G,H⟩:=wG s (t:Int) (a:Int) (by omega) (by omega) n (dK.1 q);refine⟨by rw[List.length_map,oO];exact E,fun x I=>?_,G,H⟩;obtain⟨b,J,rfl⟩:=List.mem_map.1 I;have:=(KA d b).1 (IQ _ _ (fun y L=>by rw[oR];exact F y L) b J);omega
theorem aJd (s:ByteArray) (a c:Nat) (w:World) (L:s.size<=1000000) (ha:a<=70000000) (b7:2<=c) (b8:c<=258):
  Calls Tryz.prog 55 #[.string s,.int .i64 (a:Int),.int .i64 (c:Int)] w fun e w'=>KW w w' s.data.toList a c e:=by
 have HL:=hid (show s.data.toList.length=s.size by simp);have a4:=fun W=>oP s (a:Int) 3 W L (by decide) (by omega) (by omega)
 have a5:=fun W=>oP s ((a:Int)+3) 15 W L (by decide) (by omega) (by omega)
 have a6:=iA s.data.toList (a:Int) 3;have a7:=iA s.data.toList ((a:Int)+3) 15;have d:=UN s.data.toList (a:Int) (c:Int);rw[HL.out] at d;have a9:=fQ (n:=s.size) (at':=(a:Int)) (k:=3);have a8:=fQ (n:=s.size) (at':=((a:Int)+3)) (k:=15);obtain⟨V,Y⟩:∃V,V=aO s.size (a:Int) 3:=⟨_,rfl⟩;obtain⟨z,Z⟩:∃z,z=aE s.data.toList (a:Int) 3:=⟨_,rfl⟩;obtain⟨E2,a0⟩:∃E2,E2=aO s.size ((a:Int)+3) 15:=⟨_,rfl⟩;obtain⟨F,a1⟩:∃F,F=aE s.data.toList ((a:Int)+3) 15:=⟨_,rfl⟩;rw[<-Y,<-Z] at a4;rw[<-a0,<-a1] at a5;rw[<-Z] at a6;rw[<-a1] at a7;rw[<-Y] at a9;rw[<-a0] at a8
 rw[<-Y,<-Z,<-a0,<-a1] at d;clear Y Z a0 a1;have a6:z<8:=a6;have a7:F<32768:=a7;have m1:aI.wrap ((a:Int)+3)=(a:Int)+3:=by rw[aM];omega
 obtain⟨A,hA⟩:∃A,A=a+18:=⟨_,rfl⟩;have m2:aI.wrap ((a:Int)+18)=(A:Int):=by rw[aM];omega
 have m3:(a:Int)+18=(A:Int):=by omega
 have m7:aI.wrap (A:Int)=(A:Int):=by rw[aM];omega
 have c5:A<=70000018:=by omega
 clear hA;have m4:aI.wrap (z:Int)=(z:Int):=by rw[aM];omega
 have m5:aI.wrap (F:Int)=(F:Int):=by rw[aM];omega
 have m6:aI.wrap ((c:Int)-1)=(c:Int)-1:=by rw[aM];omega
 go_enter Tryz.func55,Tryz.ntmps55;go_wp2_with fail;refine(a4 _).mono ?_;rintro e w1 ⟨rfl,rfl⟩
 by_cases h1:V=0
 rotate_left
 ·have u1:(V != 0)=true:=by simpa using h1
  rw[if_pos h1] at d;have E:=hid d;clear d;go_wp2_with fail
  go_ret3
  exact uV E.out (aB _ _)
 subst h1;rw[if_neg (fun k=>k rfl)] at d
 by_cases h2:z<2\/6<z
 ·rw[if_pos h2] at d;have E:=hid d;clear d
  by_cases h3:z<2
  ·have u1:decide ((z:Int)<2)=true:=decide_eq_true (by omega);go_wp2_with fail
   go_ret3
   exact uV E.out (aB _ _)
  ·have u1:decide ((z:Int)<2)=false:=decide_eq_false (by omega);have u2:decide ((z:Int)>6)=true:=decide_eq_true (by omega);have u3:decide (6<(z:Int))=true:=decide_eq_true (by omega);go_wp2_with fail
   go_ret3
   exact uV E.out (aB _ _)
 rw[if_neg h2] at d;have u1:decide ((z:Int)<2)=false:=decide_eq_false (by omega);have u2:decide ((z:Int)>6)=false:=decide_eq_false (by omega);have u3:decide (6<(z:Int))=false:=decide_eq_false (by omega);have b0:2<=z:=by omega
 have b1:z<=6:=by omega
 clear h2;go_wp2_with fail;refine(a5 _).mono ?_;rintro e w2 ⟨rfl,rfl⟩
 by_cases h3:E2=0
 rotate_left
 ·have u4:(E2 != 0)=true:=by simpa using h3
  rw[if_pos h3] at d;have E:=hid d;clear d;go_wp2_with fail
  go_ret3
  exact uV E.out (aB _ _)
 subst h3;rw[if_neg (fun k=>k rfl)] at d;have a8:=a8 rfl
 by_cases M:F=0
 ·rw[if_pos M] at d;have E:=hid d;subst M;clear d;go_wp2_with fail
  go_ret3
  exact uV E.out (aB _ _)
 rw[if_neg M] at d;have u4:((F:Int)==0)=false:=by rw[beq_eq_false_iff_ne];omega
 have u5:(F==0)=false:=by rw[beq_eq_false_iff_ne];exact M
 have O:=fun W=>aI6 s A F z W L (by omega) (by omega) b0 b1
 have G:=UO (s:=s.data.toList) (a:=A) (n:=F) (t:=z) b0 b1 (by omega);unfold yX at O;rw[m3] at d;obtain⟨c1,c2,c3,b2⟩:∃c1 c2 c3,dD s.data.toList (A:Int) (F:Int) (z:Int)=(c1,c2,c3):=⟨_,_,_,rfl⟩;rw[b2] at O G d;simp only at O G d;rw[HL.out] at G;clear b2 M a4 a5 a9;go_wp2_with fail;refine(O _).mono ?_;rintro e w3 ⟨v3,rfl,b3,a2⟩;clear O
 by_cases h5:c3=0
 rotate_left
 ·have u6:(c3 != 0)=true:=by simpa using h5
  rw[if_pos h5] at d;have E:=hid d;clear d G;go_wp2_with fail
  go_ret3
  exact uV E.out a2
 subst h5;rw[if_neg (fun k=>k rfl)] at d;obtain⟨s1,s2,s3,s4⟩:=G rfl;obtain⟨H,rfl⟩:∃H:Nat,c2=(H:Int):=⟨c2.toNat,by omega⟩;have I:=aJb s H z c w3 L (by omega) (by omega) b7 b8;have T:=DM s.data.toList (H:Int) (c:Int) z;have J:=DQ (s:=s.data.toList) (a:=(H:Int)) (c:=(c:Int)) (by omega) z;unfold UI at I;obtain⟨t1,t2,t3,b4⟩:∃t1 t2 t3,bF s.data.toList (H:Int) (c:Int) z=(t1,t2,t3):=⟨_,_,_,rfl⟩;rw[b4] at I T J d;simp only at I T J d;rw[HL.out] at J;have b5:=OwI.rd b3;clear b4 G b3;go_wp2_with fail;refine I.mono ?_;rintro e w4 (⟨h6,v4,rfl,b6,U⟩|⟨h6,rfl,U⟩)
 rotate_left
 ·have u6:(t3 != 0)=true:=by simpa using h6
  rw[if_pos h6] at d;have E:=hid d;clear d T J I;go_wp2_with fail
  go_ret3
  exact uV E.out (bV a2 U)
 subst h6;rw[if_neg (fun k=>k rfl)] at d;obtain⟨k1,k2⟩:=T rfl;obtain⟨k3,k4⟩:=J rfl;obtain⟨p3,rfl⟩:∃p3:Nat,t2=(p3:Int):=⟨t2.toNat,by omega⟩;have a3:=aJc s p3 v4 v3 t1 c1 ((c:Int)-1) w4 L (by omega) b6 (b5.below U) (fun l hl=>(k2 l hl).1) (fun x hx=>by have:=s2 x hx;omega) (by omega);unfold KU at a3;rw[<-d] at a3;have hB:=bV a2 U;have b9:=hB.size;clear I T J d b6 b5 U a2 k2 s2;go_wp2_with fail;refine a3.mono ?_;rintro e w5 ⟨v5,rfl,c0,c4⟩;clear a3;go_wp2_with fail
 go_ret3
 exact⟨v5,rfl,OwI.base c0 b9,bV hB c4⟩
def EU (w w':World) (b:Nat) (s:ByteArray) (a:Nat) (d z A:Value) (T:List (List Int)) (ch:List Int) (fin:Int) (e:Ending):Prop:=
 ((gX s.data.toList (a:Int) T ch fin).2.2=0/\(∃v,e=.returned v/\OwI w' w.heap.size v (gX s.data.toList (a:Int) T ch fin).1)/\(∃p:Nat,(gX s.data.toList (a:Int) T ch fin).2.1=(p:Int)/\BRd w' b s p d z A)/\w.grownBy w' (some b))\/
 ((gX s.data.toList (a:Int) T ch fin).2.2≠0/\e=.panicked (oC (gX s.data.toList (a:Int) T ch fin).2.2)/\w.grownBy w' (some b))
theorem MU {w w':World} {b:Nat} {s:ByteArray} {a:Nat} {d z A:Value} {T:List (List Int)} {ch:List Int} {fin E:Int} (h:gX s.data.toList (a:Int) T ch fin=([],0,E)) (F:E≠0) (G:w.grownBy w' (some b)):EU w w' b s a d z A T ch fin (.panicked (oC E)):=
 .inr (by rw[h];exact⟨F,rfl,G⟩)
theorem aQl {w w':World} {b p:Nat} {s:ByteArray} {a:Nat} {d z A v:Value} {T:List (List Int)} {ch r:List Int} {fin:Int} (h:gX s.data.toList (a:Int) T ch fin=(r,(p:Int),0)) (E:OwI w' w.heap.size v r) (F:BRd w' b s p d z A) (G:w.grownBy w' (some b)):EU w w' b s a d z A T ch fin (.returned v):=
 .inl (by rw[h];exact⟨rfl,⟨v,rfl,E⟩,⟨p,rfl,F⟩,G⟩)
theorem gbK {A B C:World} {g:Option Nat} (h:A.grownBy B g) (k:Below A.heap.size B C):A.grownBy C g:=
 ⟨k.os.trans h.os,k.tape.trans h.tape,k.output.trans h.output,aW h.size k.size,fun i hi d=>(k.block i hi).trans (h.block i hi d)⟩
theorem aAj {d z:World} {E F G H:Addr} {v1 v2 v3 v4:Value} {B:Nat} {w0:World}
  (h:d.cell? E=some v1/\d.cell? F=some v2/\d.cell? G=some v3/\d.cell? H=some v4/\Below B w0 d/\B<=d.heap.size) (A:Below d.heap.size d z):
  z.cell? E=some v1/\z.cell? F=some v2/\z.cell? G=some v3/\z.cell? H=some v4/\Below B w0 z/\B<=z.heap.size:=by
 obtain⟨L,M,O,T,U,I⟩:=h;have k:∀{p:Addr} {v:Value},d.cell? p=some v->z.cell? p=some v:=fun{p} {v} J=>(A.cell (World.block_lt_of_cell? d p J)).trans J
 exact⟨k L,k M,k O,k T,U.trans (A.mono I),aW I A.size⟩
theorem RdI.openG {w:World} {b:Nat} {v:Value} {l:List Int} (h:∀W,w.grownBy W (some b)->RdI W v l) (E:0<l.length):
  ∃z off cap,v=.slice (some ⟨z,off,none⟩) l.length cap/\l.length<=cap/\cap<=maxLen/\∀W,w.grownBy W (some b)->∀j x,l[j]? =some x->W.cell? ⟨z,off+j,none⟩=some (.int .i64 x):=by
 obtain⟨a,cap,rfl,F,G,A⟩:=(h w (gbB (aB _ _))).open;obtain⟨z,off,rfl,-,-⟩:=A E;refine⟨z,off,cap,rfl,F,G,fun W H j x I=>?_⟩;obtain⟨M,O,d,-,-,A⟩:=(h W H).open;obtain⟨T,U,J,-,L⟩:=A E
 injection d with d
 rw[J] at d
 injection d with d
 injection d with he1 he2
 rw[he1,he2];exact L j x I
theorem RdL.openG {w:World} {b:Nat} {v:Value} {gs:List (List Int)} (h:∀W,w.grownBy W (some b)->RdL W v gs) (E:0<gs.length):
  ∃z off cap,v=.slice (some ⟨z,off,none⟩) gs.length cap/\gs.length<=cap/\cap<=maxLen/\∀W,w.grownBy W (some b)->∀(j:Nat) (g:List Int),gs[j]? =some g->∃x,W.cell? ⟨z,off+j,none⟩=some x/\RdI W x g:=by
 obtain⟨a,cap,rfl,F,G,A⟩:=(h w (gbB (aB _ _))).open;obtain⟨z,off,rfl,-,-⟩:=A E;refine⟨z,off,cap,rfl,F,G,fun W H j x I=>?_⟩;obtain⟨M,O,d,-,-,A⟩:=(h W H).open;obtain⟨T,U,J,-,L⟩:=A E
 injection d with d
 rw[J] at d
 injection d with d
 injection d with he1 he2
 rw[he1,he2];exact L j x I
theorem aQm (b:Nat) (s:ByteArray) (a C:Nat) (vt vc:Value) (T:List (List Int)) (ch:List Int) (w:World) (z:BRd w b s a vt vc (.int .i64 (C:Int))) (hs:s.size<=1000000) (ha:a<=80000000)
  (ht:∀W,w.grownBy W (some b)->RdL W vt T) (hc:∀W,w.grownBy W (some b)->RdI W vc ch) (hT:∀l∈T,bL l=0) (b0:∀x∈ch,0<=x/\x<(T.length:Int)) (b1:0<ch.length) (hn:ch.length<=40000) (b2:0<T.length) (f1:2<=C) (f2:C<=258):
  Calls Tryz.prog 114 #[.pointer (some ⟨b,0,none⟩)] w fun e w'=>EU w w' b s a vt vc (.int .i64 (C:Int)) T ch ((C:Int)-1) e:=by
 have HL:=hid (show s.data.toList.length=s.size by simp);have b3:w.grownBy w (some b):=gbB (aB _ _);obtain⟨L,O,ct,rfl,b8,b9,b4⟩:=RdL.openG ht b2;unfold maxLen at b9;obtain⟨bc,oc,cc,rfl,c0,c3,b5⟩:=RdI.openG hc b1;unfold maxLen at c3;have a0:b<w.heap.size:=Arr.lt z;obtain⟨N,hN⟩:∃N,N=ch.length:=⟨_,rfl⟩;obtain⟨M,hM⟩:∃M,M=T.length:=⟨_,rfl⟩;have m2:aI.wrap ((C:Int)-1)=(C:Int)-1:=by rw[aM];omega
 have a5:=hid (fun k (r:List Int) (p E:Int) (b:Bool) (hk:k<=10*N) (h:bH s.data.toList (a:Int) T ch ((C:Int)-1) k=(r,p,E,b)) (hE:E≠0\/b=true)=>UL (by omega) h hE);have c4:=hid (fun k (r:List Int) (p:Int) (hk:k=10*N) (h:bH s.data.toList (a:Int) T ch ((C:Int)-1) k=(r,p,0,false))=>show gX s.data.toList (a:Int) T ch ((C:Int)-1)=([],0,3) by
  unfold gX;rw[<-hN,<-hk,h];rfl)
 have c8:=hid (KS s.data.toList (a:Int) T ch ((C:Int)-1));have c9:=hid (fun(i:Nat) (hi:i<N)=>show ∃(X:Nat) (l:List Int),ch[i]? =some (X:Int)/\T[X]? =some l/\X<M/\bL l=0/\∀W,w.grownBy W (some b)->W.cell? ⟨bc,oc+i,none⟩=some (.int .i64 (X:Int))/\∃x,W.cell? ⟨L,O+X,none⟩=some x/\RdI W x l by
  obtain⟨x,hx⟩:=dH (show i<ch.length by omega);have f3:=b0 x (cH hx);obtain⟨X,rfl⟩:∃X:Nat,x=(X:Int):=⟨x.toNat,by omega⟩;have d5:X<T.length:=by omega
  have hl:T[X]? =some T[X]:=aN d5;exact⟨X,_,hx,hl,by omega,hT _ (cH hl),fun W hW=>⟨b5 W hW i _ hx,b4 W hW X _ hl⟩⟩)
 have d6:=hid (fun(i j k p X:Nat) (l r:List Int) (hk:k=10*i+j) (hj:j<10) (hx:ch[i]? =some (X:Int)) (hl:T[X]? =some l) (h:bH s.data.toList (a:Int) T ch ((C:Int)-1) k=(r,(p:Int),0,false))=>
  show bH s.data.toList (a:Int) T ch ((C:Int)-1) (k+1)=
   if(bZ l s.data.toList (p:Int)).2.2≠0 then(r,(p:Int),(bZ l s.data.toList (p:Int)).2.2,false)
   else if(bZ l s.data.toList (p:Int)).1=(C:Int)-1 then
    if i+1<N then(r++[(bZ l s.data.toList (p:Int)).1],(bZ l s.data.toList (p:Int)).2.1,3,false)
    else(r++[(bZ l s.data.toList (p:Int)).1],(bZ l s.data.toList (p:Int)).2.1,0,true)
   else(r++[(bZ l s.data.toList (p:Int)).1],(bZ l s.data.toList (p:Int)).2.1,0,false) by
  rw[UJ (by rw[h]) (by rw[h]),h];have e1:ch.getD (k/10) 0=(X:Int):=by rw[show k/10=i by omega,aV,hx];rfl
  have e2:T.getD X []=l:=by rw[aV,hl];rfl
  rw[e1,eG,e2,hN,show k/10=i by omega])
 rw[<-hN] at hn c0 b1;rw[<-hM] at b8 b2;rw[<-hN,<-hM] at z ⊢;have m3:aI.wrap ((N:Int)-1)=(N:Int)-1:=by rw[aM];omega
 clear ht hc hT b0 b5 b4 hM hN;have d3:=Arr.cell z (i:=3) rfl;go_enter Tryz.func114,Tryz.ntmps114;go_wp2_with fail;clear d3
 go_loopg [2,3,4,5,6,7,13,18] N (fun g s2 _s3 _s4 _s5 _s6 _s7 d7 _s18 wr=>∃(i p k:Nat) (v:Value) (r:List Int),i<=N/\g=N-i/\v=s2/\d7=.int .i64 (i:Int)/\p<=80000000/\Hid (k=10*i)/\Hid (bH s.data.toList (a:Int) T ch ((C:Int)-1) k=(r,(p:Int),0,false))/\OwI wr w.heap.size v r/\BRd wr b s p (.slice (some ⟨L,O,none⟩) M ct) (.slice (some ⟨bc,oc,none⟩) N cc) (.int .i64 (C:Int))/\w.grownBy wr (some b))
 case atStart=>exact⟨0,a,0,_,[],aU _,rfl,rfl,rfl,ha,hid rfl,hid rfl,OwI.nil _ _,z,b3⟩
 case round=>
  clear z b3;obtain⟨i,p,k,v,r,hi,hg,rfl,rfl,hp,J,HS,H,z,A⟩:=hrel;have HG:=hid hg;clear hg
  by_cases d8:i<N
  ·have v1:decide ((i:Int)<(N:Int))=true:=decide_eq_true (by omega);obtain⟨X,l,hx,hl,f4,d9,a6⟩:=c9.out i d8;have c1:=(a6 wr A).1;have HX:=hid hx;have e0:=hid hl;have e3:=hid a6;clear hx hl a6;go_wp2_with fail;clear c1
   go_loopg [2,5,6,7,18] 10 (fun g s2 _s5 _s6 _s7 e4 wr=>∃(j p k:Nat) (v:Value) (r:List Int),j<=10/\g=10-j/\v=s2/\e4=.int .i64 (j:Int)/\p<=80000000/\Hid (k=10*i+j)/\Hid (bH s.data.toList (a:Int) T ch ((C:Int)-1) k=(r,(p:Int),0,false))/\OwI wr w.heap.size v r/\BRd wr b s p (.slice (some ⟨L,O,none⟩) M ct) (.slice (some ⟨bc,oc,none⟩) N cc) (.int .i64 (C:Int))/\w.grownBy wr (some b))
   case atStart=>exact⟨0,p,k,_,r,by omega,rfl,rfl,rfl,hp,hid J.out,HS,H,z,A⟩
   case round=>
    clear z A H J HS hp;obtain⟨j,p,k,v,r,hj,hg,rfl,rfl,hp,J,HS,H,z,A⟩:=hrel;have e5:=hid hg;clear hg
    by_cases e6:j<10
    ·have v2:decide ((j:Int)<10)=true:=decide_eq_true (by omega);have f5:r.length<=400000:=by
      have h1:=c8.out k;rw[HS.out] at h1;have h1:r.length<=k:=h1;have:=J.out;omega
     obtain⟨x,c2,a7⟩:=(e3.out wr A).2;have d:=d6.out i j k p X l r J.out e6 HX.out e0.out HS.out;have a1:=fun W (h:Below wr.heap.size wr W)=>aQk x l s p W (a7.below h) d9 hs (by omega)
     have a2:=UM (l:=l) (s:=s.data.toList) (a:=p);rw[HL.out] at a2;obtain⟨F,q2,q3,b6⟩:∃F q2 q3,bZ l s.data.toList (p:Int)=(F,q2,q3):=⟨_,_,_,rfl⟩;rw[b6] at d a1 a2;simp only at d a1 a2;obtain⟨ax,cx,rfl,_,_,_⟩:=a7.open;have d0:=Arr.cell z (i:=0) rfl;have d1:=Arr.cell z (i:=1) rfl;have d2:=Arr.cell z (i:=2) rfl;have b7:=hid d;have e7:=hid a2;clear b6 a7 d a2;go_upto_region 6 with fail
     go_cut [5,6,7] (fun c5 c6 c7 wx=>c5=.int .i64 F/\c6=.int .i64 q2/\c7=.int .i64 q3/\Below wr.heap.size wr wx)
     case first=>
      obtain⟨V,a8⟩:∃V,V=wr.heap.size:=⟨_,rfl⟩;rw[<-a8] at a1;have e8:=hid a8;have a1:=fun W (h:W.cell? ⟨b,0,none⟩=some (.string s)/\W.cell? ⟨b,1,none⟩=some (.int .i64 (p:Int))/\W.cell? ⟨b,2,none⟩=some (.slice (some ⟨L,O,none⟩) M ct)/\W.cell? ⟨L,O+X,none⟩=some (.slice ax l.length cx)/\Below V wr W/\V<=W.heap.size)=>a1 W h.2.2.2.2.1
      have f6:=aAj (B:=V) (w0:=wr) ⟨d0,d1,d2,c2,aB _ _,by omega⟩ (aB wr.heap.size wr).drew;clear a8 d0 d1 d2 c2
      go_region_held3 (fun w'=>w'.cell? ⟨b,0,none⟩=some (.string s)/\w'.cell? ⟨b,1,none⟩=some (.int .i64 (p:Int))/\w'.cell? ⟨b,2,none⟩=some (.slice (some ⟨L,O,none⟩) M ct)/\w'.cell? ⟨L,O+X,none⟩=some (.slice ax l.length cx)/\Below V wr w'/\V<=w'.heap.size)
       (first
        |with_reducible assumption
        |with_reducible exact aAj (by assumption) (by assumption))
       (first
        |(go_at_call 165;refine(a1 _ (by assumption)).mono ?_;rintro e w3 ⟨rfl,f7⟩))
      have e9:=(show w3.cell? ⟨b,0,none⟩=some (.string s)/\w3.cell? ⟨b,1,none⟩=some (.int .i64 (p:Int))/\w3.cell? ⟨b,2,none⟩=some (.slice (some ⟨L,O,none⟩) M ct)/\w3.cell? ⟨L,O+X,none⟩=some (.slice ax l.length cx)/\Below V wr w3/\V<=w3.heap.size by assumption);go_wp2_with fail;go_meet;exact⟨rfl,rfl,rfl,by rw[<-e8.out];exact e9.2.2.2.2.1⟩
     case rest=>
      obtain⟨rfl,rfl,rfl,a3⟩:=hcut;have z:=Arr.below z a3 (Arr.lt z);have H:=OwI.below H a3 (aA _);have A:=gbT A (gbB a3);clear a1 d0 d1 d2 c2;go_wp2_with fail;refine(ES b s p q2 q3 _ _ _ wc z).mono ?_;rintro e w4 (⟨rfl,rfl,Y,a9⟩|⟨U,rfl,rfl⟩)
      rotate_left
      ·have d:=b7.out;rw[if_pos U] at d;have G:=a5.out (k+1) _ _ _ _ (by have:=J.out;omega) d (.inl U);rw[if_pos U] at G;have HR:=hid G;clear d G;go_wp2_with fail;exact⟨rfl,MU HR.out U A⟩
      have d:=b7.out;rw[if_neg (fun k=>k rfl)] at d;obtain⟨p1,p2,p3,p4⟩:=e7.out rfl;obtain⟨pp,rfl⟩:∃pp:Nat,q2=(pp:Int):=⟨q2.toNat,by omega⟩;have A:=gbT A a9;have H:=Ow.kept H a9 (iL H a0);have f8:=A.size;have Y:BRd w4 b s pp (.slice (some ⟨L,O,none⟩) M ct) (.slice (some ⟨bc,oc,none⟩) N cc) (.int .i64 (C:Int)):=Y;clear z a9 a3
      by_cases Z:F=(C:Int)-1
      ·rw[if_pos Z] at d;have v3:(F==(C:Int)-1)=true:=by rw[beq_iff_eq];exact Z
       by_cases a4:i+1<N
       ·rw[if_pos a4] at d;have v4:((i:Int)==(N:Int)-1)=false:=by rw[beq_eq_false_iff_ne];omega
        have G:=a5.out (k+1) _ _ _ _ (by have:=J.out;omega) d (.inl (by decide));rw[if_pos (by decide)] at G;have HR:=hid G;have HF:=hid Z;clear d G Z a4;go_wp2_with (at_builtin;refine eN rfl _ _ rfl w.heap.size _ _ rfl (OwI.alloc H _) _ F rfl (bS _ _ _) ?_ ?_ ?_;(omega);(simp;omega);intro v5 w5 r1 I r3;have d4:=((Arr.alloc Y (.cells #[.int .i64 F] 3)).below I a0).cell (i:=4) rfl;have d3:=((Arr.alloc Y (.cells #[.int .i64 F] 3)).below I a0).cell (i:=3) rfl);refine(pU false 3 _ (by decide)).mono ?_;rintro e w6 (⟨U,rfl,rfl⟩|⟨U,rfl,rfl⟩)
        ·exact absurd U (by decide)
        go_wp2_with fail;exact⟨rfl,MU HR.out (by decide) (gbK (gbT A (gbB (bD (aB _ _) _))) I)⟩
       ·rw[if_neg a4] at d;have v4:((i:Int)==(N:Int)-1)=true:=by rw[beq_iff_eq];omega
        have G:=a5.out (k+1) _ _ _ _ (by have:=J.out;omega) d (.inr rfl);rw[if_neg (fun k=>k rfl)] at G;have HR:=hid G;have HF:=hid Z;clear d G Z a4;go_wp2_with (at_builtin;refine eN rfl _ _ rfl w.heap.size _ _ rfl (OwI.alloc H _) _ F rfl (bS _ _ _) ?_ ?_ ?_;(omega);(simp;omega);intro v5 w5 r1 I r3;have d4:=((Arr.alloc Y (.cells #[.int .i64 F] 3)).below I a0).cell (i:=4) rfl;have d3:=((Arr.alloc Y (.cells #[.int .i64 F] 3)).below I a0).cell (i:=3) rfl);refine(pU true 3 _ (by decide)).mono ?_;rintro e w6 (⟨U,rfl,rfl⟩|⟨U,rfl,rfl⟩)
        rotate_left
        ·exact absurd U (by decide)
        go_wp2_with fail;go_ret;exact aQl HR.out r1 ((Arr.alloc Y _).below I a0) (gbK (gbT A (gbB (bD (aB _ _) _))) I)
      ·rw[if_neg Z] at d;have v3:(F==(C:Int)-1)=false:=by rw[beq_eq_false_iff_ne];exact Z
       have f0:=hid d;clear d Z;go_wp2_with (at_builtin;refine eN rfl _ _ rfl w.heap.size _ _ rfl (OwI.alloc H _) _ F rfl (bS _ _ _) ?_ ?_ ?_;(omega);(simp;omega);intro v5 w5 r1 I r3;have d4:=((Arr.alloc Y (.cells #[.int .i64 F] 3)).below I a0).cell (i:=4) rfl);have hg:=e5.out
       go_roundg (10-(j+1))
       case measure=>omega
       case rel=>exact⟨j+1,pp,k+1,_,_,by omega,rfl,rfl,by go_num,by omega,hid (by have:=J.out;omega),f0,r1,(Arr.alloc Y _).below I a0,gbK (gbT A (gbB (bD (aB _ _) _))) I⟩
    ·have v2:decide ((j:Int)<10)=false:=decide_eq_false (by omega);go_wp2_with fail;have hg:=HG.out
     go_roundg (N-(i+1))
     case measure=>omega
     case rel=>exact⟨i+1,p,k,_,r,by omega,rfl,rfl,by go_num,hp,hid (by have:=J.out;omega),HS,H,z,A⟩
  ·have v1:decide ((i:Int)<(N:Int))=false:=decide_eq_false (by omega);have G:=c4.out k _ _ (by have:=J.out;omega) HS.out;have HR:=hid G;clear G;go_wp2_with fail;exact⟨rfl,MU HR.out (by decide) A⟩
def aAk (w w':World) (b:Nat) (s:ByteArray) (a C:Nat) (e:Ending):Prop:=
 ((cV s.data.toList (a:Int) (C:Int)).2.2≠0/\cV s.data.toList (a:Int) (C:Int)=([],0,(cV s.data.toList (a:Int) (C:Int)).2.2)/\e=.panicked (oC (cV s.data.toList (a:Int) (C:Int)).2.2)/\w.grownBy w' (some b))\/
 (e=.returned (.tuple #[])/\∃(p:Nat) (d z:Value) (T:List (List Int)) (ch:List Int),cV s.data.toList (a:Int) (C:Int)=gX s.data.toList (p:Int) T ch ((C:Int)-1)/\BRd w' b s p d z (.int .i64 (C:Int))/\w.grownBy w' (some b)/\
  (∀W,w'.grownBy W (some b)->RdL W d T)/\(∀W,w'.grownBy W (some b)->RdI W z ch)/\(∀l∈T,bL l=0)/\(∀x∈ch,0<=x/\x<(T.length:Int))/\0<ch.length/\ch.length<=40000/\0<T.length/\p<=80000000)
theorem tJ {w w':World} {b:Nat} {s:ByteArray} {a C:Nat} {E:Int} (h:cV s.data.toList (a:Int) (C:Int)=([],0,E)) (d:E≠0) (z:w.grownBy w' (some b)):aAk w w' b s a C (.panicked (oC E)):=
 .inl (by rw[h];exact⟨d,rfl,rfl,z⟩)
theorem aQn (V:Nat) (h:V<2):decide ((V:Int)>=2)=false/\decide (2<=(V:Int))=false:=⟨decide_eq_false (by omega),decide_eq_false (by omega)⟩
theorem aQo (b:Nat) (s:ByteArray) (a C:Nat) (w:World) (Y:BRd w b s a (.slice none 0 0) (.slice none 0 0) (.int .i64 (C:Int))) (hs:s.size<=1000000) (ha:a<=70000000) (i4:2<=C) (i5:C<=258):
  Calls Tryz.prog 113 #[.pointer (some ⟨b,0,none⟩)] w fun e w'=>aAk w w' b s a C e:=by
 have HL:=hid (show s.data.toList.length=s.size by simp);have k6:w.grownBy w (some b):=gbB (aB _ _);have I:b<w.heap.size:=Arr.lt Y;have d8:=iA s.data.toList (a:Int) 3;have d9:=iA s.data.toList ((a:Int)+3) 15;have d:=UN s.data.toList (a:Int) (C:Int);rw[HL.out] at d;have e0:=fQ (n:=s.size) (at':=((a:Int)+3)) (k:=15);have e1:=zT b s a 3 (.slice none 0 0) (.slice none 0 0) (.int .i64 (C:Int)) w Y hs (by decide) (by omega);have b7:=fun W h=>zT b s (a+3) 15 (.slice none 0 0) (.slice none 0 0) (.int .i64 (C:Int)) W h hs (by decide) (by omega)
 rw[show(((a+3:Nat):Int))=(a:Int)+3 by push_cast;rfl] at b7;obtain⟨E1,e3⟩:∃E1,E1=aO s.size (a:Int) 3:=⟨_,rfl⟩;obtain⟨z,b8⟩:∃z,z=aE s.data.toList (a:Int) 3:=⟨_,rfl⟩;obtain⟨E2,b9⟩:∃E2,E2=aO s.size ((a:Int)+3) 15:=⟨_,rfl⟩;obtain⟨J,c0⟩:∃J,J=aE s.data.toList ((a:Int)+3) 15:=⟨_,rfl⟩;rw[<-e3,<-b8] at e1;rw[<-b9,<-c0] at b7;rw[<-b8] at d8;rw[<-c0] at d9;rw[<-b9] at e0;rw[<-e3,<-b8,<-b9,<-c0] at d;clear e3 b8 b9 c0;have d8:z<8:=d8;have d9:J<32768:=d9;obtain⟨A,f5⟩:∃A,A=a+3+15:=⟨_,rfl⟩;have m3:(a:Int)+18=(A:Int):=by omega
 have k7:A<=70000018:=by omega
 rw[m3] at d;go_enter Tryz.func113,Tryz.ntmps113;go_wp2_with fail;refine e1.mono ?_;rintro e w1 (⟨h1,rfl,f6,a2⟩|⟨h1,rfl,a2⟩)
 rotate_left
 ·rw[if_pos h1] at d;have HF:=hid d;clear d;go_wp2_with fail;exact⟨rfl,tJ HF.out h1 a2⟩
 rw[if_neg (fun k=>k h1)] at d;clear e1 Y
 by_cases h2:z<2\/6<z
 ·rw[if_pos h2] at d;have HF:=hid d;clear d
  by_cases h3:z<2
  ·obtain⟨u1,u2⟩:=aQn z h3;go_wp2_with fail;refine(pU false 3 _ (by decide)).mono ?_;rintro e w2 (⟨G,rfl,rfl⟩|⟨G,rfl,rfl⟩)
   ·exact absurd G (by decide)
   go_wp2_with fail;exact⟨rfl,tJ HF.out (by decide) a2⟩
  ·have u1:decide ((z:Int)>=2)=true:=decide_eq_true (by omega);have f7:decide (2<=(z:Int))=true:=decide_eq_true (by omega);have u2:decide ((z:Int)<=6)=false:=decide_eq_false (by omega);go_wp2_with fail;refine(pU false 3 _ (by decide)).mono ?_;rintro e w2 (⟨G,rfl,rfl⟩|⟨G,rfl,rfl⟩)
   ·exact absurd G (by decide)
   go_wp2_with fail;exact⟨rfl,tJ HF.out (by decide) a2⟩
 rw[if_neg h2] at d;have u1:decide ((z:Int)>=2)=true:=decide_eq_true (by omega);have f7:decide (2<=(z:Int))=true:=decide_eq_true (by omega);have u2:decide ((z:Int)<=6)=true:=decide_eq_true (by omega);have f8:2<=z:=by omega
 have f9:z<=6:=by omega
 clear h2;go_wp2_with fail;refine(pU true 3 _ (by decide)).mono ?_;rintro e w2 (⟨G,rfl,rfl⟩|⟨G,rfl,rfl⟩)
 rotate_left
 ·exact absurd G (by decide)
 go_wp2_with fail;refine(b7 _ f6).mono ?_;rintro e w2 (⟨h3,rfl,a4,a1⟩|⟨h3,rfl,a1⟩)
 rotate_left
 ·rw[if_pos h3] at d;have HF:=hid d;clear d;go_wp2_with fail;exact⟨rfl,tJ HF.out h3 (gbT a2 a1)⟩
 rw[if_neg (fun k=>k h3)] at d;have e0:=e0 h3;have a1:=gbT a2 a1;clear b7 f6 a2
 by_cases h4:J=0
 ·rw[if_pos h4] at d;have HF:=hid d;clear d;have u3:decide ((J:Int)>0)=false:=decide_eq_false (by omega);have u4:decide (0<(J:Int))=false:=decide_eq_false (by omega);have u5:decide (0<J)=false:=decide_eq_false (by omega);go_wp2_with fail;refine(pU false 3 _ (by decide)).mono ?_;rintro e w3 (⟨G,rfl,rfl⟩|⟨G,rfl,rfl⟩)
  ·exact absurd G (by decide)
  go_wp2_with fail;exact⟨rfl,tJ HF.out (by decide) a1⟩
 rw[if_neg h4] at d;have u3:decide ((J:Int)>0)=true:=decide_eq_true (by omega);have u4:decide (0<(J:Int))=true:=decide_eq_true (by omega);have u5:decide (0<J)=true:=decide_eq_true (by omega);have i6:0<J:=by omega
 go_wp2_with fail;refine(pU true 3 _ (by decide)).mono ?_;rintro e w3 (⟨G,rfl,rfl⟩|⟨G,rfl,rfl⟩)
 rotate_left
 ·exact absurd G (by decide)
 rw[<-f5] at a4;have a6:=fun W=>aO2 s A J z W hs (by omega) (by omega) f8 f9
 have b3:=UO (s:=s.data.toList) (a:=A) (n:=J) (t:=z) f8 f9 (by omega);unfold yX at a6;obtain⟨L,c2,M,g0⟩:∃L c2 M,dD s.data.toList (A:Int) (J:Int) (z:Int)=(L,c2,M):=⟨_,_,_,rfl⟩;rw[g0] at a6 b3 d;simp only at a6 b3 d;rw[HL.out] at b3;have d0:=Arr.cell a4 (i:=0) rfl;have d1:=Arr.cell a4 (i:=1) rfl;have d4:=Arr.cell a4 (i:=4) rfl;have HD:=hid d;have i7:=hid b3;clear g0 h4 d b3 f5 u1 f7 u2 u3 u4 u5;go_upto_region 4 with fail
 go_cut [4,5,6] (fun i8 c5 c6 wx=>(∃v,v=i8/\OwI wx w3.heap.size v L)/\c5=.int .i64 c2/\c6=.int .i64 M/\Below w3.heap.size w3 wx)
 case first=>
  obtain⟨H,b4⟩:∃H,H=w3.heap.size:=⟨_,rfl⟩;have b5:=hid b4;have a6:∀W,(W.cell? ⟨b,0,none⟩=some (.string s)/\W.cell? ⟨b,1,none⟩=some (.int .i64 (A:Int))/\W.cell? ⟨b,4,none⟩=some (.int .i64 (C:Int))/\Below H w3 W/\H<=W.heap.size)->Calls Tryz.prog 163 #[.string s,.int .i64 (A:Int),.int .i64 (J:Int),.int .i64 (z:Int)] W fun e w'=>∃v,e=.returned (.tuple #[v,.int .i64 c2,.int .i64 M])/\OwI w' H v L/\Below W.heap.size W w':=fun W h=>(a6 W).mono (fun e w' ⟨v,k1,k2,k3⟩=>⟨v,k1,OwI.base k2 h.2.2.2.2,k3⟩)
  have i9:=kZ (B:=H) (w0:=w3) ⟨d0,d1,d4,aB _ _,by omega⟩ (aB w3.heap.size w3).drew;clear b4 d0 d1 d4
  go_region_held3 (fun w'=>w'.cell? ⟨b,0,none⟩=some (.string s)/\w'.cell? ⟨b,1,none⟩=some (.int .i64 (A:Int))/\w'.cell? ⟨b,4,none⟩=some (.int .i64 (C:Int))/\Below H w3 w'/\H<=w'.heap.size)
   (first
    |with_reducible assumption
    |with_reducible exact kZ (by assumption) (by assumption))
   (first
    |(go_at_call 163;refine(a6 _ (by assumption)).mono ?_;rintro e w4 ⟨v4,rfl,a7,c4⟩))
  have e4:=(show w4.cell? ⟨b,0,none⟩=some (.string s)/\w4.cell? ⟨b,1,none⟩=some (.int .i64 (A:Int))/\w4.cell? ⟨b,4,none⟩=some (.int .i64 (C:Int))/\Below H w3 w4/\H<=w4.heap.size by assumption);go_wp2_with fail;go_meet;exact⟨⟨v4,rfl,by rw[<-b5.out];exact a7⟩,rfl,rfl,by rw[<-b5.out];exact e4.2.2.2.1⟩
 case rest=>
  obtain⟨⟨v4,rfl,a7⟩,rfl,rfl,c4⟩:=hcut;have g1:=Arr.below a4 c4 (Arr.lt a4);have a7:=OwI.base a7 a1.size;have e5:=gbT a1 (gbB c4);clear a6 d0 d1 d4 a4 a1 c4;go_wp2_with fail;refine(ES b s A c2 M _ _ _ wc g1).mono ?_;rintro e w5 (⟨rfl,rfl,d5,b1⟩|⟨G,rfl,rfl⟩)
  rotate_left
  ·have d:=HD.out;rw[if_pos G] at d;have HF:=hid d;clear d;go_wp2_with fail;exact⟨rfl,tJ HF.out G e5⟩
  have d:=HD.out;rw[if_neg (fun k=>k rfl)] at d;obtain⟨s1,s2,s3,s4⟩:=i7.out rfl;obtain⟨T,rfl⟩:∃T:Nat,c2=(T:Int):=⟨c2.toNat,by omega⟩;have k8:T<=70000018:=by omega
  have d6:=Ow.kept a7 b1 (iL a7 I);have b1:=gbT e5 b1;have k9:=b1.size;obtain⟨ac,cc,rfl,_,_,_⟩:=(OwI.rd d6).open;have j0:=hid s2;have g2:=hid s1;have g3:BRd (w5.setCell ⟨b,3,none⟩ (.slice ac L.length cc)) b s T (.slice none 0 0) (.slice ac L.length cc) (.int .i64 (C:Int)):=Arr.set d5 3 _;have g4:=gbT b1 (gbS w5 b 3 (.slice ac L.length cc));have g5:OwI (w5.setCell ⟨b,3,none⟩ (.slice ac L.length cc)) w.heap.size (.slice ac L.length cc) L:=Ow.kept d6 (gbS w5 b 3 _) (iL d6 I);have d3:=Arr.cell d5 (i:=3) rfl;have f3:=Arr.free d5 3
  have g6:=hid (fun k=>DQ (s:=s.data.toList) (a:=(T:Int)) (c:=(C:Int)) (by omega) k);have j1:=hid (DM s.data.toList (T:Int) (C:Int) z);have g7:=hid (fun k (hk:k<=z) (h:(bF s.data.toList (T:Int) (C:Int) k).2.2≠0)=>show cV s.data.toList (a:Int) (C:Int)=([],0,(bF s.data.toList (T:Int) (C:Int) k).2.2) by
   have:=DP h (z-k);rw[show k+(z-k)=z by omega] at this;rw[if_pos (by rw[this];exact h),this] at d;exact d)
  have j2:=hid (fun(h:(bF s.data.toList (T:Int) (C:Int) z).2.2=0)=>by
   rw[if_neg (fun q=>q h)] at d;exact d)
  clear d s1 s2 s3 s4 g1 a7 e5 d6;go_wp2_with fail;generalize w5.setCell ⟨b,3,none⟩ (.slice ac L.length cc)=w6 at*
  clear d3 f3 d5 b1
  go_loopg [7,8,9,56] z (fun g _s7 _s8 _s9 j3 wr=>∃(k p:Nat) (v:Value) (xs:List Value),k<=z/\g=z-k/\j3=.int .i64 (k:Int)/\Hid ((bF s.data.toList (T:Int) (C:Int) k).2.2=0/\(bF s.data.toList (T:Int) (C:Int) k).2.1=(p:Int))/\Ow wr w.heap.size 27 v xs/\fE wr w.heap.size xs (bF s.data.toList (T:Int) (C:Int) k).1/\xs.length=k/\BRd wr b s p v (.slice ac L.length cc) (.int .i64 (C:Int))/\OwI wr w.heap.size (.slice ac L.length cc) L/\w.grownBy wr (some b))
  case atStart=>exact⟨0,T,_,[],aU _,rfl,rfl,hid ⟨rfl,rfl⟩,Ow.nil _ _ _,fE.nil _ _,rfl,g3,g5,g4⟩
  case round=>
   clear g3 g5 g4;obtain⟨k,p,v,xs,hk,hg,rfl,HK,ho,hx,g8,Y,a0,U⟩:=hrel;have HG:=hid hg;clear hg;have e6:=U.size;have j4:=g6.out k HK.out.1;rw[HK.out.2,HL.out] at j4;have j5:p<=80000000:=by omega
   by_cases l1:k<z
   ·have v1:decide ((k:Int)<(z:Int))=true:=decide_eq_true (by omega);have F:=KR HK.out.1;rw[HK.out.2] at F;have a8:=fun W=>aPq s p C W hs (by omega) i4 i5
    unfold wM at a8;obtain⟨O,q2,q3,hq⟩:∃O q2 q3,eJ s.data.toList (p:Int) (C:Int)=(O,q2,q3):=⟨_,_,_,rfl⟩;rw[hq] at F a8;simp only at F a8;have g9:=hid F;have d0:=Arr.cell Y (i:=0) rfl;have d1:=Arr.cell Y (i:=1) rfl;have d4:=Arr.cell Y (i:=4) rfl;clear hq F;go_upto_region 9 with fail
    go_cut [7,8,9] (fun c7 c8 c9 wx=>(∃v,v=c7/\OwI wx wr.heap.size v O)/\c8=.int .i64 q2/\c9=.int .i64 q3/\Below wr.heap.size wr wx)
    case first=>
     obtain⟨H,b4⟩:∃H,H=wr.heap.size:=⟨_,rfl⟩;have b5:=hid b4;have a8:∀W,(W.cell? ⟨b,0,none⟩=some (.string s)/\W.cell? ⟨b,1,none⟩=some (.int .i64 (p:Int))/\W.cell? ⟨b,4,none⟩=some (.int .i64 (C:Int))/\Below H wr W/\H<=W.heap.size)->Calls Tryz.prog 164 #[.string s,.int .i64 (p:Int),.int .i64 (C:Int)] W fun e w'=>∃v,e=.returned (.tuple #[v,.int .i64 q2,.int .i64 q3])/\OwI w' H v O/\Below W.heap.size W w':=fun W h=>(a8 W).mono (fun e w' ⟨v,k1,k2,k3⟩=>⟨v,k1,OwI.base k2 h.2.2.2.2,k3⟩)
     have i9:=kZ (B:=H) (w0:=wr) ⟨d0,d1,d4,aB _ _,by omega⟩ (aB wr.heap.size wr).drew;clear b4 d0 d1 d4
     go_region_held3 (fun w'=>w'.cell? ⟨b,0,none⟩=some (.string s)/\w'.cell? ⟨b,1,none⟩=some (.int .i64 (p:Int))/\w'.cell? ⟨b,4,none⟩=some (.int .i64 (C:Int))/\Below H wr w'/\H<=w'.heap.size)
      (first
       |with_reducible assumption
       |with_reducible exact kZ (by assumption) (by assumption))
      (first
       |(go_at_call 164;refine(a8 _ (by assumption)).mono ?_;rintro e w7 ⟨v7,rfl,Z,a9⟩))
     have e4:=(show w7.cell? ⟨b,0,none⟩=some (.string s)/\w7.cell? ⟨b,1,none⟩=some (.int .i64 (p:Int))/\w7.cell? ⟨b,4,none⟩=some (.int .i64 (C:Int))/\Below H wr w7/\H<=w7.heap.size by assumption);go_wp2_with fail;go_meet;exact⟨⟨v7,rfl,by rw[<-b5.out];exact Z⟩,rfl,rfl,by rw[<-b5.out];exact e4.2.2.2.1⟩
    case rest=>
     obtain⟨⟨v7,rfl,Z⟩,rfl,rfl,a9⟩:=hcut;have Y:=Arr.below Y a9 (Arr.lt Y);have Z:=OwI.base Z e6;have ho:=Ow.below ho a9 (aA _);have hx:=hx.below a9;have a0:=OwI.below a0 a9 (aA _);have U:=gbT U (gbB a9);clear a8 d0 d1 d4 a9;go_wp2_with fail;refine(ES b s p q2 q3 _ _ _ wc Y).mono ?_;rintro e w8 (⟨rfl,rfl,e7,b2⟩|⟨G,rfl,rfl⟩)
     rotate_left
     ·have F:=g9.out;rw[if_pos G] at F;have V:=g7.out (k+1) (by omega) (by rw[F];exact G);rw[F] at V;have HE:=hid V;clear F V;go_wp2_with fail;exact⟨rfl,tJ HE.out G U⟩
     have F:=g9.out;rw[if_neg (fun k=>k rfl)] at F;have ho:=Ow.kept ho b2 (iL ho I);have hx:=hx.map (fun x g k=>Ow.kept k b2 (iL k I));have Z:=Ow.kept Z b2 (iL Z I);have a0:=Ow.kept a0 b2 (iL a0 I);have U:=gbT U b2;have e6:=U.size;clear Y b2;go_wp2_with fail;refine(zS v7 O w8 (OwI.rd Z)).mono ?_;rintro e w9 ⟨rfl,b0⟩;have i0:=Arr.below e7 b0 (Arr.lt e7);have ho:=Ow.below ho b0 (aA _);have hx:=hx.below b0;have Z:=OwI.below Z b0 (aA _);have a0:=OwI.below a0 b0 (aA _);have U:=gbT U (gbB b0);have e6:=U.size;obtain⟨E,V⟩:∃E,E=bL O:=⟨_,rfl⟩
     rw[<-V] at F ⊢;have i1:=hid F;clear e7 b0 V F;go_wp2_with fail;refine(vC E w9).mono ?_;rintro e e8 (⟨rfl,rfl,rfl⟩|⟨G,rfl,rfl⟩)
     rotate_left
     ·have F:=i1.out;rw[if_pos G] at F;have V:=g7.out (k+1) (by omega) (by rw[F];exact G);rw[F] at V;have HE:=hid V;clear F V;go_wp2_with fail;exact⟨rfl,tJ HE.out G U⟩
     have F:=i1.out;rw[if_neg (fun k=>k rfl)] at F;have e9:=g6.out (k+1) (by rw[F]);rw[F] at e9;have e9:(T:Int)<=q2:=e9.1;obtain⟨pp,rfl⟩:∃pp:Nat,q2=(pp:Int):=⟨q2.toNat,by omega⟩;have HS:=hid F;obtain⟨a3,M,rfl,_,_,_⟩:=(OwI.rd Z).open;obtain⟨av,cv,rfl,-⟩:=ho.rd;have j6:(xs.length+1)*24<=140737488355328:=by omega
     have j7:=hx.alloc (.cells #[.slice a3 O.length M] 27);have d7:=Ow.alloc ho (.cells #[.slice a3 O.length M] 27);have i2:=OwI.alloc Z (.cells #[.slice a3 O.length M] 27);have f0:=OwI.alloc a0 (.cells #[.slice a3 O.length M] 27);have f1:=Arr.alloc i0 (.cells #[.slice a3 O.length M] 27);have j8:=gbT U (gbB (g:=some b) (bD (aB _ e8) (.cells #[.slice a3 O.length M] 27)));have d2:=Arr.cell i0 (i:=2) rfl;have j9:=hid g8;clear F hx ho Z a0 U g8
     go_wp2_with (at_builtin;refine rD wK rfl _ _ rfl w.heap.size _ xs rfl d7 e8.heap.size (.slice a3 O.length M) rfl (bS _ _ _) rfl ?_ ?_ ?_;(exact j6);(simp;omega);intro v5 b6 r1 r2 r3;obtain⟨a5,c5,rfl,-⟩:=r1.rd;have e2:=(Arr.below f1 r2 I).cell (i:=2) rfl;have f2:=(Arr.below f1 r2 I).free 2);rw[aL,fK] at r1;have f4:(e8.alloc (.cells #[.slice a3 O.length M] 27)).grownBy b6 (Value.slice av xs.length cv).ownBlock:=r3;have hg:=HG.out
     go_roundg (z-(k+1))
     case measure=>omega
     case rel=>
      refine⟨k+1,pp,_,xs++[.slice a3 O.length M],by omega,rfl,by go_num,hid ⟨by rw[HS.out],by rw[HS.out]⟩,Ow.kept r1 (gbS b6 b 2 _) (iL r1 I),?_,by rw[aL,j9.out];rfl,Arr.set (Arr.below f1 r2 I) 2 _,?_,gbT (gbK j8 r2) (gbS b6 b 2 _)⟩
      ·rw[HS.out];exact((j7.app d7 f4).snoc (Ow.kept i2 f4 (qO i2 d7 (by decide)))).map (fun x g k=>Ow.kept k (gbS b6 b 2 _) (iL k I))
      ·exact Ow.kept (Ow.kept f0 f4 (qO f0 d7 (by decide))) (gbS b6 b 2 _) (iL f0 I)
   ·have v1:decide ((k:Int)<(z:Int))=false:=decide_eq_false (by omega);have k0:k=z:=by omega
    subst k0;have V:=j2.out HK.out.1;rw[HK.out.2] at V;obtain⟨t1,t2⟩:=j1.out HK.out.1;have HE:=hid V;have i3:=hid t1;have k4:=hid t2;have k5:=hid (j0.out);clear V t1 t2;go_wp2_with fail
    go_end0
    refine .inr ⟨rfl,p,v,_,_,L,HE.out,Y,U,fun W hW=>?_,fun W hW=>OwI.rd (Ow.kept a0 hW (iL a0 I)),fun l hl=>(k4.out l hl).1,fun x hx=>by rw[i3.out];exact k5.out x hx,by rw[g2.out];exact i6,by rw[g2.out];omega,by rw[i3.out];omega,j5⟩;exact Ow.rdL (Ow.kept ho hW (iL ho I)) (hx.map (fun x g k=>Ow.kept k hW (iL k I))).ok
end Go.Proofs.YtiifmcicleljjaaGreatDoor
