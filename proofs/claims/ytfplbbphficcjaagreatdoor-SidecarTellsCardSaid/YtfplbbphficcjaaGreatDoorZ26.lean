/-
  Texts put together (part 26): the walks and the plain laws on which the statement stands.
-/
import Derived.Test.YtfplbbphficcjaaGreatDoorZ20
import Derived.Test.YtfplbbphficcjaaGreatDoorZ23
import Derived.Test.YtfplbbphficcjaaGreatDoorZ25
set_option maxRecDepth 100000
set_option maxHeartbeats 12800000
set_option linter.unusedVariables false
set_option linter.unusedSimpArgs false
open Go.Proofs.Tryz
open Go.Proofs.Tryz renaming prog->pG
open Go.IntKind renaming i64->aJ,wrap_i64->aM
open Go.RowKit.Below renaming refl->aH
open List renaming getD_eq_getElem?_getD->bV,length_append->aL,mem_of_getElem?->cN
open Nat renaming le_refl->aD,le_trans->aR,zero_le->aO
namespace Go.Proofs.YtfplbbphficcjaaGreatDoor
open Go.RowKit Go Go.Shelf
def NA (w w':World) (b:Nat) (s:ByteArray) (a:Nat) (d h A:Value) (T:List (List Int)) (ch:List Int) (fin:Int) (e:Ending):Prop:=
 ((jW s.data.toList (a:Int) T ch fin).2.2=0/\(∃v,e=.returned v/\OwI w' w.heap.size v (jW s.data.toList (a:Int) T ch fin).1)/\(∃p:Nat,(jW s.data.toList (a:Int) T ch fin).2.1=(p:Int)/\BRd w' b s p d h A)/\w.grownBy w' (some b))\/
 ((jW s.data.toList (a:Int) T ch fin).2.2≠0/\e=.panicked (rS (jW s.data.toList (a:Int) T ch fin).2.2)/\w.grownBy w' (some b))
theorem UW {w w':World} {b:Nat} {s:ByteArray} {a:Nat} {d e A:Value} {T:List (List Int)} {ch:List Int} {fin E:Int} (h:jW s.data.toList (a:Int) T ch fin=([],0,E)) (D:E≠0) (F:w.grownBy w' (some b)):NA w w' b s a d e A T ch fin (.panicked (rS E)):=by grind [jW,NA,rS]
theorem bCe {w w':World} {b p:Nat} {s:ByteArray} {a:Nat} {d e A v:Value} {T:List (List Int)} {ch r:List Int} {fin:Int} (h:jW s.data.toList (a:Int) T ch fin=(r,(p:Int),0)) (D:OwI w' w.heap.size v r) (F:BRd w' b s p d e A) (G:w.grownBy w' (some b)):NA w w' b s a d e A T ch fin (.returned v):=by grind [jW,OwI,BRd,NA]
theorem gbK {A B C:World} {g:Option Nat} (h:A.grownBy B g) (k:Below A.heap.size B C):A.grownBy C g:=
 ⟨k.os.trans h.os,k.tape.trans h.tape,k.output.trans h.output,aR h.size k.size,fun i d e=>(k.block i d).trans (h.block i d e)⟩
theorem aIv {d e:World} {D F G H:Addr} {I J L M:Value} {B:Nat} {w0:World}
  (h:d.cell? D=some I/\d.cell? F=some J/\d.cell? G=some L/\d.cell? H=some M/\Below B w0 d/\B<=d.heap.size) (A:Below d.heap.size d e):
  e.cell? D=some I/\e.cell? F=some J/\e.cell? G=some L/\e.cell? H=some M/\Below B w0 e/\B<=e.heap.size:=by
 obtain⟨U,V,Y,Z,h6,O⟩:=h;have k:∀{p:Addr} {v:Value},d.cell? p=some v->e.cell? p=some v:=fun{p} {v} T=>(A.cell (World.block_lt_of_cell? d p T)).trans T
 exact⟨k U,k V,k Y,k Z,h6.trans (A.mono O),aR O A.size⟩
theorem RdI.openG {w:World} {b:Nat} {v:Value} {l:List Int} (h:∀W,w.grownBy W (some b)->RdI W v l) (A:0<l.length):
  ∃d off cap,v=.slice (some ⟨d,off,none⟩) l.length cap/\l.length<=cap/\cap<=maxLen/\∀W,w.grownBy W (some b)->∀j x,l[j]? =some x->W.cell? ⟨d,off+j,none⟩=some (.int .i64 x):=by
 obtain⟨a,cap,rfl,D,F,e⟩:=(h w (gbB (aH _ _))).open;obtain⟨d,off,rfl,-,-⟩:=e A;refine⟨d,off,cap,rfl,D,F,fun W G j x H=>?_⟩;obtain⟨I,J,L,-,-,e⟩:=(h W G).open
 grind
theorem RdL.openG {w:World} {b:Nat} {v:Value} {d:List (List Int)} (h:∀W,w.grownBy W (some b)->RdL W v d) (D:0<d.length):
  ∃e off cap,v=.slice (some ⟨e,off,none⟩) d.length cap/\d.length<=cap/\cap<=maxLen/\∀W,w.grownBy W (some b)->∀(j:Nat) (g:List Int),d[j]? =some g->∃x,W.cell? ⟨e,off+j,none⟩=some x/\RdI W x g:=by
 obtain⟨a,cap,rfl,F,G,A⟩:=(h w (gbB (aH _ _))).open;obtain⟨e,off,rfl,-,-⟩:=A D;refine⟨e,off,cap,rfl,F,G,fun W H j x I=>?_⟩;obtain⟨J,L,M,-,-,A⟩:=(h W H).open
 grind
theorem bCf (b:Nat) (s:ByteArray) (a C:Nat) (vt vc:Value) (T:List (List Int)) (ch:List Int) (w:World) (A:BRd w b s a vt vc (.int .i64 (C:Int))) (hs:s.size<=1000000) (ha:a<=80000000)
  (ht:∀W,w.grownBy W (some b)->RdL W vt T) (hc:∀W,w.grownBy W (some b)->RdI W vc ch) (hT:∀l∈T,bM l=0) (b0:∀x∈ch,0<=x/\x<(T.length:Int)) (b1:0<ch.length) (hn:ch.length<=40000) (b2:0<T.length) (f1:2<=C) (f2:C<=258):
  Calls pG 143 #[.pointer (some ⟨b,0,none⟩)] w fun e w'=>NA w w' b s a vt vc (.int .i64 (C:Int)) T ch ((C:Int)-1) e:=by
 have HL:=hid (show s.data.toList.length=s.size by simp);have b3:w.grownBy w (some b):=gbB (aH _ _);obtain⟨L,O,ct,rfl,b8,b9,b4⟩:=RdL.openG ht b2;unfold maxLen at b9;obtain⟨bc,oc,cc,rfl,c0,c3,b5⟩:=RdI.openG hc b1;unfold maxLen at c3;have a0:b<w.heap.size:=Arr.lt A;obtain⟨N,hN⟩:∃N,N=ch.length:=⟨_,rfl⟩;obtain⟨M,hM⟩:∃M,M=T.length:=⟨_,rfl⟩;have m2:aJ.wrap ((C:Int)-1)=(C:Int)-1:=by rw[aM];omega
 have a5:=hid (fun k (r:List Int) (p E:Int) (b:Bool) (hk:k<=10*N) (h:bZ s.data.toList (a:Int) T ch ((C:Int)-1) k=(r,p,E,b)) (hE:E≠0\/b=true)=>aHr (by omega) h hE);have c4:=hid (fun k (r:List Int) (p:Int) (hk:k=10*N) (h:bZ s.data.toList (a:Int) T ch ((C:Int)-1) k=(r,p,0,false))=>show jW s.data.toList (a:Int) T ch ((C:Int)-1)=([],0,3) by
  unfold jW;rw[<-hN,<-hk,h];rfl)
 have c8:=hid (UE s.data.toList (a:Int) T ch ((C:Int)-1));have c9:=hid (fun(i:Nat) (hi:i<N)=>show ∃(X:Nat) (l:List Int),ch[i]? =some (X:Int)/\T[X]? =some l/\X<M/\bM l=0/\∀W,w.grownBy W (some b)->W.cell? ⟨bc,oc+i,none⟩=some (.int .i64 (X:Int))/\∃x,W.cell? ⟨L,O+X,none⟩=some x/\RdI W x l by
  obtain⟨x,hx⟩:=eG (show i<ch.length by omega);have f3:=b0 x (cN hx);obtain⟨X,rfl⟩:∃X:Nat,x=(X:Int):=⟨x.toNat,by omega⟩;have d5:X<T.length:=by omega
  have hl:T[X]? =some T[X]:=List.getElem?_eq_getElem d5;exact⟨X,_,hx,hl,by omega,hT _ (cN hl),fun W hW=>⟨b5 W hW i _ hx,b4 W hW X _ hl⟩⟩)
 have d6:=hid (fun(i j k p X:Nat) (l r:List Int) (hk:k=10*i+j) (hj:j<10) (hx:ch[i]? =some (X:Int)) (hl:T[X]? =some l) (h:bZ s.data.toList (a:Int) T ch ((C:Int)-1) k=(r,(p:Int),0,false))=>
  show bZ s.data.toList (a:Int) T ch ((C:Int)-1) (k+1)=
   if(dE l s.data.toList (p:Int)).2.2≠0 then(r,(p:Int),(dE l s.data.toList (p:Int)).2.2,false)
   else if(dE l s.data.toList (p:Int)).1=(C:Int)-1 then
    if i+1<N then(r++[(dE l s.data.toList (p:Int)).1],(dE l s.data.toList (p:Int)).2.1,3,false)
    else(r++[(dE l s.data.toList (p:Int)).1],(dE l s.data.toList (p:Int)).2.1,0,true)
   else(r++[(dE l s.data.toList (p:Int)).1],(dE l s.data.toList (p:Int)).2.1,0,false) by
  rw[aHp (by rw[h]) (by rw[h]),h];have e1:ch.getD (k/10) 0=(X:Int):=by rw[show k/10=i by omega,bV,hx];rfl
  have e2:T.getD X []=l:=by rw[bV,hl];rfl
  rw[e1,Int.toNat_natCast,e2,hN,show k/10=i by omega])
 rw[<-hN] at hn c0 b1;rw[<-hM] at b8 b2;rw[<-hN,<-hM] at A ⊢;have m3:aJ.wrap ((N:Int)-1)=(N:Int)-1:=by rw[aM];omega
 clear ht hc hT b0 b5 b4 hM hN;have d3:=Arr.cell A (i:=3) rfl;go_enter func143,ntmps143;go_wp2_with fail;clear d3
 go_loopg [2,3,4,5,6,7,13,18] N (fun g s2 _s3 _s4 _s5 _s6 _s7 d7 _s18 wr=>∃(i p k:Nat) (v:Value) (r:List Int),i<=N/\g=N-i/\v=s2/\d7=.int .i64 (i:Int)/\p<=80000000/\Hid (k=10*i)/\Hid (bZ s.data.toList (a:Int) T ch ((C:Int)-1) k=(r,(p:Int),0,false))/\OwI wr w.heap.size v r/\BRd wr b s p (.slice (some ⟨L,O,none⟩) M ct) (.slice (some ⟨bc,oc,none⟩) N cc) (.int .i64 (C:Int))/\w.grownBy wr (some b))
 case atStart=>exact⟨0,a,0,_,[],aO _,rfl,rfl,rfl,ha,hid rfl,hid rfl,OwI.nil _ _,A,b3⟩
 case round=>
  clear A b3;obtain⟨i,p,k,v,r,hi,hg,rfl,rfl,hp,J,HS,H,A,D⟩:=hrel;have HG:=hid hg;clear hg
  by_cases d8:i<N
  ·have v1:decide ((i:Int)<(N:Int))=true:=aG (by omega);obtain⟨X,l,hx,hl,f4,d9,a6⟩:=c9.out i d8;have c1:=(a6 wr D).1;have HX:=hid hx;have e0:=hid hl;have e3:=hid a6;clear hx hl a6;go_wp2_with fail;clear c1
   go_loopg [2,5,6,7,18] 10 (fun g s2 _s5 _s6 _s7 e4 wr=>∃(j p k:Nat) (v:Value) (r:List Int),j<=10/\g=10-j/\v=s2/\e4=.int .i64 (j:Int)/\p<=80000000/\Hid (k=10*i+j)/\Hid (bZ s.data.toList (a:Int) T ch ((C:Int)-1) k=(r,(p:Int),0,false))/\OwI wr w.heap.size v r/\BRd wr b s p (.slice (some ⟨L,O,none⟩) M ct) (.slice (some ⟨bc,oc,none⟩) N cc) (.int .i64 (C:Int))/\w.grownBy wr (some b))
   case atStart=>exact⟨0,p,k,_,r,by omega,rfl,rfl,rfl,hp,hid J.out,HS,H,A,D⟩
   case round=>
    clear A D H J HS hp;obtain⟨j,p,k,v,r,hj,hg,rfl,rfl,hp,J,HS,H,A,D⟩:=hrel;have e5:=hid hg;clear hg
    by_cases e6:j<10
    ·have v2:decide ((j:Int)<10)=true:=aG (by omega);have f5:r.length<=400000:=by
      have h1:=c8.out k;rw[HS.out] at h1;have h1:r.length<=k:=h1;have:=J.out;omega
     obtain⟨x,c2,a7⟩:=(e3.out wr D).2;have d:=d6.out i j k p X l r J.out e6 HX.out e0.out HS.out;have a1:=fun W (h:Below wr.heap.size wr W)=>bCd x l s p W (a7.below h) d9 hs (by omega)
     have a2:=aHs (l:=l) (s:=s.data.toList) (a:=p);rw[HL.out] at a2;obtain⟨F,q2,q3,b6⟩:∃F q2 q3,dE l s.data.toList (p:Int)=(F,q2,q3):=⟨_,_,_,rfl⟩;rw[b6] at d a1 a2;simp only at d a1 a2;obtain⟨ax,cx,rfl,_,_,_⟩:=a7.open;have d0:=Arr.cell A (i:=0) rfl;have d1:=Arr.cell A (i:=1) rfl;have d2:=Arr.cell A (i:=2) rfl;have b7:=hid d;have e7:=hid a2;clear b6 a7 d a2;go_upto_region 6 with fail
     go_cut [5,6,7] (fun c5 c6 c7 wx=>c5=.int .i64 F/\c6=.int .i64 q2/\c7=.int .i64 q3/\Below wr.heap.size wr wx)
     case first=>
      obtain⟨V,a8⟩:∃V,V=wr.heap.size:=⟨_,rfl⟩;rw[<-a8] at a1;have e8:=hid a8;have a1:=fun W (h:W.cell? ⟨b,0,none⟩=some (.string s)/\W.cell? ⟨b,1,none⟩=some (.int .i64 (p:Int))/\W.cell? ⟨b,2,none⟩=some (.slice (some ⟨L,O,none⟩) M ct)/\W.cell? ⟨L,O+X,none⟩=some (.slice ax l.length cx)/\Below V wr W/\V<=W.heap.size)=>a1 W h.2.2.2.2.1
      have f6:=aIv (B:=V) (w0:=wr) ⟨d0,d1,d2,c2,aH _ _,by omega⟩ (aH wr.heap.size wr).drew;clear a8 d0 d1 d2 c2
      go_region_held3 (fun w'=>w'.cell? ⟨b,0,none⟩=some (.string s)/\w'.cell? ⟨b,1,none⟩=some (.int .i64 (p:Int))/\w'.cell? ⟨b,2,none⟩=some (.slice (some ⟨L,O,none⟩) M ct)/\w'.cell? ⟨L,O+X,none⟩=some (.slice ax l.length cx)/\Below V wr w'/\V<=w'.heap.size)
       (first
        |with_reducible assumption
        |with_reducible exact aIv (by assumption) (by assumption))
       (first
        |(go_at_call 151;refine(a1 _ (by assumption)).mono ?_;rintro e w3 ⟨rfl,f7⟩))
      have e9:=(show w3.cell? ⟨b,0,none⟩=some (.string s)/\w3.cell? ⟨b,1,none⟩=some (.int .i64 (p:Int))/\w3.cell? ⟨b,2,none⟩=some (.slice (some ⟨L,O,none⟩) M ct)/\w3.cell? ⟨L,O+X,none⟩=some (.slice ax l.length cx)/\Below V wr w3/\V<=w3.heap.size by assumption);go_wp2_with fail;go_meet;exact⟨rfl,rfl,rfl,by rw[<-e8.out];exact e9.2.2.2.2.1⟩
     case rest=>
      obtain⟨rfl,rfl,rfl,a3⟩:=hcut;have A:=Arr.below A a3 (Arr.lt A);have H:=OwI.below H a3 (aD _);have D:=gbT D (gbB a3);clear a1 d0 d1 d2 c2;go_wp2_with fail;refine(MK b s p q2 q3 _ _ _ wc A).mono ?_;rintro e w4 (⟨rfl,rfl,Y,a9⟩|⟨U,rfl,rfl⟩)
      rotate_left
      ·have d:=b7.out;rw[aB U] at d;have G:=a5.out (k+1) _ _ _ _ (by have:=J.out;omega) d (.inl U);rw[aB U] at G;have HR:=hid G;clear d G;go_wp2_with fail;exact⟨rfl,UW HR.out U D⟩
      have d:=b7.out;rw[aA (fun k=>k rfl)] at d;obtain⟨p1,p2,p3,p4⟩:=e7.out rfl;obtain⟨pp,rfl⟩:∃pp:Nat,q2=(pp:Int):=⟨q2.toNat,by omega⟩;have D:=gbT D a9;have H:=Ow.kept H a9 (lD H a0);have f8:=D.size;have Y:BRd w4 b s pp (.slice (some ⟨L,O,none⟩) M ct) (.slice (some ⟨bc,oc,none⟩) N cc) (.int .i64 (C:Int)):=Y;clear A a9 a3
      by_cases Z:F=(C:Int)-1
      ·rw[aB Z] at d;have v3:(F==(C:Int)-1)=true:=by rw[beq_iff_eq];exact Z
       by_cases a4:i+1<N
       ·rw[aB a4] at d;have v4:((i:Int)==(N:Int)-1)=false:=by rw[cB];omega
        have G:=a5.out (k+1) _ _ _ _ (by have:=J.out;omega) d (.inl (by decide));rw[aB (by decide)] at G;have HR:=hid G;have HF:=hid Z;clear d G Z a4;go_wp2_with (at_builtin;refine gK rfl _ _ rfl w.heap.size _ _ rfl (OwI.alloc H _) _ F rfl (bX _ _ _) ?_ ?_ ?_;(omega);(simp;omega);intro v5 w5 r1 I r3;have d4:=((Arr.alloc Y (.cells #[.int .i64 F] 3)).below I a0).cell (i:=4) rfl;have d3:=((Arr.alloc Y (.cells #[.int .i64 F] 3)).below I a0).cell (i:=3) rfl);refine(tW false 3 _ (by decide)).mono ?_;rintro e w6 (⟨U,rfl,rfl⟩|⟨U,rfl,rfl⟩)
        ·exact absurd U (by decide)
        go_wp2_with fail;exact⟨rfl,UW HR.out (by decide) (gbK (gbT D (gbB (bD (aH _ _) _))) I)⟩
       ·rw[aA a4] at d;have v4:((i:Int)==(N:Int)-1)=true:=by rw[beq_iff_eq];omega
        have G:=a5.out (k+1) _ _ _ _ (by have:=J.out;omega) d (.inr rfl);rw[aA (fun k=>k rfl)] at G;have HR:=hid G;have HF:=hid Z;clear d G Z a4;go_wp2_with (at_builtin;refine gK rfl _ _ rfl w.heap.size _ _ rfl (OwI.alloc H _) _ F rfl (bX _ _ _) ?_ ?_ ?_;(omega);(simp;omega);intro v5 w5 r1 I r3;have d4:=((Arr.alloc Y (.cells #[.int .i64 F] 3)).below I a0).cell (i:=4) rfl;have d3:=((Arr.alloc Y (.cells #[.int .i64 F] 3)).below I a0).cell (i:=3) rfl);refine(tW true 3 _ (by decide)).mono ?_;rintro e w6 (⟨U,rfl,rfl⟩|⟨U,rfl,rfl⟩)
        rotate_left
        ·exact absurd U (by decide)
        go_wp2_with fail;go_ret;exact bCe HR.out r1 ((Arr.alloc Y _).below I a0) (gbK (gbT D (gbB (bD (aH _ _) _))) I)
      ·rw[aA Z] at d;have v3:(F==(C:Int)-1)=false:=by rw[cB];exact Z
       have f0:=hid d;clear d Z;go_wp2_with (at_builtin;refine gK rfl _ _ rfl w.heap.size _ _ rfl (OwI.alloc H _) _ F rfl (bX _ _ _) ?_ ?_ ?_;(omega);(simp;omega);intro v5 w5 r1 I r3;have d4:=((Arr.alloc Y (.cells #[.int .i64 F] 3)).below I a0).cell (i:=4) rfl);have hg:=e5.out
       go_roundg (10-(j+1))
       case measure=>omega
       case rel=>exact⟨j+1,pp,k+1,_,_,by omega,rfl,rfl,by go_num,by omega,hid (by have:=J.out;omega),f0,r1,(Arr.alloc Y _).below I a0,gbK (gbT D (gbB (bD (aH _ _) _))) I⟩
    ·have v2:decide ((j:Int)<10)=false:=aE (by omega);go_wp2_with fail;have hg:=HG.out
     go_roundg (N-(i+1))
     case measure=>omega
     case rel=>exact⟨i+1,p,k,_,r,by omega,rfl,rfl,by go_num,hp,hid (by have:=J.out;omega),HS,H,A,D⟩
  ·have v1:decide ((i:Int)<(N:Int))=false:=aE (by omega);have G:=c4.out k _ _ (by have:=J.out;omega) HS.out;have HR:=hid G;clear G;go_wp2_with fail;exact⟨rfl,UW HR.out (by decide) D⟩
def aIw (w w':World) (b:Nat) (s:ByteArray) (a C:Nat) (e:Ending):Prop:=
 ((dW s.data.toList (a:Int) (C:Int)).2.2≠0/\dW s.data.toList (a:Int) (C:Int)=([],0,(dW s.data.toList (a:Int) (C:Int)).2.2)/\e=.panicked (rS (dW s.data.toList (a:Int) (C:Int)).2.2)/\w.grownBy w' (some b))\/
 (e=.returned (.tuple #[])/\∃(p:Nat) (d h:Value) (T:List (List Int)) (ch:List Int),dW s.data.toList (a:Int) (C:Int)=jW s.data.toList (p:Int) T ch ((C:Int)-1)/\BRd w' b s p d h (.int .i64 (C:Int))/\w.grownBy w' (some b)/\
  (∀W,w'.grownBy W (some b)->RdL W d T)/\(∀W,w'.grownBy W (some b)->RdI W h ch)/\(∀l∈T,bM l=0)/\(∀x∈ch,0<=x/\x<(T.length:Int))/\0<ch.length/\ch.length<=40000/\0<T.length/\p<=80000000)
theorem yD {w w':World} {b:Nat} {s:ByteArray} {a C:Nat} {E:Int} (h:dW s.data.toList (a:Int) (C:Int)=([],0,E)) (d:E≠0) (e:w.grownBy w' (some b)):aIw w w' b s a C (.panicked (rS E)):=by grind [dW,aIw,rS]
theorem bCg (V:Nat) (h:V<2):decide ((V:Int)>=2)=false/\decide (2<=(V:Int))=false:=by grind
theorem bCh (b:Nat) (s:ByteArray) (a C:Nat) (w:World) (Y:BRd w b s a (.slice none 0 0) (.slice none 0 0) (.int .i64 (C:Int))) (hs:s.size<=1000000) (ha:a<=70000000) (i4:2<=C) (i5:C<=258):
  Calls pG 142 #[.pointer (some ⟨b,0,none⟩)] w fun e w'=>aIw w w' b s a C e:=by
 have HL:=hid (show s.data.toList.length=s.size by simp);have k6:w.grownBy w (some b):=gbB (aH _ _);have I:b<w.heap.size:=Arr.lt Y;have d8:=jV s.data.toList (a:Int) 3;have d9:=jV s.data.toList ((a:Int)+3) 15;have d:=aHt s.data.toList (a:Int) (C:Int);rw[HL.out] at d;have e0:=iG (n:=s.size) (at':=((a:Int)+3)) (k:=15);have e1:=FN b s a 3 (.slice none 0 0) (.slice none 0 0) (.int .i64 (C:Int)) w Y hs (by decide) (by omega);have b7:=fun W h=>FN b s (a+3) 15 (.slice none 0 0) (.slice none 0 0) (.int .i64 (C:Int)) W h hs (by decide) (by omega)
 rw[show(((a+3:Nat):Int))=(a:Int)+3 by push_cast;rfl] at b7;obtain⟨E1,e3⟩:∃E1,E1=aP s.size (a:Int) 3:=⟨_,rfl⟩;obtain⟨D,b8⟩:∃D,D=aK s.data.toList (a:Int) 3:=⟨_,rfl⟩;obtain⟨E2,b9⟩:∃E2,E2=aP s.size ((a:Int)+3) 15:=⟨_,rfl⟩;obtain⟨J,c0⟩:∃J,J=aK s.data.toList ((a:Int)+3) 15:=⟨_,rfl⟩;rw[<-e3,<-b8] at e1;rw[<-b9,<-c0] at b7;rw[<-b8] at d8;rw[<-c0] at d9;rw[<-b9] at e0;rw[<-e3,<-b8,<-b9,<-c0] at d;clear e3 b8 b9 c0;have d8:D<8:=d8;have d9:J<32768:=d9;obtain⟨A,f5⟩:∃A,A=a+3+15:=⟨_,rfl⟩;have m3:(a:Int)+18=(A:Int):=by omega
 have k7:A<=70000018:=by omega
 rw[m3] at d;go_enter func142,ntmps142;go_wp2_with fail;refine e1.mono ?_;rintro e w1 (⟨h1,rfl,f6,a2⟩|⟨h1,rfl,a2⟩)
 rotate_left
 ·rw[aB h1] at d;have HF:=hid d;clear d;go_wp2_with fail;exact⟨rfl,yD HF.out h1 a2⟩
 rw[aA (fun k=>k h1)] at d;clear e1 Y
 by_cases h2:D<2\/6<D
 ·rw[aB h2] at d;have HF:=hid d;clear d
  by_cases h3:D<2
  ·obtain⟨u1,u2⟩:=bCg D h3;go_wp2_with fail;refine(tW false 3 _ (by decide)).mono ?_;rintro e w2 (⟨G,rfl,rfl⟩|⟨G,rfl,rfl⟩)
   ·exact absurd G (by decide)
   go_wp2_with fail;exact⟨rfl,yD HF.out (by decide) a2⟩
  ·have u1:decide ((D:Int)>=2)=true:=aG (by omega);have f7:decide (2<=(D:Int))=true:=aG (by omega);have u2:decide ((D:Int)<=6)=false:=aE (by omega);go_wp2_with fail;refine(tW false 3 _ (by decide)).mono ?_;rintro e w2 (⟨G,rfl,rfl⟩|⟨G,rfl,rfl⟩)
   ·exact absurd G (by decide)
   go_wp2_with fail;exact⟨rfl,yD HF.out (by decide) a2⟩
 rw[aA h2] at d;have u1:decide ((D:Int)>=2)=true:=aG (by omega);have f7:decide (2<=(D:Int))=true:=aG (by omega);have u2:decide ((D:Int)<=6)=true:=aG (by omega);have f8:2<=D:=by omega
 have f9:D<=6:=by omega
 clear h2;go_wp2_with fail;refine(tW true 3 _ (by decide)).mono ?_;rintro e w2 (⟨G,rfl,rfl⟩|⟨G,rfl,rfl⟩)
 rotate_left
 ·exact absurd G (by decide)
 go_wp2_with fail;refine(b7 _ f6).mono ?_;rintro e w2 (⟨h3,rfl,a4,a1⟩|⟨h3,rfl,a1⟩)
 rotate_left
 ·rw[aB h3] at d;have HF:=hid d;clear d;go_wp2_with fail;exact⟨rfl,yD HF.out h3 (gbT a2 a1)⟩
 rw[aA (fun k=>k h3)] at d;have e0:=e0 h3;have a1:=gbT a2 a1;clear b7 f6 a2
 by_cases h4:J=0
 ·rw[aB h4] at d;have HF:=hid d;clear d;have u3:decide ((J:Int)>0)=false:=aE (by omega);have u4:decide (0<(J:Int))=false:=aE (by omega);have u5:decide (0<J)=false:=aE (by omega);go_wp2_with fail;refine(tW false 3 _ (by decide)).mono ?_;rintro e w3 (⟨G,rfl,rfl⟩|⟨G,rfl,rfl⟩)
  ·exact absurd G (by decide)
  go_wp2_with fail;exact⟨rfl,yD HF.out (by decide) a1⟩
 rw[aA h4] at d;have u3:decide ((J:Int)>0)=true:=aG (by omega);have u4:decide (0<(J:Int))=true:=aG (by omega);have u5:decide (0<J)=true:=aG (by omega);have i6:0<J:=by omega
 go_wp2_with fail;refine(tW true 3 _ (by decide)).mono ?_;rintro e w3 (⟨G,rfl,rfl⟩|⟨G,rfl,rfl⟩)
 rotate_left
 ·exact absurd G (by decide)
 rw[<-f5] at a4;have a6:=fun W=>aXv s A J D W hs (by omega) (by omega) f8 f9
 have b3:=aHu (s:=s.data.toList) (a:=A) (n:=J) (t:=D) f8 f9 (by omega);unfold FJ at a6;obtain⟨L,c2,M,g0⟩:∃L c2 M,eD s.data.toList (A:Int) (J:Int) (D:Int)=(L,c2,M):=⟨_,_,_,rfl⟩;rw[g0] at a6 b3 d;simp only at a6 b3 d;rw[HL.out] at b3;have d0:=Arr.cell a4 (i:=0) rfl;have d1:=Arr.cell a4 (i:=1) rfl;have d4:=Arr.cell a4 (i:=4) rfl;have HD:=hid d;have i7:=hid b3;clear g0 h4 d b3 f5 u1 f7 u2 u3 u4 u5;go_upto_region 4 with fail
 go_cut [4,5,6] (fun i8 c5 c6 wx=>(∃v,v=i8/\OwI wx w3.heap.size v L)/\c5=.int .i64 c2/\c6=.int .i64 M/\Below w3.heap.size w3 wx)
 case first=>
  obtain⟨H,b4⟩:∃H,H=w3.heap.size:=⟨_,rfl⟩;have b5:=hid b4;have a6:∀W,(W.cell? ⟨b,0,none⟩=some (.string s)/\W.cell? ⟨b,1,none⟩=some (.int .i64 (A:Int))/\W.cell? ⟨b,4,none⟩=some (.int .i64 (C:Int))/\Below H w3 W/\H<=W.heap.size)->Calls pG 148 #[.string s,.int .i64 (A:Int),.int .i64 (J:Int),.int .i64 (D:Int)] W fun e w'=>∃v,e=.returned (.tuple #[v,.int .i64 c2,.int .i64 M])/\OwI w' H v L/\Below W.heap.size W w':=fun W h=>(a6 W).mono (fun e w' ⟨v,k1,k2,k3⟩=>⟨v,k1,OwI.base k2 h.2.2.2.2,k3⟩)
  have i9:=oF (B:=H) (w0:=w3) ⟨d0,d1,d4,aH _ _,by omega⟩ (aH w3.heap.size w3).drew;clear b4 d0 d1 d4
  go_region_held3 (fun w'=>w'.cell? ⟨b,0,none⟩=some (.string s)/\w'.cell? ⟨b,1,none⟩=some (.int .i64 (A:Int))/\w'.cell? ⟨b,4,none⟩=some (.int .i64 (C:Int))/\Below H w3 w'/\H<=w'.heap.size)
   (first
    |with_reducible assumption
    |with_reducible exact oF (by assumption) (by assumption))
   (first
    |(go_at_call 148;refine(a6 _ (by assumption)).mono ?_;rintro e w4 ⟨v4,rfl,a7,c4⟩))
  have e4:=(show w4.cell? ⟨b,0,none⟩=some (.string s)/\w4.cell? ⟨b,1,none⟩=some (.int .i64 (A:Int))/\w4.cell? ⟨b,4,none⟩=some (.int .i64 (C:Int))/\Below H w3 w4/\H<=w4.heap.size by assumption);go_wp2_with fail;go_meet;exact⟨⟨v4,rfl,by rw[<-b5.out];exact a7⟩,rfl,rfl,by rw[<-b5.out];exact e4.2.2.2.1⟩
 case rest=>
  obtain⟨⟨v4,rfl,a7⟩,rfl,rfl,c4⟩:=hcut;have g1:=Arr.below a4 c4 (Arr.lt a4);have a7:=OwI.base a7 a1.size;have e5:=gbT a1 (gbB c4);clear a6 d0 d1 d4 a4 a1 c4;go_wp2_with fail;refine(MK b s A c2 M _ _ _ wc g1).mono ?_;rintro e w5 (⟨rfl,rfl,d5,b1⟩|⟨G,rfl,rfl⟩)
  rotate_left
  ·have d:=HD.out;rw[aB G] at d;have HF:=hid d;clear d;go_wp2_with fail;exact⟨rfl,yD HF.out G e5⟩
  have d:=HD.out;rw[aA (fun k=>k rfl)] at d;obtain⟨s1,s2,s3,s4⟩:=i7.out rfl;obtain⟨T,rfl⟩:∃T:Nat,c2=(T:Int):=⟨c2.toNat,by omega⟩;have k8:T<=70000018:=by omega
  have d6:=Ow.kept a7 b1 (lD a7 I);have b1:=gbT e5 b1;have k9:=b1.size;obtain⟨ac,cc,rfl,_,_,_⟩:=(OwI.rd d6).open;have j0:=hid s2;have g2:=hid s1;have g3:BRd (w5.setCell ⟨b,3,none⟩ (.slice ac L.length cc)) b s T (.slice none 0 0) (.slice ac L.length cc) (.int .i64 (C:Int)):=Arr.set d5 3 _;have g4:=gbT b1 (gbS w5 b 3 (.slice ac L.length cc));have g5:OwI (w5.setCell ⟨b,3,none⟩ (.slice ac L.length cc)) w.heap.size (.slice ac L.length cc) L:=Ow.kept d6 (gbS w5 b 3 _) (lD d6 I);have d3:=Arr.cell d5 (i:=3) rfl;have f3:=Arr.free d5 3
  have g6:=hid (fun k=>MO (s:=s.data.toList) (a:=(T:Int)) (c:=(C:Int)) (by omega) k);have j1:=hid (LE s.data.toList (T:Int) (C:Int) D);have g7:=hid (fun k (hk:k<=D) (h:(bO s.data.toList (T:Int) (C:Int) k).2.2≠0)=>show dW s.data.toList (a:Int) (C:Int)=([],0,(bO s.data.toList (T:Int) (C:Int) k).2.2) by
   have:=MN h (D-k);rw[show k+(D-k)=D by omega] at this;rw[aB (by rw[this];exact h),this] at d;exact d)
  have j2:=hid (fun(h:(bO s.data.toList (T:Int) (C:Int) D).2.2=0)=>by
   rw[aA (fun q=>q h)] at d;exact d)
  clear d s1 s2 s3 s4 g1 a7 e5 d6;go_wp2_with fail;generalize w5.setCell ⟨b,3,none⟩ (.slice ac L.length cc)=w6 at*
  clear d3 f3 d5 b1
  go_loopg [7,8,9,56] D (fun g _s7 _s8 _s9 j3 wr=>∃(k p:Nat) (v:Value) (xs:List Value),k<=D/\g=D-k/\j3=.int .i64 (k:Int)/\Hid ((bO s.data.toList (T:Int) (C:Int) k).2.2=0/\(bO s.data.toList (T:Int) (C:Int) k).2.1=(p:Int))/\Ow wr w.heap.size 55 v xs/\iE wr w.heap.size xs (bO s.data.toList (T:Int) (C:Int) k).1/\xs.length=k/\BRd wr b s p v (.slice ac L.length cc) (.int .i64 (C:Int))/\OwI wr w.heap.size (.slice ac L.length cc) L/\w.grownBy wr (some b))
  case atStart=>exact⟨0,T,_,[],aO _,rfl,rfl,hid ⟨rfl,rfl⟩,Ow.nil _ _ _,iE.nil _ _,rfl,g3,g5,g4⟩
  case round=>
   clear g3 g5 g4;obtain⟨k,p,v,xs,hk,hg,rfl,HK,ho,hx,g8,Y,a0,U⟩:=hrel;have HG:=hid hg;clear hg;have e6:=U.size;have j4:=g6.out k HK.out.1;rw[HK.out.2,HL.out] at j4;have j5:p<=80000000:=by omega
   by_cases l1:k<D
   ·have v1:decide ((k:Int)<(D:Int))=true:=aG (by omega);have F:=UA HK.out.1;rw[HK.out.2] at F;have a8:=fun W=>aY5 s p C W hs (by omega) i4 i5
    unfold CL at a8;obtain⟨O,q2,q3,hq⟩:∃O q2 q3,gS s.data.toList (p:Int) (C:Int)=(O,q2,q3):=⟨_,_,_,rfl⟩;rw[hq] at F a8;simp only at F a8;have g9:=hid F;have d0:=Arr.cell Y (i:=0) rfl;have d1:=Arr.cell Y (i:=1) rfl;have d4:=Arr.cell Y (i:=4) rfl;clear hq F;go_upto_region 9 with fail
    go_cut [7,8,9] (fun c7 c8 c9 wx=>(∃v,v=c7/\OwI wx wr.heap.size v O)/\c8=.int .i64 q2/\c9=.int .i64 q3/\Below wr.heap.size wr wx)
    case first=>
     obtain⟨H,b4⟩:∃H,H=wr.heap.size:=⟨_,rfl⟩;have b5:=hid b4;have a8:∀W,(W.cell? ⟨b,0,none⟩=some (.string s)/\W.cell? ⟨b,1,none⟩=some (.int .i64 (p:Int))/\W.cell? ⟨b,4,none⟩=some (.int .i64 (C:Int))/\Below H wr W/\H<=W.heap.size)->Calls pG 149 #[.string s,.int .i64 (p:Int),.int .i64 (C:Int)] W fun e w'=>∃v,e=.returned (.tuple #[v,.int .i64 q2,.int .i64 q3])/\OwI w' H v O/\Below W.heap.size W w':=fun W h=>(a8 W).mono (fun e w' ⟨v,k1,k2,k3⟩=>⟨v,k1,OwI.base k2 h.2.2.2.2,k3⟩)
     have i9:=oF (B:=H) (w0:=wr) ⟨d0,d1,d4,aH _ _,by omega⟩ (aH wr.heap.size wr).drew;clear b4 d0 d1 d4
     go_region_held3 (fun w'=>w'.cell? ⟨b,0,none⟩=some (.string s)/\w'.cell? ⟨b,1,none⟩=some (.int .i64 (p:Int))/\w'.cell? ⟨b,4,none⟩=some (.int .i64 (C:Int))/\Below H wr w'/\H<=w'.heap.size)
      (first
       |with_reducible assumption
       |with_reducible exact oF (by assumption) (by assumption))
      (first
       |(go_at_call 149;refine(a8 _ (by assumption)).mono ?_;rintro e w7 ⟨v7,rfl,Z,a9⟩))
     have e4:=(show w7.cell? ⟨b,0,none⟩=some (.string s)/\w7.cell? ⟨b,1,none⟩=some (.int .i64 (p:Int))/\w7.cell? ⟨b,4,none⟩=some (.int .i64 (C:Int))/\Below H wr w7/\H<=w7.heap.size by assumption);go_wp2_with fail;go_meet;exact⟨⟨v7,rfl,by rw[<-b5.out];exact Z⟩,rfl,rfl,by rw[<-b5.out];exact e4.2.2.2.1⟩
    case rest=>
     obtain⟨⟨v7,rfl,Z⟩,rfl,rfl,a9⟩:=hcut;have Y:=Arr.below Y a9 (Arr.lt Y);have Z:=OwI.base Z e6;have ho:=Ow.below ho a9 (aD _);have hx:=hx.below a9;have a0:=OwI.below a0 a9 (aD _);have U:=gbT U (gbB a9);clear a8 d0 d1 d4 a9;go_wp2_with fail;refine(MK b s p q2 q3 _ _ _ wc Y).mono ?_;rintro e w8 (⟨rfl,rfl,e7,b2⟩|⟨G,rfl,rfl⟩)
     rotate_left
     ·have F:=g9.out;rw[aB G] at F;have V:=g7.out (k+1) (by omega) (by rw[F];exact G);rw[F] at V;have HE:=hid V;clear F V;go_wp2_with fail;exact⟨rfl,yD HE.out G U⟩
     have F:=g9.out;rw[aA (fun k=>k rfl)] at F;have ho:=Ow.kept ho b2 (lD ho I);have hx:=hx.map (fun x g k=>Ow.kept k b2 (lD k I));have Z:=Ow.kept Z b2 (lD Z I);have a0:=Ow.kept a0 b2 (lD a0 I);have U:=gbT U b2;have e6:=U.size;clear Y b2;go_wp2_with fail;refine(FK v7 O w8 (OwI.rd Z)).mono ?_;rintro e w9 ⟨rfl,b0⟩;have i0:=Arr.below e7 b0 (Arr.lt e7);have ho:=Ow.below ho b0 (aD _);have hx:=hx.below b0;have Z:=OwI.below Z b0 (aD _);have a0:=OwI.below a0 b0 (aD _);have U:=gbT U (gbB b0);have e6:=U.size;obtain⟨E,V⟩:∃E,E=bM O:=⟨_,rfl⟩
     rw[<-V] at F ⊢;have i1:=hid F;clear e7 b0 V F;go_wp2_with fail;refine(zU E w9).mono ?_;rintro e e8 (⟨rfl,rfl,rfl⟩|⟨G,rfl,rfl⟩)
     rotate_left
     ·have F:=i1.out;rw[aB G] at F;have V:=g7.out (k+1) (by omega) (by rw[F];exact G);rw[F] at V;have HE:=hid V;clear F V;go_wp2_with fail;exact⟨rfl,yD HE.out G U⟩
     have F:=i1.out;rw[aA (fun k=>k rfl)] at F;have e9:=g6.out (k+1) (by rw[F]);rw[F] at e9;have e9:(T:Int)<=q2:=e9.1;obtain⟨pp,rfl⟩:∃pp:Nat,q2=(pp:Int):=⟨q2.toNat,by omega⟩;have HS:=hid F;obtain⟨a3,M,rfl,_,_,_⟩:=(OwI.rd Z).open;obtain⟨av,cv,rfl,-⟩:=ho.rd;have j6:(xs.length+1)*24<=140737488355328:=by omega
     have j7:=hx.alloc (.cells #[.slice a3 O.length M] 55);have d7:=Ow.alloc ho (.cells #[.slice a3 O.length M] 55);have i2:=OwI.alloc Z (.cells #[.slice a3 O.length M] 55);have f0:=OwI.alloc a0 (.cells #[.slice a3 O.length M] 55);have f1:=Arr.alloc i0 (.cells #[.slice a3 O.length M] 55);have j8:=gbT U (gbB (g:=some b) (bD (aH _ e8) (.cells #[.slice a3 O.length M] 55)));have d2:=Arr.cell i0 (i:=2) rfl;have j9:=hid g8;clear F hx ho Z a0 U g8
     go_wp2_with (at_builtin;refine tM CK rfl _ _ rfl w.heap.size _ xs rfl d7 e8.heap.size (.slice a3 O.length M) rfl (bX _ _ _) rfl ?_ ?_ ?_;(exact j6);(simp;omega);intro v5 b6 r1 r2 r3;obtain⟨a5,c5,rfl,-⟩:=r1.rd;have e2:=(Arr.below f1 r2 I).cell (i:=2) rfl;have f2:=(Arr.below f1 r2 I).free 2);rw[aL,List.length_singleton] at r1;have f4:(e8.alloc (.cells #[.slice a3 O.length M] 55)).grownBy b6 (Value.slice av xs.length cv).ownBlock:=r3;have hg:=HG.out
     go_roundg (D-(k+1))
     case measure=>omega
     case rel=>
      refine⟨k+1,pp,_,xs++[.slice a3 O.length M],by omega,rfl,by go_num,hid ⟨by rw[HS.out],by rw[HS.out]⟩,Ow.kept r1 (gbS b6 b 2 _) (lD r1 I),?_,by rw[aL,j9.out];rfl,Arr.set (Arr.below f1 r2 I) 2 _,?_,gbT (gbK j8 r2) (gbS b6 b 2 _)⟩
      ·rw[HS.out];exact((j7.app d7 f4).snoc (Ow.kept i2 f4 (uV i2 d7 (by decide)))).map (fun x g k=>Ow.kept k (gbS b6 b 2 _) (lD k I))
      ·exact Ow.kept (Ow.kept f0 f4 (uV f0 d7 (by decide))) (gbS b6 b 2 _) (lD f0 I)
   ·have v1:decide ((k:Int)<(D:Int))=false:=aE (by omega);have k0:k=D:=by omega
    subst k0;have V:=j2.out HK.out.1;rw[HK.out.2] at V;obtain⟨t1,t2⟩:=j1.out HK.out.1;have HE:=hid V;have i3:=hid t1;have k4:=hid t2;have k5:=hid (j0.out);clear V t1 t2;go_wp2_with fail
    go_end0
    refine .inr ⟨rfl,p,v,_,_,L,HE.out,Y,U,fun W hW=>?_,fun W hW=>OwI.rd (Ow.kept a0 hW (lD a0 I)),fun l hl=>(k4.out l hl).1,fun x hx=>by rw[i3.out];exact k5.out x hx,by rw[g2.out];exact i6,by rw[g2.out];omega,by rw[i3.out];omega,j5⟩;exact Ow.rdL (Ow.kept ho hW (lD ho I)) (hx.map (fun x g k=>Ow.kept k hW (lD k I))).ok
end Go.Proofs.YtfplbbphficcjaaGreatDoor
