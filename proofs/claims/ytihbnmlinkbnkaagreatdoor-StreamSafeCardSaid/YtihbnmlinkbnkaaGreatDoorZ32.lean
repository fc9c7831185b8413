/-
  Texts put together (part 32): the walks and the plain laws on which the statement stands.
-/
import Derived.Test.YtihbnmlinkbnkaaGreatDoorZ27
import Derived.Test.YtihbnmlinkbnkaaGreatDoorZ28
import Derived.Test.YtihbnmlinkbnkaaGreatDoorZ29
set_option maxRecDepth 100000
set_option maxHeartbeats 12800000
set_option linter.unusedVariables false
set_option linter.unusedSimpArgs false
open Go.Proofs.Tryz
open Go.Proofs.Tryz renaming prog->pG
open Go renaming heap_setCell_other->kF
open Go.IntKind renaming i64->aJ,wrap_i64->aM
open Go.RowKit.Below renaming refl->aH
open List renaming getD_eq_getElem?_getD->bV,length_append->aL,mem_of_getElem?->cN
open Nat renaming le_refl->aD,le_trans->aR,zero_le->aO
open Option.some renaming injEq->lJ
namespace Go.Proofs.YtihbnmlinkbnkaaGreatDoor
open Go.RowKit Go Go.Shelf
def NA (w w':World) (b:Nat) (s:ByteArray) (a:Nat) (d A F:Value) (T:List (List Int)) (ch:List Int) (fin:Int) (e:Ending):Prop:=
 ((jW s.data.toList (a:Int) T ch fin).2.2=0/\(∃v,e=.returned v/\OwI w' w.heap.size v (jW s.data.toList (a:Int) T ch fin).1)/\(∃p:Nat,(jW s.data.toList (a:Int) T ch fin).2.1=(p:Int)/\BRd w' b s p d A F)/\w.grownBy w' (some b))\/
 ((jW s.data.toList (a:Int) T ch fin).2.2≠0/\e=.panicked (rS (jW s.data.toList (a:Int) T ch fin).2.2)/\w.grownBy w' (some b))
theorem UW {w w':World} {b:Nat} {s:ByteArray} {a:Nat} {d A F:Value} {T:List (List Int)} {ch:List Int} {fin E:Int} (h:jW s.data.toList (a:Int) T ch fin=([],0,E)) (G:E≠0) (H:w.grownBy w' (some b)):NA w w' b s a d A F T ch fin (.panicked (rS E)):=by grind [jW,NA,rS]
theorem bCe {w w':World} {b p:Nat} {s:ByteArray} {a:Nat} {d A F v:Value} {T:List (List Int)} {ch r:List Int} {fin:Int} (h:jW s.data.toList (a:Int) T ch fin=(r,(p:Int),0)) (G:OwI w' w.heap.size v r) (H:BRd w' b s p d A F) (I:w.grownBy w' (some b)):NA w w' b s a d A F T ch fin (.returned v):=by grind [jW,OwI,BRd,NA]
theorem gbK {A B C:World} {g:Option Nat} (h:A.grownBy B g) (k:Below A.heap.size B C):A.grownBy C g:=
 ⟨k.os.trans h.os,k.tape.trans h.tape,k.output.trans h.output,aR h.size k.size,fun i hi d=>(k.block i hi).trans (h.block i hi d)⟩
theorem aIv {w1 w2:World} {A F G H:Addr} {I J L M:Value} {B:Nat} {w0:World}
  (h:w1.cell? A=some I/\w1.cell? F=some J/\w1.cell? G=some L/\w1.cell? H=some M/\Below B w0 w1/\B<=w1.heap.size) (d:Below w1.heap.size w1 w2):
  w2.cell? A=some I/\w2.cell? F=some J/\w2.cell? G=some L/\w2.cell? H=some M/\Below B w0 w2/\B<=w2.heap.size:=by
 obtain⟨V,Z,h3,h4,h6,O⟩:=h;have k:∀{p:Addr} {v:Value},w1.cell? p=some v->w2.cell? p=some v:=fun{p} {v} U=>(d.cell (World.block_lt_of_cell? w1 p U)).trans U
 exact⟨k V,k Z,k h3,k h4,h6.trans (d.mono O),aR O d.size⟩
theorem RdI.openG {w:World} {b:Nat} {v:Value} {l:List Int} (h:∀W,w.grownBy W (some b)->RdI W v l) (F:0<l.length):
  ∃d off cap,v=.slice (some ⟨d,off,none⟩) l.length cap/\l.length<=cap/\cap<=maxLen/\∀W,w.grownBy W (some b)->∀j x,l[j]? =some x->W.cell? ⟨d,off+j,none⟩=some (.int .i64 x):=by
 obtain⟨a,cap,rfl,G,H,A⟩:=(h w (gbB (aH _ _))).open;obtain⟨d,off,rfl,-,-⟩:=A F;refine⟨d,off,cap,rfl,G,H,fun W I j x J=>?_⟩;obtain⟨L,M,O,-,-,A⟩:=(h W I).open
 grind
theorem RdL.openG {w:World} {b:Nat} {v:Value} {gs:List (List Int)} (h:∀W,w.grownBy W (some b)->RdL W v gs) (F:0<gs.length):
  ∃d off cap,v=.slice (some ⟨d,off,none⟩) gs.length cap/\gs.length<=cap/\cap<=maxLen/\∀W,w.grownBy W (some b)->∀(j:Nat) (g:List Int),gs[j]? =some g->∃x,W.cell? ⟨d,off+j,none⟩=some x/\RdI W x g:=by
 obtain⟨a,cap,rfl,G,H,A⟩:=(h w (gbB (aH _ _))).open;obtain⟨d,off,rfl,-,-⟩:=A F;refine⟨d,off,cap,rfl,G,H,fun W I j x J=>?_⟩;obtain⟨L,M,O,-,-,A⟩:=(h W I).open
 grind
theorem bCf (b:Nat) (s:ByteArray) (a C:Nat) (vt vc:Value) (T:List (List Int)) (ch:List Int) (w:World) (A:BRd w b s a vt vc (.int .i64 (C:Int))) (hs:s.size<=1000000) (ha:a<=80000000)
  (ht:∀W,w.grownBy W (some b)->RdL W vt T) (hc:∀W,w.grownBy W (some b)->RdI W vc ch) (hT:∀l∈T,bM l=0) (b1:∀x∈ch,0<=x/\x<(T.length:Int)) (b2:0<ch.length) (hn:ch.length<=40000) (b3:0<T.length) (f2:2<=C) (f3:C<=258):
  Calls pG 122 #[.pointer (some ⟨b,0,none⟩)] w fun e w'=>NA w w' b s a vt vc (.int .i64 (C:Int)) T ch ((C:Int)-1) e:=by
 have HL:=hid (show s.data.toList.length=s.size by simp);have b4:w.grownBy w (some b):=gbB (aH _ _);obtain⟨O,U,ct,rfl,b9,c0,b5⟩:=RdL.openG ht b3;unfold maxLen at c0;obtain⟨bc,oc,cc,rfl,c3,c4,b6⟩:=RdI.openG hc b2;unfold maxLen at c4;have a1:b<w.heap.size:=Arr.lt A;obtain⟨N,hN⟩:∃N,N=ch.length:=⟨_,rfl⟩;obtain⟨M,hM⟩:∃M,M=T.length:=⟨_,rfl⟩;have m2:aJ.wrap ((C:Int)-1)=(C:Int)-1:=by rw[aM];omega
 have a6:=hid (fun k (r:List Int) (p E:Int) (b:Bool) (hk:k<=10*N) (h:bZ s.data.toList (a:Int) T ch ((C:Int)-1) k=(r,p,E,b)) (hE:E≠0\/b=true)=>aHr (by omega) h hE);have c8:=hid (fun k (r:List Int) (p:Int) (hk:k=10*N) (h:bZ s.data.toList (a:Int) T ch ((C:Int)-1) k=(r,p,0,false))=>show jW s.data.toList (a:Int) T ch ((C:Int)-1)=([],0,3) by
  unfold jW;rw[<-hN,<-hk,h];rfl)
 have c9:=hid (UE s.data.toList (a:Int) T ch ((C:Int)-1));have d5:=hid (fun(i:Nat) (hi:i<N)=>show ∃(X:Nat) (l:List Int),ch[i]? =some (X:Int)/\T[X]? =some l/\X<M/\bM l=0/\∀W,w.grownBy W (some b)->W.cell? ⟨bc,oc+i,none⟩=some (.int .i64 (X:Int))/\∃x,W.cell? ⟨O,U+X,none⟩=some x/\RdI W x l by
  obtain⟨x,hx⟩:=eG (show i<ch.length by omega);have f4:=b1 x (cN hx);obtain⟨X,rfl⟩:∃X:Nat,x=(X:Int):=⟨x.toNat,by omega⟩;have d6:X<T.length:=by omega
  have hl:T[X]? =some T[X]:=List.getElem?_eq_getElem d6;exact⟨X,_,hx,hl,by omega,hT _ (cN hl),fun W hW=>⟨b6 W hW i _ hx,b5 W hW X _ hl⟩⟩)
 have d7:=hid (fun(i j k p X:Nat) (l r:List Int) (hk:k=10*i+j) (hj:j<10) (hx:ch[i]? =some (X:Int)) (hl:T[X]? =some l) (h:bZ s.data.toList (a:Int) T ch ((C:Int)-1) k=(r,(p:Int),0,false))=>
  show bZ s.data.toList (a:Int) T ch ((C:Int)-1) (k+1)=
   if(dE l s.data.toList (p:Int)).2.2≠0 then(r,(p:Int),(dE l s.data.toList (p:Int)).2.2,false)
   else if(dE l s.data.toList (p:Int)).1=(C:Int)-1 then
    if i+1<N then(r++[(dE l s.data.toList (p:Int)).1],(dE l s.data.toList (p:Int)).2.1,3,false)
    else(r++[(dE l s.data.toList (p:Int)).1],(dE l s.data.toList (p:Int)).2.1,0,true)
   else(r++[(dE l s.data.toList (p:Int)).1],(dE l s.data.toList (p:Int)).2.1,0,false) by
  rw[aHp (by rw[h]) (by rw[h]),h];have e1:ch.getD (k/10) 0=(X:Int):=by rw[show k/10=i by omega,bV,hx];rfl
  have e2:T.getD X []=l:=by rw[bV,hl];rfl
  rw[e1,Int.toNat_natCast,e2,hN,show k/10=i by omega])
 rw[<-hN] at hn c3 b2;rw[<-hM] at b9 b3;rw[<-hN,<-hM] at A ⊢;have m3:aJ.wrap ((N:Int)-1)=(N:Int)-1:=by rw[aM];omega
 clear ht hc hT b1 b6 b5 hM hN;have d3:=Arr.cell A (i:=3) rfl;go_enter func122,ntmps122;go_wp2_with fail;clear d3
 go_loopg [2,3,4,5,6,7,13,18] N (fun g s2 _s3 _s4 _s5 _s6 _s7 d8 _s18 wr=>∃(i p k:Nat) (v:Value) (r:List Int),i<=N/\g=N-i/\v=s2/\d8=.int .i64 (i:Int)/\p<=80000000/\Hid (k=10*i)/\Hid (bZ s.data.toList (a:Int) T ch ((C:Int)-1) k=(r,(p:Int),0,false))/\OwI wr w.heap.size v r/\BRd wr b s p (.slice (some ⟨O,U,none⟩) M ct) (.slice (some ⟨bc,oc,none⟩) N cc) (.int .i64 (C:Int))/\w.grownBy wr (some b))
 case atStart=>exact⟨0,a,0,_,[],aO _,rfl,rfl,rfl,ha,hid rfl,hid rfl,OwI.nil _ _,A,b4⟩
 case round=>
  clear A b4;obtain⟨i,p,k,v,r,hi,hg,rfl,rfl,hp,L,HS,I,A,F⟩:=hrel;have HG:=hid hg;clear hg
  by_cases d9:i<N
  ·have v1:decide ((i:Int)<(N:Int))=true:=aG (by omega);obtain⟨X,l,hx,hl,f5,e0,a7⟩:=d5.out i d9;have c1:=(a7 wr F).1;have HX:=hid hx;have e3:=hid hl;have e4:=hid a7;clear hx hl a7;go_wp2_with fail;clear c1
   go_loopg [2,5,6,7,18] 10 (fun g s2 _s5 _s6 _s7 e5 wr=>∃(j p k:Nat) (v:Value) (r:List Int),j<=10/\g=10-j/\v=s2/\e5=.int .i64 (j:Int)/\p<=80000000/\Hid (k=10*i+j)/\Hid (bZ s.data.toList (a:Int) T ch ((C:Int)-1) k=(r,(p:Int),0,false))/\OwI wr w.heap.size v r/\BRd wr b s p (.slice (some ⟨O,U,none⟩) M ct) (.slice (some ⟨bc,oc,none⟩) N cc) (.int .i64 (C:Int))/\w.grownBy wr (some b))
   case atStart=>exact⟨0,p,k,_,r,by omega,rfl,rfl,rfl,hp,hid L.out,HS,I,A,F⟩
   case round=>
    clear A F I L HS hp;obtain⟨j,p,k,v,r,hj,hg,rfl,rfl,hp,L,HS,I,A,F⟩:=hrel;have e6:=hid hg;clear hg
    by_cases e7:j<10
    ·have v2:decide ((j:Int)<10)=true:=aG (by omega);have f6:r.length<=400000:=by
      have h1:=c9.out k;rw[HS.out] at h1;have h1:r.length<=k:=h1;have:=L.out;omega
     obtain⟨x,c2,a8⟩:=(e4.out wr F).2;have d:=d7.out i j k p X l r L.out e7 HX.out e3.out HS.out;have a2:=fun W (h:Below wr.heap.size wr W)=>bCd x l s p W (a8.below h) e0 hs (by omega)
     have a3:=aHs (l:=l) (s:=s.data.toList) (a:=p);rw[HL.out] at a3;obtain⟨G,q2,q3,b7⟩:∃G q2 q3,dE l s.data.toList (p:Int)=(G,q2,q3):=⟨_,_,_,rfl⟩;rw[b7] at d a2 a3;simp only at d a2 a3;obtain⟨ax,cx,rfl,_,_,_⟩:=a8.open;have d0:=Arr.cell A (i:=0) rfl;have d1:=Arr.cell A (i:=1) rfl;have d2:=Arr.cell A (i:=2) rfl;have b8:=hid d;have e8:=hid a3;clear b7 a8 d a3;go_upto_region 6 with fail
     go_cut [5,6,7] (fun c5 c6 c7 wx=>c5=.int .i64 G/\c6=.int .i64 q2/\c7=.int .i64 q3/\Below wr.heap.size wr wx)
     case first=>
      obtain⟨Z,a9⟩:∃Z,Z=wr.heap.size:=⟨_,rfl⟩;rw[<-a9] at a2;have e9:=hid a9;have a2:=fun W (h:W.cell? ⟨b,0,none⟩=some (.string s)/\W.cell? ⟨b,1,none⟩=some (.int .i64 (p:Int))/\W.cell? ⟨b,2,none⟩=some (.slice (some ⟨O,U,none⟩) M ct)/\W.cell? ⟨O,U+X,none⟩=some (.slice ax l.length cx)/\Below Z wr W/\Z<=W.heap.size)=>a2 W h.2.2.2.2.1
      have f7:=aIv (B:=Z) (w0:=wr) ⟨d0,d1,d2,c2,aH _ _,by omega⟩ (aH wr.heap.size wr).drew;clear a9 d0 d1 d2 c2
      go_region_held3 (fun w'=>w'.cell? ⟨b,0,none⟩=some (.string s)/\w'.cell? ⟨b,1,none⟩=some (.int .i64 (p:Int))/\w'.cell? ⟨b,2,none⟩=some (.slice (some ⟨O,U,none⟩) M ct)/\w'.cell? ⟨O,U+X,none⟩=some (.slice ax l.length cx)/\Below Z wr w'/\Z<=w'.heap.size)
       (first
        |with_reducible assumption
        |with_reducible exact aIv (by assumption) (by assumption))
       (first
        |(go_at_call 179;refine(a2 _ (by assumption)).mono ?_;rintro e w3 ⟨rfl,f8⟩))
      have f0:=(show w3.cell? ⟨b,0,none⟩=some (.string s)/\w3.cell? ⟨b,1,none⟩=some (.int .i64 (p:Int))/\w3.cell? ⟨b,2,none⟩=some (.slice (some ⟨O,U,none⟩) M ct)/\w3.cell? ⟨O,U+X,none⟩=some (.slice ax l.length cx)/\Below Z wr w3/\Z<=w3.heap.size by assumption);go_wp2_with fail;go_meet;exact⟨rfl,rfl,rfl,by rw[<-e9.out];exact f0.2.2.2.2.1⟩
     case rest=>
      obtain⟨rfl,rfl,rfl,a4⟩:=hcut;have A:=Arr.below A a4 (Arr.lt A);have I:=OwI.below I a4 (aD _);have F:=gbT F (gbB a4);clear a2 d0 d1 d2 c2;go_wp2_with fail;refine(MK b s p q2 q3 _ _ _ wc A).mono ?_;rintro e w4 (⟨rfl,rfl,a0,b0⟩|⟨V,rfl,rfl⟩)
      rotate_left
      ·have d:=b8.out;rw[aB V] at d;have H:=a6.out (k+1) _ _ _ _ (by have:=L.out;omega) d (.inl V);rw[aB V] at H;have HR:=hid H;clear d H;go_wp2_with fail;exact⟨rfl,UW HR.out V F⟩
      have d:=b8.out;rw[aA (fun k=>k rfl)] at d;obtain⟨p1,p2,p3,p4⟩:=e8.out rfl;obtain⟨pp,rfl⟩:∃pp:Nat,q2=(pp:Int):=⟨q2.toNat,by omega⟩;have F:=gbT F b0;have I:=Ow.kept I b0 (lD I a1);have f9:=F.size;have a0:BRd w4 b s pp (.slice (some ⟨O,U,none⟩) M ct) (.slice (some ⟨bc,oc,none⟩) N cc) (.int .i64 (C:Int)):=a0;clear A b0 a4
      by_cases hf:G=(C:Int)-1
      ·rw[aB hf] at d;have v3:(G==(C:Int)-1)=true:=by rw[beq_iff_eq];exact hf
       by_cases a5:i+1<N
       ·rw[aB a5] at d;have v4:((i:Int)==(N:Int)-1)=false:=by rw[cB];omega
        have H:=a6.out (k+1) _ _ _ _ (by have:=L.out;omega) d (.inl (by decide));rw[aB (by decide)] at H;have HR:=hid H;have HF:=hid hf;clear d H hf a5;go_wp2_with (at_builtin;refine gK rfl _ _ rfl w.heap.size _ _ rfl (OwI.alloc I _) _ G rfl (bX _ _ _) ?_ ?_ ?_;(omega);(simp;omega);intro v5 w5 r1 J r3;have d4:=((Arr.alloc a0 (.cells #[.int .i64 G] 3)).below J a1).cell (i:=4) rfl;have d3:=((Arr.alloc a0 (.cells #[.int .i64 G] 3)).below J a1).cell (i:=3) rfl);refine(tW false 3 _ (by decide)).mono ?_;rintro e w6 (⟨V,rfl,rfl⟩|⟨V,rfl,rfl⟩)
        ·exact absurd V (by decide)
        go_wp2_with fail;exact⟨rfl,UW HR.out (by decide) (gbK (gbT F (gbB (bD (aH _ _) _))) J)⟩
       ·rw[aA a5] at d;have v4:((i:Int)==(N:Int)-1)=true:=by rw[beq_iff_eq];omega
        have H:=a6.out (k+1) _ _ _ _ (by have:=L.out;omega) d (.inr rfl);rw[aA (fun k=>k rfl)] at H;have HR:=hid H;have HF:=hid hf;clear d H hf a5;go_wp2_with (at_builtin;refine gK rfl _ _ rfl w.heap.size _ _ rfl (OwI.alloc I _) _ G rfl (bX _ _ _) ?_ ?_ ?_;(omega);(simp;omega);intro v5 w5 r1 J r3;have d4:=((Arr.alloc a0 (.cells #[.int .i64 G] 3)).below J a1).cell (i:=4) rfl;have d3:=((Arr.alloc a0 (.cells #[.int .i64 G] 3)).below J a1).cell (i:=3) rfl);refine(tW true 3 _ (by decide)).mono ?_;rintro e w6 (⟨V,rfl,rfl⟩|⟨V,rfl,rfl⟩)
        rotate_left
        ·exact absurd V (by decide)
        go_wp2_with fail;go_ret;exact bCe HR.out r1 ((Arr.alloc a0 _).below J a1) (gbK (gbT F (gbB (bD (aH _ _) _))) J)
      ·rw[aA hf] at d;have v3:(G==(C:Int)-1)=false:=by rw[cB];exact hf
       have f1:=hid d;clear d hf;go_wp2_with (at_builtin;refine gK rfl _ _ rfl w.heap.size _ _ rfl (OwI.alloc I _) _ G rfl (bX _ _ _) ?_ ?_ ?_;(omega);(simp;omega);intro v5 w5 r1 J r3;have d4:=((Arr.alloc a0 (.cells #[.int .i64 G] 3)).below J a1).cell (i:=4) rfl);have hg:=e6.out
       go_roundg (10-(j+1))
       case measure=>omega
       case rel=>exact⟨j+1,pp,k+1,_,_,by omega,rfl,rfl,by go_num,by omega,hid (by have:=L.out;omega),f1,r1,(Arr.alloc a0 _).below J a1,gbK (gbT F (gbB (bD (aH _ _) _))) J⟩
    ·have v2:decide ((j:Int)<10)=false:=aE (by omega);go_wp2_with fail;have hg:=HG.out
     go_roundg (N-(i+1))
     case measure=>omega
     case rel=>exact⟨i+1,p,k,_,r,by omega,rfl,rfl,by go_num,hp,hid (by have:=L.out;omega),HS,I,A,F⟩
  ·have v1:decide ((i:Int)<(N:Int))=false:=aE (by omega);have H:=c8.out k _ _ (by have:=L.out;omega) HS.out;have HR:=hid H;clear H;go_wp2_with fail;exact⟨rfl,UW HR.out (by decide) F⟩
def aIw (w w':World) (b:Nat) (s:ByteArray) (a C:Nat) (e:Ending):Prop:=
 ((dW s.data.toList (a:Int) (C:Int)).2.2≠0/\dW s.data.toList (a:Int) (C:Int)=([],0,(dW s.data.toList (a:Int) (C:Int)).2.2)/\e=.panicked (rS (dW s.data.toList (a:Int) (C:Int)).2.2)/\w.grownBy w' (some b))\/
 (e=.returned (.tuple #[])/\∃(p:Nat) (d A:Value) (T:List (List Int)) (ch:List Int),dW s.data.toList (a:Int) (C:Int)=jW s.data.toList (p:Int) T ch ((C:Int)-1)/\BRd w' b s p d A (.int .i64 (C:Int))/\w.grownBy w' (some b)/\
  (∀W,w'.grownBy W (some b)->RdL W d T)/\(∀W,w'.grownBy W (some b)->RdI W A ch)/\(∀l∈T,bM l=0)/\(∀x∈ch,0<=x/\x<(T.length:Int))/\0<ch.length/\ch.length<=40000/\0<T.length/\p<=80000000)
theorem yD {w w':World} {b:Nat} {s:ByteArray} {a C:Nat} {E:Int} (h:dW s.data.toList (a:Int) (C:Int)=([],0,E)) (d:E≠0) (A:w.grownBy w' (some b)):aIw w w' b s a C (.panicked (rS E)):=by grind [dW,aIw,rS]
theorem bCg (V:Nat) (h:V<2):decide ((V:Int)>=2)=false/\decide (2<=(V:Int))=false:=by grind
theorem bCh (b:Nat) (s:ByteArray) (a C:Nat) (w:World) (hA:BRd w b s a (.slice none 0 0) (.slice none 0 0) (.int .i64 (C:Int))) (hs:s.size<=1000000) (ha:a<=70000000) (i5:2<=C) (i6:C<=258):
  Calls pG 121 #[.pointer (some ⟨b,0,none⟩)] w fun e w'=>aIw w w' b s a C e:=by
 have HL:=hid (show s.data.toList.length=s.size by simp);have k7:w.grownBy w (some b):=gbB (aH _ _);have J:b<w.heap.size:=Arr.lt hA;have d9:=jV s.data.toList (a:Int) 3;have e0:=jV s.data.toList ((a:Int)+3) 15;have d:=aHt s.data.toList (a:Int) (C:Int);rw[HL.out] at d;have e1:=iG (n:=s.size) (at':=((a:Int)+3)) (k:=15);have e3:=FN b s a 3 (.slice none 0 0) (.slice none 0 0) (.int .i64 (C:Int)) w hA hs (by decide) (by omega);have b8:=fun W h=>FN b s (a+3) 15 (.slice none 0 0) (.slice none 0 0) (.int .i64 (C:Int)) W h hs (by decide) (by omega)
 rw[show(((a+3:Nat):Int))=(a:Int)+3 by push_cast;rfl] at b8;obtain⟨E1,e4⟩:∃E1,E1=aP s.size (a:Int) 3:=⟨_,rfl⟩;obtain⟨F,b9⟩:∃F,F=aK s.data.toList (a:Int) 3:=⟨_,rfl⟩;obtain⟨E2,c0⟩:∃E2,E2=aP s.size ((a:Int)+3) 15:=⟨_,rfl⟩;obtain⟨L,c4⟩:∃L,L=aK s.data.toList ((a:Int)+3) 15:=⟨_,rfl⟩;rw[<-e4,<-b9] at e3;rw[<-c0,<-c4] at b8;rw[<-b9] at d9;rw[<-c4] at e0;rw[<-c0] at e1;rw[<-e4,<-b9,<-c0,<-c4] at d;clear e4 b9 c0 c4;have d9:F<8:=d9;have e0:L<32768:=e0;obtain⟨A,f6⟩:∃A,A=a+3+15:=⟨_,rfl⟩;have m3:(a:Int)+18=(A:Int):=by omega
 have k8:A<=70000018:=by omega
 rw[m3] at d;go_enter func121,ntmps121;go_wp2_with fail;refine e3.mono ?_;rintro e w1 (⟨h1,rfl,f7,a4⟩|⟨h1,rfl,a4⟩)
 rotate_left
 ·rw[aB h1] at d;have HF:=hid d;clear d;go_wp2_with fail;exact⟨rfl,yD HF.out h1 a4⟩
 rw[aA (fun k=>k h1)] at d;clear e3 hA
 by_cases h2:F<2\/6<F
 ·rw[aB h2] at d;have HF:=hid d;clear d
  by_cases h3:F<2
  ·obtain⟨u1,u2⟩:=bCg F h3;go_wp2_with fail;refine(tW false 3 _ (by decide)).mono ?_;rintro e w2 (⟨H,rfl,rfl⟩|⟨H,rfl,rfl⟩)
   ·exact absurd H (by decide)
   go_wp2_with fail;exact⟨rfl,yD HF.out (by decide) a4⟩
  ·have u1:decide ((F:Int)>=2)=true:=aG (by omega);have f8:decide (2<=(F:Int))=true:=aG (by omega);have u2:decide ((F:Int)<=6)=false:=aE (by omega);go_wp2_with fail;refine(tW false 3 _ (by decide)).mono ?_;rintro e w2 (⟨H,rfl,rfl⟩|⟨H,rfl,rfl⟩)
   ·exact absurd H (by decide)
   go_wp2_with fail;exact⟨rfl,yD HF.out (by decide) a4⟩
 rw[aA h2] at d;have u1:decide ((F:Int)>=2)=true:=aG (by omega);have f8:decide (2<=(F:Int))=true:=aG (by omega);have u2:decide ((F:Int)<=6)=true:=aG (by omega);have f9:2<=F:=by omega
 have g0:F<=6:=by omega
 clear h2;go_wp2_with fail;refine(tW true 3 _ (by decide)).mono ?_;rintro e w2 (⟨H,rfl,rfl⟩|⟨H,rfl,rfl⟩)
 rotate_left
 ·exact absurd H (by decide)
 go_wp2_with fail;refine(b8 _ f7).mono ?_;rintro e w2 (⟨h3,rfl,a6,a2⟩|⟨h3,rfl,a2⟩)
 rotate_left
 ·rw[aB h3] at d;have HF:=hid d;clear d;go_wp2_with fail;exact⟨rfl,yD HF.out h3 (gbT a4 a2)⟩
 rw[aA (fun k=>k h3)] at d;have e1:=e1 h3;have a2:=gbT a4 a2;clear b8 f7 a4
 by_cases h4:L=0
 ·rw[aB h4] at d;have HF:=hid d;clear d;have u3:decide ((L:Int)>0)=false:=aE (by omega);have u4:decide (0<(L:Int))=false:=aE (by omega);have u5:decide (0<L)=false:=aE (by omega);go_wp2_with fail;refine(tW false 3 _ (by decide)).mono ?_;rintro e w3 (⟨H,rfl,rfl⟩|⟨H,rfl,rfl⟩)
  ·exact absurd H (by decide)
  go_wp2_with fail;exact⟨rfl,yD HF.out (by decide) a2⟩
 rw[aA h4] at d;have u3:decide ((L:Int)>0)=true:=aG (by omega);have u4:decide (0<(L:Int))=true:=aG (by omega);have u5:decide (0<L)=true:=aG (by omega);have i7:0<L:=by omega
 go_wp2_with fail;refine(tW true 3 _ (by decide)).mono ?_;rintro e w3 (⟨H,rfl,rfl⟩|⟨H,rfl,rfl⟩)
 rotate_left
 ·exact absurd H (by decide)
 rw[<-f6] at a6;have a7:=fun W=>aXv s A L F W hs (by omega) (by omega) f9 g0
 have b4:=aHu (s:=s.data.toList) (a:=A) (n:=L) (t:=F) f9 g0 (by omega);unfold FJ at a7;obtain⟨M,c2,O,g1⟩:∃M c2 O,eD s.data.toList (A:Int) (L:Int) (F:Int)=(M,c2,O):=⟨_,_,_,rfl⟩;rw[g1] at a7 b4 d;simp only at a7 b4 d;rw[HL.out] at b4;have d0:=Arr.cell a6 (i:=0) rfl;have d1:=Arr.cell a6 (i:=1) rfl;have d4:=Arr.cell a6 (i:=4) rfl;have HD:=hid d;have i8:=hid b4;clear g1 h4 d b4 f6 u1 f8 u2 u3 u4 u5;go_upto_region 4 with fail
 go_cut [4,5,6] (fun i9 c5 c6 wx=>(∃v,v=i9/\OwI wx w3.heap.size v M)/\c5=.int .i64 c2/\c6=.int .i64 O/\Below w3.heap.size w3 wx)
 case first=>
  obtain⟨I,b5⟩:∃I,I=w3.heap.size:=⟨_,rfl⟩;have b6:=hid b5;have a7:∀W,(W.cell? ⟨b,0,none⟩=some (.string s)/\W.cell? ⟨b,1,none⟩=some (.int .i64 (A:Int))/\W.cell? ⟨b,4,none⟩=some (.int .i64 (C:Int))/\Below I w3 W/\I<=W.heap.size)->Calls pG 176 #[.string s,.int .i64 (A:Int),.int .i64 (L:Int),.int .i64 (F:Int)] W fun e w'=>∃v,e=.returned (.tuple #[v,.int .i64 c2,.int .i64 O])/\OwI w' I v M/\Below W.heap.size W w':=fun W h=>(a7 W).mono (fun e w' ⟨v,k1,k2,k3⟩=>⟨v,k1,OwI.base k2 h.2.2.2.2,k3⟩)
  have j0:=oF (B:=I) (w0:=w3) ⟨d0,d1,d4,aH _ _,by omega⟩ (aH w3.heap.size w3).drew;clear b5 d0 d1 d4
  go_region_held3 (fun w'=>w'.cell? ⟨b,0,none⟩=some (.string s)/\w'.cell? ⟨b,1,none⟩=some (.int .i64 (A:Int))/\w'.cell? ⟨b,4,none⟩=some (.int .i64 (C:Int))/\Below I w3 w'/\I<=w'.heap.size)
   (first
    |with_reducible assumption
    |with_reducible exact oF (by assumption) (by assumption))
   (first
    |(go_at_call 176;refine(a7 _ (by assumption)).mono ?_;rintro e w4 ⟨v4,rfl,a8,d5⟩))
  have e5:=(show w4.cell? ⟨b,0,none⟩=some (.string s)/\w4.cell? ⟨b,1,none⟩=some (.int .i64 (A:Int))/\w4.cell? ⟨b,4,none⟩=some (.int .i64 (C:Int))/\Below I w3 w4/\I<=w4.heap.size by assumption);go_wp2_with fail;go_meet;exact⟨⟨v4,rfl,by rw[<-b6.out];exact a8⟩,rfl,rfl,by rw[<-b6.out];exact e5.2.2.2.1⟩
 case rest=>
  obtain⟨⟨v4,rfl,a8⟩,rfl,rfl,d5⟩:=hcut;have g2:=Arr.below a6 d5 (Arr.lt a6);have a8:=OwI.base a8 a2.size;have e6:=gbT a2 (gbB d5);clear a7 d0 d1 d4 a6 a2 d5;go_wp2_with fail;refine(MK b s A c2 O _ _ _ wc g2).mono ?_;rintro e w5 (⟨rfl,rfl,d6,b2⟩|⟨H,rfl,rfl⟩)
  rotate_left
  ·have d:=HD.out;rw[aB H] at d;have HF:=hid d;clear d;go_wp2_with fail;exact⟨rfl,yD HF.out H e6⟩
  have d:=HD.out;rw[aA (fun k=>k rfl)] at d;obtain⟨s1,s2,s3,s4⟩:=i8.out rfl;obtain⟨V,rfl⟩:∃V:Nat,c2=(V:Int):=⟨c2.toNat,by omega⟩;have k9:V<=70000018:=by omega
  have d7:=Ow.kept a8 b2 (lD a8 J);have b2:=gbT e6 b2;have l1:=b2.size;obtain⟨ac,cc,rfl,_,_,_⟩:=(OwI.rd d7).open;have j1:=hid s2;have g3:=hid s1;have g4:BRd (w5.setCell ⟨b,3,none⟩ (.slice ac M.length cc)) b s V (.slice none 0 0) (.slice ac M.length cc) (.int .i64 (C:Int)):=Arr.set d6 3 _;have g5:=gbT b2 (gbS w5 b 3 (.slice ac M.length cc));have g6:OwI (w5.setCell ⟨b,3,none⟩ (.slice ac M.length cc)) w.heap.size (.slice ac M.length cc) M:=Ow.kept d7 (gbS w5 b 3 _) (lD d7 J);have d3:=Arr.cell d6 (i:=3) rfl;have f3:=Arr.free d6 3
  have g7:=hid (fun k=>MO (s:=s.data.toList) (a:=(V:Int)) (c:=(C:Int)) (by omega) k);have j2:=hid (LE s.data.toList (V:Int) (C:Int) F);have g8:=hid (fun k (hk:k<=F) (h:(bO s.data.toList (V:Int) (C:Int) k).2.2≠0)=>show dW s.data.toList (a:Int) (C:Int)=([],0,(bO s.data.toList (V:Int) (C:Int) k).2.2) by
   have:=MN h (F-k);rw[show k+(F-k)=F by omega] at this;rw[aB (by rw[this];exact h),this] at d;exact d)
  have j3:=hid (fun(h:(bO s.data.toList (V:Int) (C:Int) F).2.2=0)=>by
   rw[aA (fun q=>q h)] at d;exact d)
  clear d s1 s2 s3 s4 g2 a8 e6 d7;go_wp2_with fail;generalize w5.setCell ⟨b,3,none⟩ (.slice ac M.length cc)=w6 at*
  clear d3 f3 d6 b2
  go_loopg [7,8,9,56] F (fun g _s7 _s8 _s9 j4 wr=>∃(k p:Nat) (v:Value) (xs:List Value),k<=F/\g=F-k/\j4=.int .i64 (k:Int)/\Hid ((bO s.data.toList (V:Int) (C:Int) k).2.2=0/\(bO s.data.toList (V:Int) (C:Int) k).2.1=(p:Int))/\Ow wr w.heap.size 26 v xs/\iE wr w.heap.size xs (bO s.data.toList (V:Int) (C:Int) k).1/\xs.length=k/\BRd wr b s p v (.slice ac M.length cc) (.int .i64 (C:Int))/\OwI wr w.heap.size (.slice ac M.length cc) M/\w.grownBy wr (some b))
  case atStart=>exact⟨0,V,_,[],aO _,rfl,rfl,hid ⟨rfl,rfl⟩,Ow.nil _ _ _,iE.nil _ _,rfl,g4,g6,g5⟩
  case round=>
   clear g4 g6 g5;obtain⟨k,p,v,xs,hk,hg,rfl,HK,ho,hx,g9,hA,a1,Z⟩:=hrel;have HG:=hid hg;clear hg;have e7:=Z.size;have j5:=g7.out k HK.out.1;rw[HK.out.2,HL.out] at j5;have j6:p<=80000000:=by omega
   by_cases l2:k<F
   ·have v1:decide ((k:Int)<(F:Int))=true:=aG (by omega);have G:=UA HK.out.1;rw[HK.out.2] at G;have a9:=fun W=>aY5 s p C W hs (by omega) i5 i6
    unfold CL at a9;obtain⟨U,q2,q3,hq⟩:∃U q2 q3,gS s.data.toList (p:Int) (C:Int)=(U,q2,q3):=⟨_,_,_,rfl⟩;rw[hq] at G a9;simp only at G a9;have i0:=hid G;have d0:=Arr.cell hA (i:=0) rfl;have d1:=Arr.cell hA (i:=1) rfl;have d4:=Arr.cell hA (i:=4) rfl;clear hq G;go_upto_region 9 with fail
    go_cut [7,8,9] (fun c7 c8 c9 wx=>(∃v,v=c7/\OwI wx wr.heap.size v U)/\c8=.int .i64 q2/\c9=.int .i64 q3/\Below wr.heap.size wr wx)
    case first=>
     obtain⟨I,b5⟩:∃I,I=wr.heap.size:=⟨_,rfl⟩;have b6:=hid b5;have a9:∀W,(W.cell? ⟨b,0,none⟩=some (.string s)/\W.cell? ⟨b,1,none⟩=some (.int .i64 (p:Int))/\W.cell? ⟨b,4,none⟩=some (.int .i64 (C:Int))/\Below I wr W/\I<=W.heap.size)->Calls pG 177 #[.string s,.int .i64 (p:Int),.int .i64 (C:Int)] W fun e w'=>∃v,e=.returned (.tuple #[v,.int .i64 q2,.int .i64 q3])/\OwI w' I v U/\Below W.heap.size W w':=fun W h=>(a9 W).mono (fun e w' ⟨v,k1,k2,k3⟩=>⟨v,k1,OwI.base k2 h.2.2.2.2,k3⟩)
     have j0:=oF (B:=I) (w0:=wr) ⟨d0,d1,d4,aH _ _,by omega⟩ (aH wr.heap.size wr).drew;clear b5 d0 d1 d4
     go_region_held3 (fun w'=>w'.cell? ⟨b,0,none⟩=some (.string s)/\w'.cell? ⟨b,1,none⟩=some (.int .i64 (p:Int))/\w'.cell? ⟨b,4,none⟩=some (.int .i64 (C:Int))/\Below I wr w'/\I<=w'.heap.size)
      (first
       |with_reducible assumption
       |with_reducible exact oF (by assumption) (by assumption))
      (first
       |(go_at_call 177;refine(a9 _ (by assumption)).mono ?_;rintro e w7 ⟨v7,rfl,a0,b0⟩))
     have e5:=(show w7.cell? ⟨b,0,none⟩=some (.string s)/\w7.cell? ⟨b,1,none⟩=some (.int .i64 (p:Int))/\w7.cell? ⟨b,4,none⟩=some (.int .i64 (C:Int))/\Below I wr w7/\I<=w7.heap.size by assumption);go_wp2_with fail;go_meet;exact⟨⟨v7,rfl,by rw[<-b6.out];exact a0⟩,rfl,rfl,by rw[<-b6.out];exact e5.2.2.2.1⟩
    case rest=>
     obtain⟨⟨v7,rfl,a0⟩,rfl,rfl,b0⟩:=hcut;have hA:=Arr.below hA b0 (Arr.lt hA);have a0:=OwI.base a0 e7;have ho:=Ow.below ho b0 (aD _);have hx:=hx.below b0;have a1:=OwI.below a1 b0 (aD _);have Z:=gbT Z (gbB b0);clear a9 d0 d1 d4 b0;go_wp2_with fail;refine(MK b s p q2 q3 _ _ _ wc hA).mono ?_;rintro e w8 (⟨rfl,rfl,e8,b3⟩|⟨H,rfl,rfl⟩)
     rotate_left
     ·have G:=i0.out;rw[aB H] at G;have hE:=g8.out (k+1) (by omega) (by rw[G];exact H);rw[G] at hE;have HE:=hid hE;clear G hE;go_wp2_with fail;exact⟨rfl,yD HE.out H Z⟩
     have G:=i0.out;rw[aA (fun k=>k rfl)] at G;have ho:=Ow.kept ho b3 (lD ho J);have hx:=hx.map (fun x g k=>Ow.kept k b3 (lD k J));have a0:=Ow.kept a0 b3 (lD a0 J);have a1:=Ow.kept a1 b3 (lD a1 J);have Z:=gbT Z b3;have e7:=Z.size;clear hA b3;go_wp2_with fail;refine(FK v7 U w8 (OwI.rd a0)).mono ?_;rintro e w9 ⟨rfl,b1⟩;have i1:=Arr.below e8 b1 (Arr.lt e8);have ho:=Ow.below ho b1 (aD _);have hx:=hx.below b1;have a0:=OwI.below a0 b1 (aD _);have a1:=OwI.below a1 b1 (aD _);have Z:=gbT Z (gbB b1);have e7:=Z.size;obtain⟨E,hE⟩:∃E,E=bM U:=⟨_,rfl⟩
     rw[<-hE] at G ⊢;have i2:=hid G;clear e8 b1 hE G;go_wp2_with fail;refine(zU E w9).mono ?_;rintro e e9 (⟨rfl,rfl,rfl⟩|⟨H,rfl,rfl⟩)
     rotate_left
     ·have G:=i2.out;rw[aB H] at G;have hE:=g8.out (k+1) (by omega) (by rw[G];exact H);rw[G] at hE;have HE:=hid hE;clear G hE;go_wp2_with fail;exact⟨rfl,yD HE.out H Z⟩
     have G:=i2.out;rw[aA (fun k=>k rfl)] at G;have f0:=g7.out (k+1) (by rw[G]);rw[G] at f0;have f0:(V:Int)<=q2:=f0.1;obtain⟨pp,rfl⟩:∃pp:Nat,q2=(pp:Int):=⟨q2.toNat,by omega⟩;have HS:=hid G;obtain⟨a3,O,rfl,_,_,_⟩:=(OwI.rd a0).open;obtain⟨av,cv,rfl,-⟩:=ho.rd;have j7:(xs.length+1)*24<=140737488355328:=by omega
     have j8:=hx.alloc (.cells #[.slice a3 U.length O] 26);have d8:=Ow.alloc ho (.cells #[.slice a3 U.length O] 26);have i3:=OwI.alloc a0 (.cells #[.slice a3 U.length O] 26);have f1:=OwI.alloc a1 (.cells #[.slice a3 U.length O] 26);have f4:=Arr.alloc i1 (.cells #[.slice a3 U.length O] 26);have j9:=gbT Z (gbB (g:=some b) (bD (aH _ e9) (.cells #[.slice a3 U.length O] 26)));have d2:=Arr.cell i1 (i:=2) rfl;have k0:=hid g9;clear G hx ho a0 a1 Z g9
     go_wp2_with (at_builtin;refine tM CK rfl _ _ rfl w.heap.size _ xs rfl d8 e9.heap.size (.slice a3 U.length O) rfl (bX _ _ _) rfl ?_ ?_ ?_;(exact j7);(simp;omega);intro v5 b7 r1 r2 r3;obtain⟨a5,c5,rfl,-⟩:=r1.rd;have e2:=(Arr.below f4 r2 J).cell (i:=2) rfl;have f2:=(Arr.below f4 r2 J).free 2);rw[aL,List.length_singleton] at r1;have f5:(e9.alloc (.cells #[.slice a3 U.length O] 26)).grownBy b7 (Value.slice av xs.length cv).ownBlock:=r3;have hg:=HG.out
     go_roundg (F-(k+1))
     case measure=>omega
     case rel=>
      refine⟨k+1,pp,_,xs++[.slice a3 U.length O],by omega,rfl,by go_num,hid ⟨by rw[HS.out],by rw[HS.out]⟩,Ow.kept r1 (gbS b7 b 2 _) (lD r1 J),?_,by rw[aL,k0.out];rfl,Arr.set (Arr.below f4 r2 J) 2 _,?_,gbT (gbK j9 r2) (gbS b7 b 2 _)⟩
      ·rw[HS.out];exact((j8.app d8 f5).snoc (Ow.kept i3 f5 (uV i3 d8 (by decide)))).map (fun x g k=>Ow.kept k (gbS b7 b 2 _) (lD k J))
      ·exact Ow.kept (Ow.kept f1 f5 (uV f1 d8 (by decide))) (gbS b7 b 2 _) (lD f1 J)
   ·have v1:decide ((k:Int)<(F:Int))=false:=aE (by omega);have k4:k=F:=by omega
    subst k4;have hE:=j3.out HK.out.1;rw[HK.out.2] at hE;obtain⟨t1,t2⟩:=j2.out HK.out.1;have HE:=hid hE;have i4:=hid t1;have k5:=hid t2;have k6:=hid (j1.out);clear hE t1 t2;go_wp2_with fail
    go_end0
    refine .inr ⟨rfl,p,v,_,_,M,HE.out,hA,Z,fun W hW=>?_,fun W hW=>OwI.rd (Ow.kept a1 hW (lD a1 J)),fun l hl=>(k5.out l hl).1,fun x hx=>by rw[i4.out];exact k6.out x hx,by rw[g3.out];exact i7,by rw[g3.out];omega,by rw[i4.out];omega,j6⟩;exact Ow.rdL (Ow.kept ho hW (lD ho J)) (hx.map (fun x g k=>Ow.kept k hW (lD k J))).ok
theorem bCj (b:Nat) (s:ByteArray) (a k:Nat) (J ch L:Value) (W:World) (A:BRd W b s a J ch L) (M:s.size<=1000000) (U:k<=48) (Z:a<=9223372036854775807) (F:aP s.size (a:Int) k≠0):
  Calls pG 118 #[.pointer (some ⟨b,0,none⟩),.int .i64 (k:Int)] W fun e w'=>e=.panicked (rS (aP s.size (a:Int) k))/\W.grownBy w' (some b):=by
 have G:=fun W=>uQ s (a:Int) k W M (by omega) (by omega) (by omega)
 obtain⟨E,d⟩:∃E,E=aP s.size (a:Int) k:=⟨_,rfl⟩;obtain⟨V,H⟩:∃V,V=aK s.data.toList (a:Int) k:=⟨_,rfl⟩;rw[<-d] at F ⊢;rw[<-d,<-H] at G;clear d H;have c0:=Arr.cell A (i:=0) rfl;have c1:=Arr.cell A (i:=1) rfl;have hor:=fun W=>zU E W
 go_enter func118,ntmps118;go_wp2_with fail
 go_quiet (first|(go_at_call 175;exact Calls.quiet_of_same (G _)))
 have O:W.grownBy (W.drewN nq) (some b):=⟨rfl,rfl,rfl,aD _,fun _ _ _=>rfl⟩;generalize W.drewN nq=W1 at*
 go_wp2_with fail;refine(hor _).mono ?_;rintro e w2 (⟨I,rfl,rfl⟩|⟨I,rfl,rfl⟩)
 ·exact absurd I F
 ·go_wp2_with fail;exact⟨rfl,rfl,O⟩
def aIy (w w':World) (b:Nat) (s:ByteArray) (a:Nat) (room:Int) (e:Ending):Prop:=
 (∃E,E≠0/\cO s.data.toList (a:Int) room=(dN,0,0,E)/\e=.panicked (rS E)/\w.grownBy w' (some b))\/
 (∃(O:List UInt8) (V p:Nat) (d A F:Value),e=.returned (.tuple #[.string (mkS O),.int .u32 (V:Int)])/\BRd w' b s p d A F/\w.grownBy w' (some b)/\
  cO s.data.toList (a:Int) room=(if(cH O).toNat≠V then(dN,0,0,7) else(mkS O,(V:Int),(p:Int),0))/\O.length<=100000/\V<4294967296)
theorem wO {w w':World} {b:Nat} {s:ByteArray} {a:Nat} {room E:Int} (h:cO s.data.toList (a:Int) room=(dN,0,0,E)) (d:E≠0) (A:w.grownBy w' (some b)):aIy w w' b s a room (.panicked (rS E)):=.inl ⟨E,d,h,rfl,A⟩
theorem bCk (b:Nat) (s:ByteArray) (a R:Nat) (w:World) (hA:BRd w b s a (.slice none 0 0) (.slice none 0 0) (.int .i64 0)) (hs:s.size<=120000) (ha:a<=9223372036854775807) (l7:1<=R) (l8:R<=360) (g0:∀W,w.grownBy W (some b)->dU W):
  Calls pG 76 #[.pointer (some ⟨b,0,none⟩),.int .i64 (R:Int)] w fun e w'=>aIy w w' b s a (R:Int) e:=by
 have HL:=hid (show s.data.toList.length=s.size by simp);have l9:b<w.heap.size:=Arr.lt hA;have d:=UJ s.data.toList (a:Int) (R:Int);rw[HL.out,aA (by omega)] at d
 by_cases h1:aP s.size (a:Int) 48=0
 rotate_left
 ·rw[aB h1] at d;have G:=hid d;clear d;go_enter func76,ntmps76;go_wp2_with fail;refine(bCj b s a 48 _ _ _ w hA (by omega) (by decide) ha h1).mono ?_;rintro e w1 ⟨rfl,a2⟩;go_wp2_with fail;exact⟨rfl,wO G.out h1 a2⟩
 rw[aA (fun k=>k h1)] at d;have k0:=iG h1;have m0:a<=960000:=by omega
 have b1:=FN b s a 48 (.slice none 0 0) (.slice none 0 0) (.int .i64 0) w hA (by omega) (by decide) (by omega);have b2:=fun W h=>FN b s (a+48) 32 (.slice none 0 0) (.slice none 0 0) (.int .i64 0) W h (by omega) (by decide) (by omega)
 have b3:=fun W h=>FN b s (a+48+32) 16 (.slice none 0 0) (.slice none 0 0) (.int .i64 0) W h (by omega) (by decide) (by omega)
 rw[show(((a+48:Nat):Int))=(a:Int)+48 by push_cast;rfl] at b2;rw[show(((a+48+32:Nat):Int))=(a:Int)+80 by push_cast;omega] at b3;have d3:=jV s.data.toList (a:Int) 48;have b4:=jV s.data.toList ((a:Int)+48) 32;have d5:=jV s.data.toList ((a:Int)+80) 16;rw[h1] at b1;obtain⟨Z,g1⟩:∃Z,Z=aK s.data.toList (a:Int) 48:=⟨_,rfl⟩;obtain⟨E2,d6⟩:∃E2,E2=aP s.size ((a:Int)+48) 32:=⟨_,rfl⟩;obtain⟨V2,d7⟩:∃V2,V2=aK s.data.toList ((a:Int)+48) 32:=⟨_,rfl⟩;obtain⟨E3,d8⟩:∃E3,E3=aP s.size ((a:Int)+80) 16:=⟨_,rfl⟩;obtain⟨J,d9⟩:∃J,J=aK s.data.toList ((a:Int)+80) 16:=⟨_,rfl⟩;rw[<-g1] at b1 d3 d
 rw[<-d6,<-d7] at b2;rw[<-d6] at d;rw[<-d7] at b4 d;rw[<-d8,<-d9] at b3;rw[<-d8] at d;rw[<-d9] at d5 d;have d3:Z<281474976710656:=d3;have b4:V2<4294967296:=b4;have d5:J<65536:=d5;clear d6 d8 g1 d7 d9;go_enter func76,ntmps76;go_wp2_with fail;refine b1.mono ?_;rintro e w1 (⟨e3,rfl,g2,a2⟩|⟨e3,rfl,a2⟩)
 rotate_left
 ·exact absurd rfl e3
 clear e3 h1 b1 k0 hA
 by_cases h2:Z=54156738319193
 rotate_left
 ·have v1:((Z:Int)==54156738319193)=false:=by rw[cB];omega
  have v2:(Z==54156738319193)=false:=by rw[cB];exact h2
  rw[aB h2] at d;have G:=hid d;clear d;go_wp2_with fail;refine(tW false 3 _ (by decide)).mono ?_;rintro e w2 (⟨F,rfl,rfl⟩|⟨F,rfl,rfl⟩)
  ·exact absurd F (by decide)
  go_wp2_with fail;exact⟨rfl,wO G.out (by decide) a2⟩
 rw[aA (fun k=>k h2)] at d;have v1:((Z:Int)==54156738319193)=true:=by rw[beq_iff_eq];omega
 have v2:(Z==54156738319193)=true:=by rw[beq_iff_eq];exact h2
 clear h2;go_wp2_with fail;refine(tW true 3 _ (by decide)).mono ?_;rintro e w2 (⟨F,rfl,rfl⟩|⟨F,rfl,rfl⟩)
 rotate_left
 ·exact absurd F (by decide)
 clear v1 v2;go_wp2_with fail;refine(b2 _ g2).mono ?_;rintro e w2 (⟨h3,rfl,g3,a3⟩|⟨h3,rfl,a3⟩)
 rotate_left
 ·rw[aB h3] at d;have G:=hid d;clear d;go_wp2_with fail;exact⟨rfl,wO G.out h3 (gbT a2 a3)⟩
 rw[aA (fun k=>k h3)] at d;have a3:=gbT a2 a3;clear b2 g2 a2 h3;have m9:IntKind.u32.wrap (V2:Int)=(V2:Int):=by rw[IntKind.wrap_u32];omega
 have k5:(V2:Int)%4294967296=(V2:Int):=by omega
 go_wp2_with fail;refine(b3 _ g3).mono ?_;rintro e w3 (⟨h4,rfl,e4,a0⟩|⟨h4,rfl,a0⟩)
 rotate_left
 ·rw[aB h4] at d;have G:=hid d;clear d;go_wp2_with fail;exact⟨rfl,wO G.out h4 (gbT a3 a0)⟩
 rw[aA (fun k=>k h4)] at d;have a0:=gbT a3 a0;obtain⟨A,g4⟩:∃A,A=a+48+32+16:=⟨_,rfl⟩;rw[<-g4] at e4;rw[show(a:Int)+96=(A:Int) by omega] at d;have m1:A<=960096:=by omega
 have b5:=aH4 (s:=s.data.toList) (a:=(A:Int));have b6:=fun W=>bCi s (A:Int) W (by omega) (by omega) (by omega)
 obtain⟨H,U2,U3,hU⟩:∃H U2 U3,dF s.data.toList (A:Int)=(H,U2,U3):=⟨_,_,_,rfl⟩;rw[hU] at b6 b5 d;simp only at b6 b5 d;have I:=hid d;have g5:=hid b5;have a8:=Arr.new w3 131 [.string ⟨#[]⟩,.int .i64 (J:Int),.slice none 0 0];change Arr (w3.alloc (.cells #[.string ⟨#[]⟩,.int .i64 (J:Int),.slice none 0 0] 131)) _ _ _ at a8;have a4:=Arr.alloc e4 (.cells #[.string ⟨#[]⟩,.int .i64 (J:Int),.slice none 0 0] 131);have g6:=gbT a0 (gbB (g:=some b) (bD (aH _ w3) (.cells #[.string ⟨#[]⟩,.int .i64 (J:Int),.slice none 0 0] 131)));have d0:=Arr.cell a4 (i:=0) rfl;have d1:=Arr.cell a4 (i:=1) rfl
 have d4:=Arr.cell a4 (i:=4) rfl;clear b3 g3 a3 h4 g4 hU d b5 e4 m9 k5;go_upto_region 4 with fail;obtain⟨z,hz⟩:∃z,z=w3.heap.size:=⟨_,rfl⟩;have m2:b<z:=by have:=a0.size;omega
 have m3:w.heap.size<=z:=by have:=a0.size;omega
 rw[<-hz] at a8 ⊢;generalize w3.alloc (.cells #[.string ⟨#[]⟩,.int .i64 (J:Int),.slice none 0 0] 131)=w4 at*
 clear hz a0
 go_cut [8,9,10] (fun c8 c9 k6 wx=>c8=.string (mkS H)/\c9=.int .i64 U2/\k6=.int .i64 U3/\Below w4.heap.size w4 wx)
 case first=>
  obtain⟨B3,g7⟩:∃B3,B3=w4.heap.size:=⟨_,rfl⟩;have k7:=hid g7;have m4:=oF (B:=B3) (w0:=w4) ⟨d0,d1,d4,aH _ _,by omega⟩ (aH w4.heap.size w4).drew;clear g7 d0 d1 d4
  go_region_held3 (fun w'=>w'.cell? ⟨b,0,none⟩=some (.string s)/\w'.cell? ⟨b,1,none⟩=some (.int .i64 (A:Int))/\w'.cell? ⟨b,4,none⟩=some (.int .i64 0)/\Below B3 w4 w'/\B3<=w'.heap.size)
   (first
    |with_reducible assumption
    |with_reducible exact oF (by assumption) (by assumption))
   (first
    |(go_at_call 119;refine(b6 _).mono ?_;rintro e w5 ⟨rfl,a9⟩))
  have k8:=(show w5.cell? ⟨b,0,none⟩=some (.string s)/\w5.cell? ⟨b,1,none⟩=some (.int .i64 (A:Int))/\w5.cell? ⟨b,4,none⟩=some (.int .i64 0)/\Below B3 w4 w5/\B3<=w5.heap.size by assumption);go_wp2_with fail;go_meet;exact⟨rfl,rfl,rfl,by rw[<-k7.out];exact k8.2.2.2.1⟩
 case rest=>
  obtain⟨rfl,rfl,rfl,a9⟩:=hcut;have g8:=Arr.below a4 a9 (Arr.lt a4);have g9:=a8.below a9 (Arr.lt a8);have e5:=gbT g6 (gbB a9);clear b6 d0 d1 d4 a4 a8 g6 a9;go_wp2_with fail;refine(MK b s A U2 U3 _ _ _ wc g8).mono ?_;rintro e w6 (⟨rfl,rfl,i0,V⟩|⟨F,rfl,rfl⟩)
  rotate_left
  ·have d:=I.out;rw[aB F] at d;have G:=hid d;clear d;go_wp2_with fail;exact⟨rfl,wO G.out F e5⟩
  have d:=I.out;rw[aA (fun k=>k rfl)] at d;obtain⟨k1,k2,k3⟩:=g5.out rfl;obtain⟨p,rfl⟩:∃p:Nat,U2=(p:Int):=⟨U2.toNat,by omega⟩;have m5:p<=960368:=by omega
  obtain⟨C,hC⟩:∃C,C=H.length+2:=⟨_,rfl⟩;have b7:2<=C/\C<=258:=by omega
  rw[show(H.length:Int)+2=(C:Int) by omega] at d;have b8:=g9.grown V (by simp only[ne_eq,lJ];omega);have V:=gbT e5 V;have m6:(mkS H).size<=256:=by rw[cS];exact k1
  have e6:=aA3 (mkS H) (J:Int) (.slice none 0 0) rfl (w6.setCell ⟨z,0,none⟩ (.string (mkS H))) (by omega);rw[show((mkS H).size:Int)+2=(C:Int) by rw[cS];omega] at e6;have a5:=b8.set 0 (.string (mkS H));have e7:BRd (w6.setCell ⟨z,0,none⟩ (.string (mkS H))) b s p (.slice none 0 0) (.slice none 0 0) (.int .i64 0):=Arr.other i0 ⟨z,0,none⟩ (by simp only[ne_eq];omega) _;have i1:w.grownBy (w6.setCell ⟨z,0,none⟩ (.string (mkS H))) (some b):=⟨V.os,V.tape,V.output,by have:=V.size;simpa using this,fun k hk e8=>by
   rw[kF w6 ⟨z,0,none⟩ k _ (by simp only[ne_eq];omega)];exact V.block k hk e8⟩
  have d0:=b8.cell (i:=0) rfl;have f0:=b8.free 0;have e0:=a5.cell (i:=0) rfl;have e1:=a5.cell (i:=1) rfl;have e2:=a5.cell (i:=2) rfl;have I:=hid d;clear d hC g8 g9 e5 i0 k2 k3 g5;go_wp2_with fail;refine e6.mono ?_;rintro e w8 ⟨rfl,b9⟩;have c0:=Arr.below e7 b9 (Arr.lt e7);have i2:=a5.below b9 (Arr.lt a5);have i3:=gbT i1 (gbB b9);have d4:=Arr.cell c0 (i:=4) rfl;have f4:=Arr.free c0 4;have i4:BRd (w8.setCell ⟨b,4,none⟩ (.int .i64 (C:Int))) b s p (.slice none 0 0) (.slice none 0 0) (.int .i64 (C:Int)):=Arr.set c0 4 _;have i5:=i2.other ⟨b,4,none⟩ (by simp only[ne_eq];omega) (.int .i64 (C:Int))
  have e9:=gbT i3 (gbS w8 b 4 (.int .i64 (C:Int)));clear e6 d0 f0 e0 e1 e2 b8 a5 e7 V i1 b9;go_wp2_with fail;clear d4 f4;generalize w8.setCell ⟨b,4,none⟩ (.int .i64 (C:Int))=w9 at*
  clear i2 c0 i3;refine(bCh b s p C w9 i4 (by omega) (by omega) b7.1 b7.2).mono ?_;rintro e i6 (⟨F,c1,rfl,a1⟩|⟨rfl,p2,vt,vc,T,ch,c1,i7,a1,i8,i9,j0,j1,j2,j3,j4,k9⟩)
  ·have d:=I.out;rw[aB F] at d;have G:=hid d;obtain⟨E,hE⟩:∃E,E=(dW s.data.toList (p:Int) (C:Int)).2.2:=⟨_,rfl⟩;rw[<-hE] at F G ⊢;clear d hE c1 I;go_wp2_with fail;exact⟨rfl,wO G.out F (gbT e9 a1)⟩
  have d:=I.out;have a6:=RZ (s:=s.data.toList) (at':=(p:Int)) (codes:=(C:Int));have a7:=bCf b s p2 C vt vc T ch i6 i7 (by omega) k9 i8 i9 j0 j1 j2 j3 j4 b7.1 b7.2;unfold NA at a7;rw[c1] at d a6;obtain⟨L,P,K,hL⟩:∃L P K,jW s.data.toList (p2:Int) T ch ((C:Int)-1)=(L,P,K):=⟨_,_,_,rfl⟩;rw[hL] at a7 a6 d;simp only at a7 a6 d;rw[HL.out] at a6;have f1:=i5.grown a1 (by simp only[ne_eq,lJ];omega);have a1:=gbT e9 a1;have l1:=Arr.lt f1;have I:=hid d;have j5:=hid a6;clear hL c1 d a6 i8 i9 j0 j1 j2 j3 j4 i5 e9 i4 i7;go_wp2_with fail;refine a7.mono ?_
  rintro e b0 (⟨F,⟨v,rfl,ho⟩,⟨p3,rfl,j6⟩,U⟩|⟨F,rfl,U⟩)
  rotate_left
  ·have d:=I.out;rw[aB F] at d;have G:=hid d;clear d a7;go_wp2_with fail;exact⟨rfl,wO G.out F (gbT a1 U)⟩
  subst F;have d:=I.out;rw[aA (fun k=>k rfl)] at d;obtain⟨_,_,_,_,k4,_,_⟩:=j5.out rfl;obtain⟨av,cv,rfl,_,_,_⟩:=(OwI.rd ho).open;have c2:=f1.grown U (by simp only[ne_eq,lJ];omega);have U:=gbT a1 U;have c3:=c2.set 2 (.slice av L.length cv);have f3:BRd (b0.setCell ⟨z,2,none⟩ (.slice av L.length cv)) b s p3 vt vc (.int .i64 (C:Int)):=Arr.other j6 ⟨z,2,none⟩ (by simp only[ne_eq];omega) _;have f5:w.grownBy (b0.setCell ⟨z,2,none⟩ (.slice av L.length cv)) (some b):=⟨U.os,U.tape,U.output,by have:=U.size;simpa using this,fun k hk e8=>by
   rw[kF b0 ⟨z,2,none⟩ k _ (by simp only[ne_eq];omega)];exact U.block k hk e8⟩
  have j7:OwI (b0.setCell ⟨z,2,none⟩ (.slice av L.length cv)) i6.heap.size (.slice av L.length cv) L:=Ow.kept ho (gbS b0 z 2 _) (lD ho l1);have j8:=g0 _ f5;have c4:=aR9 (mkS H) (J:Int) (.slice av L.length cv) L (R:Int) _ j8 (by omega) (OwI.rd j7) (by omega) (by omega) (by omega) (by omega) (by omega);have c5:=aH3 (mkS H) (J:Int) L (R:Int);obtain⟨Q,RE,hR⟩:∃Q RE,rest (mkS H) (J:Int) L (R:Int)=(Q,RE):=⟨_,_,rfl⟩;rw[hR] at c4 c5 d;simp only at c4 c5 d;have d2:=c2.cell (i:=2) rfl;have f2:=c2.free 2;have e0:=c3.cell (i:=0) rfl;have e1:=c3.cell (i:=1) rfl;have e2:=c3.cell (i:=2) rfl
  have I:=hid d;clear hR d f1 a1 c2 U j6 ho j7 j8 c3 a7 j5 g0;go_wp2_with fail;refine c4.mono ?_;rintro e l2 ⟨rfl,f6⟩;have f7:=Arr.below f3 f6 (Arr.lt f3);have f8:=gbT f5 (gbB f6);clear c4 d2 f2 e0 e1 e2 f3 f5 f6;go_wp2_with fail;refine(zU RE l2).mono ?_;rintro e l3 (⟨rfl,rfl,rfl⟩|⟨F,rfl,rfl⟩)
  rotate_left
  ·have d:=I.out;rw[aB F] at d;have G:=hid d;clear d;go_wp2_with fail;exact⟨rfl,wO G.out F f8⟩
  have d:=I.out;rw[aA (fun k=>k rfl)] at d;have c5:=c5 rfl;obtain⟨M,hM⟩:∃M,M=52*R:=⟨_,rfl⟩;have m8:aJ.wrap (52*(R:Int))=(M:Int):=by rw[aM];omega
  have l4:52*(R:Int)=(M:Int):=by omega
  have m7:M<=18720:=by omega
  rw[l4] at d;have c6:=bAm Q M l3 (by omega) (by omega);have c7:=aIx (p:=Q.data.toList) (most:=(M:Int));obtain⟨O,OE,hO⟩:∃O OE,jX Q.data.toList (M:Int)=(O,OE):=⟨_,_,rfl⟩;rw[hO] at c6 c7 d;simp only at c6 c7 d;have I:=hid d;clear hO d hM;go_wp2_with fail;refine c6.mono ?_;rintro e l5 ⟨rfl,f9⟩;have l6:=Arr.below f7 f9 (Arr.lt f7);have j9:=gbT f8 (gbB f9);clear c6 f7 f8 f9;go_wp2_with fail;refine(zU OE l5).mono ?_;rintro e o0 (⟨rfl,rfl,rfl⟩|⟨F,rfl,rfl⟩)
  rotate_left
  ·have d:=I.out;rw[aB F] at d;have G:=hid d;clear d;go_wp2_with fail;exact⟨rfl,wO G.out F j9⟩
  have d:=I.out;rw[aA (fun k=>k rfl)] at d;have G:=hid d;have c7:=c7 rfl;clear d;go_wp2_with fail
  go_ret2
  exact .inr ⟨O,V2,p3,vt,vc,_,rfl,l6,j9,G.out,by omega,b4⟩
end Go.Proofs.YtihbnmlinkbnkaaGreatDoor
