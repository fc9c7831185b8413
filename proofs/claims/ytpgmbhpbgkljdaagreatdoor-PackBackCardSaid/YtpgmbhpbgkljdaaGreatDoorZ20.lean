/-
  Texts put together (part 20): the walks and the plain laws on which the statement stands.
-/
import Derived.Test.YtpgmbhpbgkljdaaGreatDoorZ14
import Derived.Test.YtpgmbhpbgkljdaaGreatDoorZ17
set_option maxRecDepth 100000
set_option maxHeartbeats 12800000
open Go.IntKind renaming i64->aI,wrap_i64->aM
open Go.RowKit.Below renaming refl->aB
open List renaming getD_eq_getElem?_getD->aV,length_append->aL,mem_of_getElem?->cH
open Nat renaming le_refl->aA,le_trans->aW,zero_le->aU
namespace Go.Proofs.YtpgmbhpbgkljdaaGreatDoor
open Go.RowKit Go Go.Shelf
def EU (w w':World) (b:Nat) (s:ByteArray) (a:Nat) (vt vc co:Value) (T:List (List Int)) (ch:List Int) (fin:Int) (e:Ending):Prop:=
 ((gX s.data.toList (a:Int) T ch fin).2.2=0/\(∃v,e=.returned v/\OwI w' w.heap.size v (gX s.data.toList (a:Int) T ch fin).1)/\(∃p:Nat,(gX s.data.toList (a:Int) T ch fin).2.1=(p:Int)/\BRd w' b s p vt vc co)/\w.grownBy w' (some b))\/
 ((gX s.data.toList (a:Int) T ch fin).2.2≠0/\e=.panicked (oC (gX s.data.toList (a:Int) T ch fin).2.2)/\w.grownBy w' (some b))
theorem MU {w w':World} {b:Nat} {s:ByteArray} {a:Nat} {vt vc co:Value} {T:List (List Int)} {ch:List Int} {fin E:Int} (h:gX s.data.toList (a:Int) T ch fin=([],0,E)) (hE:E≠0) (hg:w.grownBy w' (some b)):EU w w' b s a vt vc co T ch fin (.panicked (oC E)):=
 .inr (by rw[h];exact⟨hE,rfl,hg⟩)
theorem aQl {w w':World} {b p:Nat} {s:ByteArray} {a:Nat} {vt vc co v:Value} {T:List (List Int)} {ch r:List Int} {fin:Int} (h:gX s.data.toList (a:Int) T ch fin=(r,(p:Int),0)) (ho:OwI w' w.heap.size v r) (hA:BRd w' b s p vt vc co) (hg:w.grownBy w' (some b)):EU w w' b s a vt vc co T ch fin (.returned v):=
 .inl (by rw[h];exact⟨rfl,⟨v,rfl,ho⟩,⟨p,rfl,hA⟩,hg⟩)
theorem gbK {A B C:World} {g:Option Nat} (h:A.grownBy B g) (k:Below A.heap.size B C):A.grownBy C g:=
 ⟨k.os.trans h.os,k.tape.trans h.tape,k.output.trans h.output,aW h.size k.size,fun i hi hne=>(k.block i hi).trans (h.block i hi hne)⟩
theorem aAj {w1 w2:World} {p1 p2 p3 p4:Addr} {v1 v2 v3 v4:Value} {B:Nat} {w0:World}
  (h:w1.cell? p1=some v1/\w1.cell? p2=some v2/\w1.cell? p3=some v3/\w1.cell? p4=some v4/\Below B w0 w1/\B<=w1.heap.size) (hb:Below w1.heap.size w1 w2):
  w2.cell? p1=some v1/\w2.cell? p2=some v2/\w2.cell? p3=some v3/\w2.cell? p4=some v4/\Below B w0 w2/\B<=w2.heap.size:=by
 obtain⟨h1,h2,h3,h4,h6,h7⟩:=h;have k:∀{p:Addr} {v:Value},w1.cell? p=some v->w2.cell? p=some v:=fun{p} {v} hp=>(hb.cell (World.block_lt_of_cell? w1 p hp)).trans hp
 exact⟨k h1,k h2,k h3,k h4,h6.trans (hb.mono h7),aW h7 hb.size⟩
theorem RdI.openG {w:World} {b:Nat} {v:Value} {l:List Int} (h:∀W,w.grownBy W (some b)->RdI W v l) (h0:0<l.length):
  ∃bb off cap,v=.slice (some ⟨bb,off,none⟩) l.length cap/\l.length<=cap/\cap<=maxLen/\∀W,w.grownBy W (some b)->∀j x,l[j]? =some x->W.cell? ⟨bb,off+j,none⟩=some (.int .i64 x):=by
 obtain⟨a,cap,rfl,h1,h2,h3⟩:=(h w (gbB (aB _ _))).open;obtain⟨bb,off,rfl,-,-⟩:=h3 h0;refine⟨bb,off,cap,rfl,h1,h2,fun W hW j x hx=>?_⟩;obtain⟨a',cap',he,-,-,h3⟩:=(h W hW).open;obtain⟨b',o',ha,-,hc⟩:=h3 h0
 injection he with he
 rw[ha] at he
 injection he with he
 injection he with he1 he2
 rw[he1,he2];exact hc j x hx
theorem RdL.openG {w:World} {b:Nat} {v:Value} {gs:List (List Int)} (h:∀W,w.grownBy W (some b)->RdL W v gs) (h0:0<gs.length):
  ∃bb off cap,v=.slice (some ⟨bb,off,none⟩) gs.length cap/\gs.length<=cap/\cap<=maxLen/\∀W,w.grownBy W (some b)->∀(j:Nat) (g:List Int),gs[j]? =some g->∃x,W.cell? ⟨bb,off+j,none⟩=some x/\RdI W x g:=by
 obtain⟨a,cap,rfl,h1,h2,h3⟩:=(h w (gbB (aB _ _))).open;obtain⟨bb,off,rfl,-,-⟩:=h3 h0;refine⟨bb,off,cap,rfl,h1,h2,fun W hW j x hx=>?_⟩;obtain⟨a',cap',he,-,-,h3⟩:=(h W hW).open;obtain⟨b',o',ha,-,hc⟩:=h3 h0
 injection he with he
 rw[ha] at he
 injection he with he
 injection he with he1 he2
 rw[he1,he2];exact hc j x hx
theorem aQm (b:Nat) (s:ByteArray) (a C:Nat) (vt vc:Value) (T:List (List Int)) (ch:List Int) (w:World) (hA:BRd w b s a vt vc (.int .i64 (C:Int))) (hs:s.size<=1000000) (ha:a<=80000000)
  (ht:∀W,w.grownBy W (some b)->RdL W vt T) (hc:∀W,w.grownBy W (some b)->RdI W vc ch) (hT:∀l∈T,bL l=0) (hch:∀x∈ch,0<=x/\x<(T.length:Int)) (hn0:0<ch.length) (hn:ch.length<=40000) (hT0:0<T.length) (hC1:2<=C) (hC2:C<=258):
  Calls Tryz.prog 174 #[.pointer (some ⟨b,0,none⟩)] w fun e w'=>EU w w' b s a vt vc (.int .i64 (C:Int)) T ch ((C:Int)-1) e:=by
 have HL:=hid (show s.data.toList.length=s.size by simp);have hgw:w.grownBy w (some b):=gbB (aB _ _);obtain⟨bt,ot,ct,rfl,hnt,hmt,hct⟩:=RdL.openG ht hT0;unfold maxLen at hmt;obtain⟨bc,oc,cc,rfl,hnc,hmc,hcc⟩:=RdI.openG hc hn0;unfold maxLen at hmc;have hbw:b<w.heap.size:=Arr.lt hA;obtain⟨N,hN⟩:∃N,N=ch.length:=⟨_,rfl⟩;obtain⟨M,hM⟩:∃M,M=T.length:=⟨_,rfl⟩;have m2:aI.wrap ((C:Int)-1)=(C:Int)-1:=by rw[aM];omega
 have HOF:=hid (fun k (r:List Int) (p E:Int) (b:Bool) (hk:k<=10*N) (h:bH s.data.toList (a:Int) T ch ((C:Int)-1) k=(r,p,E,b)) (hE:E≠0\/b=true)=>UL (by omega) h hE);have HEND:=hid (fun k (r:List Int) (p:Int) (hk:k=10*N) (h:bH s.data.toList (a:Int) T ch ((C:Int)-1) k=(r,p,0,false))=>show gX s.data.toList (a:Int) T ch ((C:Int)-1)=([],0,3) by
  unfold gX;rw[<-hN,<-hk,h];rfl)
 have HLEN:=hid (KS s.data.toList (a:Int) T ch ((C:Int)-1));have HGET:=hid (fun(i:Nat) (hi:i<N)=>show ∃(X:Nat) (l:List Int),ch[i]? =some (X:Int)/\T[X]? =some l/\X<M/\bL l=0/\∀W,w.grownBy W (some b)->W.cell? ⟨bc,oc+i,none⟩=some (.int .i64 (X:Int))/\∃x,W.cell? ⟨bt,ot+X,none⟩=some x/\RdI W x l by
  obtain⟨x,hx⟩:=dH (show i<ch.length by omega);have hxb:=hch x (cH hx);obtain⟨X,rfl⟩:∃X:Nat,x=(X:Int):=⟨x.toNat,by omega⟩;have hXT:X<T.length:=by omega
  have hl:T[X]? =some T[X]:=List.getElem?_eq_getElem hXT;exact⟨X,_,hx,hl,by omega,hT _ (cH hl),fun W hW=>⟨hcc W hW i _ hx,hct W hW X _ hl⟩⟩)
 have HSTEP:=hid (fun(i j k p X:Nat) (l r:List Int) (hk:k=10*i+j) (hj:j<10) (hx:ch[i]? =some (X:Int)) (hl:T[X]? =some l) (h:bH s.data.toList (a:Int) T ch ((C:Int)-1) k=(r,(p:Int),0,false))=>
  show bH s.data.toList (a:Int) T ch ((C:Int)-1) (k+1)=
   if(bZ l s.data.toList (p:Int)).2.2≠0 then(r,(p:Int),(bZ l s.data.toList (p:Int)).2.2,false)
   else if(bZ l s.data.toList (p:Int)).1=(C:Int)-1 then
    if i+1<N then(r++[(bZ l s.data.toList (p:Int)).1],(bZ l s.data.toList (p:Int)).2.1,3,false)
    else(r++[(bZ l s.data.toList (p:Int)).1],(bZ l s.data.toList (p:Int)).2.1,0,true)
   else(r++[(bZ l s.data.toList (p:Int)).1],(bZ l s.data.toList (p:Int)).2.1,0,false) by
  rw[UJ (by rw[h]) (by rw[h]),h];have e1:ch.getD (k/10) 0=(X:Int):=by rw[show k/10=i by omega,aV,hx];rfl
  have e2:T.getD X []=l:=by rw[aV,hl];rfl
  rw[e1,Int.toNat_natCast,e2,hN,show k/10=i by omega])
 rw[<-hN] at hn hnc hn0;rw[<-hM] at hnt hT0;rw[<-hN,<-hM] at hA ⊢;have m3:aI.wrap ((N:Int)-1)=(N:Int)-1:=by rw[aM];omega
 clear ht hc hT hch hcc hct hM hN;have d3:=Arr.cell hA (i:=3) rfl;go_enter Tryz.func174,Tryz.ntmps174;go_wp2_with fail;clear d3
 go_loopg [2,3,4,5,6,7,13,18] N (fun g s2 _s3 _s4 _s5 _s6 _s7 s13 _s18 wr=>∃(i p k:Nat) (v:Value) (r:List Int),i<=N/\g=N-i/\v=s2/\s13=.int .i64 (i:Int)/\p<=80000000/\Hid (k=10*i)/\Hid (bH s.data.toList (a:Int) T ch ((C:Int)-1) k=(r,(p:Int),0,false))/\OwI wr w.heap.size v r/\BRd wr b s p (.slice (some ⟨bt,ot,none⟩) M ct) (.slice (some ⟨bc,oc,none⟩) N cc) (.int .i64 (C:Int))/\w.grownBy wr (some b))
 case atStart=>exact⟨0,a,0,_,[],aU _,rfl,rfl,rfl,ha,hid rfl,hid rfl,OwI.nil _ _,hA,hgw⟩
 case round=>
  clear hA hgw;obtain⟨i,p,k,v,r,hi,hg,rfl,rfl,hp,HK,HS,ho,hA,hgr⟩:=hrel;have HG:=hid hg;clear hg
  by_cases hlt:i<N
  ·have v1:decide ((i:Int)<(N:Int))=true:=decide_eq_true (by omega);obtain⟨X,l,hx,hl,hXM,hle,hcl⟩:=HGET.out i hlt;have c1:=(hcl wr hgr).1;have HX:=hid hx;have HLL:=hid hl;have HCL:=hid hcl;clear hx hl hcl;go_wp2_with fail;clear c1
   go_loopg [2,5,6,7,18] 10 (fun g s2 _s5 _s6 _s7 s18 wr=>∃(j p k:Nat) (v:Value) (r:List Int),j<=10/\g=10-j/\v=s2/\s18=.int .i64 (j:Int)/\p<=80000000/\Hid (k=10*i+j)/\Hid (bH s.data.toList (a:Int) T ch ((C:Int)-1) k=(r,(p:Int),0,false))/\OwI wr w.heap.size v r/\BRd wr b s p (.slice (some ⟨bt,ot,none⟩) M ct) (.slice (some ⟨bc,oc,none⟩) N cc) (.int .i64 (C:Int))/\w.grownBy wr (some b))
   case atStart=>exact⟨0,p,k,_,r,by omega,rfl,rfl,rfl,hp,hid HK.out,HS,ho,hA,hgr⟩
   case round=>
    clear hA hgr ho HK HS hp;obtain⟨j,p,k,v,r,hj,hg,rfl,rfl,hp,HK,HS,ho,hA,hgr⟩:=hrel;have HG2:=hid hg;clear hg
    by_cases hjl:j<10
    ·have v2:decide ((j:Int)<10)=true:=decide_eq_true (by omega);have hrl:r.length<=400000:=by
      have h1:=HLEN.out k;rw[HS.out] at h1;have h1:r.length<=k:=h1;have:=HK.out;omega
     obtain⟨x,c2,hxr⟩:=(HCL.out wr hgr).2;have hst:=HSTEP.out i j k p X l r HK.out hjl HX.out HLL.out HS.out;have hcall:=fun W (h:Below wr.heap.size wr W)=>aQk x l s p W (hxr.below h) hle hs (by omega)
     have hpl:=UM (l:=l) (s:=s.data.toList) (a:=p);rw[HL.out] at hpl;obtain⟨q1,q2,q3,hqq⟩:∃q1 q2 q3,bZ l s.data.toList (p:Int)=(q1,q2,q3):=⟨_,_,_,rfl⟩;rw[hqq] at hst hcall hpl;simp only at hst hcall hpl;obtain⟨ax,cx,rfl,_,_,_⟩:=hxr.open;have d0:=Arr.cell hA (i:=0) rfl;have d1:=Arr.cell hA (i:=1) rfl;have d2:=Arr.cell hA (i:=2) rfl;have HST:=hid hst;have HPL:=hid hpl;clear hqq hxr hst hpl;go_upto_region 6 with fail
     go_cut [5,6,7] (fun c5 c6 c7 wx=>c5=.int .i64 q1/\c6=.int .i64 q2/\c7=.int .i64 q3/\Below wr.heap.size wr wx)
     case first=>
      obtain⟨B3,hB3⟩:∃B3,B3=wr.heap.size:=⟨_,rfl⟩;rw[<-hB3] at hcall;have HB3:=hid hB3;have hcall:=fun W (h:W.cell? ⟨b,0,none⟩=some (.string s)/\W.cell? ⟨b,1,none⟩=some (.int .i64 (p:Int))/\W.cell? ⟨b,2,none⟩=some (.slice (some ⟨bt,ot,none⟩) M ct)/\W.cell? ⟨bt,ot+X,none⟩=some (.slice ax l.length cx)/\Below B3 wr W/\B3<=W.heap.size)=>hcall W h.2.2.2.2.1
      have hS0:=aAj (B:=B3) (w0:=wr) ⟨d0,d1,d2,c2,aB _ _,by omega⟩ (aB wr.heap.size wr).drew;clear hB3 d0 d1 d2 c2
      go_region_held3 (fun w'=>w'.cell? ⟨b,0,none⟩=some (.string s)/\w'.cell? ⟨b,1,none⟩=some (.int .i64 (p:Int))/\w'.cell? ⟨b,2,none⟩=some (.slice (some ⟨bt,ot,none⟩) M ct)/\w'.cell? ⟨bt,ot+X,none⟩=some (.slice ax l.length cx)/\Below B3 wr w'/\B3<=w'.heap.size)
       (first
        |with_reducible assumption
        |with_reducible exact aAj (by assumption) (by assumption))
       (first
        |(go_at_call 194;refine(hcall _ (by assumption)).mono ?_;rintro e w3 ⟨rfl,hb3⟩))
      have hS5:=(show w3.cell? ⟨b,0,none⟩=some (.string s)/\w3.cell? ⟨b,1,none⟩=some (.int .i64 (p:Int))/\w3.cell? ⟨b,2,none⟩=some (.slice (some ⟨bt,ot,none⟩) M ct)/\w3.cell? ⟨bt,ot+X,none⟩=some (.slice ax l.length cx)/\Below B3 wr w3/\B3<=w3.heap.size by assumption);go_wp2_with fail;go_meet;exact⟨rfl,rfl,rfl,by rw[<-HB3.out];exact hS5.2.2.2.2.1⟩
     case rest=>
      obtain⟨rfl,rfl,rfl,hbx⟩:=hcut;have hA:=Arr.below hA hbx (Arr.lt hA);have ho:=OwI.below ho hbx (aA _);have hgr:=gbT hgr (gbB hbx);clear hcall d0 d1 d2 c2;go_wp2_with fail;refine(ES b s p q2 q3 _ _ _ wc hA).mono ?_;rintro e w4 (⟨rfl,rfl,hA4,hg4⟩|⟨h0,rfl,rfl⟩)
      rotate_left
      ·have hst:=HST.out;rw[if_pos h0] at hst;have hR:=HOF.out (k+1) _ _ _ _ (by have:=HK.out;omega) hst (.inl h0);rw[if_pos h0] at hR;have HR:=hid hR;clear hst hR;go_wp2_with fail;exact⟨rfl,MU HR.out h0 hgr⟩
      have hst:=HST.out;rw[if_neg (fun k=>k rfl)] at hst;obtain⟨p1,p2,p3,p4⟩:=HPL.out rfl;obtain⟨pp,rfl⟩:∃pp:Nat,q2=(pp:Int):=⟨q2.toNat,by omega⟩;have hgr:=gbT hgr hg4;have ho:=Ow.kept ho hg4 (iL ho hbw);have hsz:=hgr.size;have hA4:BRd w4 b s pp (.slice (some ⟨bt,ot,none⟩) M ct) (.slice (some ⟨bc,oc,none⟩) N cc) (.int .i64 (C:Int)):=hA4;clear hA hg4 hbx
      by_cases hf:q1=(C:Int)-1
      ·rw[if_pos hf] at hst;have v3:(q1==(C:Int)-1)=true:=by rw[beq_iff_eq];exact hf
       by_cases hl2:i+1<N
       ·rw[if_pos hl2] at hst;have v4:((i:Int)==(N:Int)-1)=false:=by rw[beq_eq_false_iff_ne];omega
        have hR:=HOF.out (k+1) _ _ _ _ (by have:=HK.out;omega) hst (.inl (by decide));rw[if_pos (by decide)] at hR;have HR:=hid hR;have HF:=hid hf;clear hst hR hf hl2;go_wp2_with (at_builtin;refine eN rfl _ _ rfl w.heap.size _ _ rfl (OwI.alloc ho _) _ q1 rfl (bS _ _ _) ?_ ?_ ?_;(omega);(simp;omega);intro v5 w5 r1 r2 r3;have d4:=((Arr.alloc hA4 (.cells #[.int .i64 q1] 3)).below r2 hbw).cell (i:=4) rfl;have d3:=((Arr.alloc hA4 (.cells #[.int .i64 q1] 3)).below r2 hbw).cell (i:=3) rfl);refine(pU false 3 _ (by decide)).mono ?_;rintro e w6 (⟨h0,rfl,rfl⟩|⟨h0,rfl,rfl⟩)
        ·exact absurd h0 (by decide)
        go_wp2_with fail;exact⟨rfl,MU HR.out (by decide) (gbK (gbT hgr (gbB (bD (aB _ _) _))) r2)⟩
       ·rw[if_neg hl2] at hst;have v4:((i:Int)==(N:Int)-1)=true:=by rw[beq_iff_eq];omega
        have hR:=HOF.out (k+1) _ _ _ _ (by have:=HK.out;omega) hst (.inr rfl);rw[if_neg (fun k=>k rfl)] at hR;have HR:=hid hR;have HF:=hid hf;clear hst hR hf hl2;go_wp2_with (at_builtin;refine eN rfl _ _ rfl w.heap.size _ _ rfl (OwI.alloc ho _) _ q1 rfl (bS _ _ _) ?_ ?_ ?_;(omega);(simp;omega);intro v5 w5 r1 r2 r3;have d4:=((Arr.alloc hA4 (.cells #[.int .i64 q1] 3)).below r2 hbw).cell (i:=4) rfl;have d3:=((Arr.alloc hA4 (.cells #[.int .i64 q1] 3)).below r2 hbw).cell (i:=3) rfl);refine(pU true 3 _ (by decide)).mono ?_;rintro e w6 (⟨h0,rfl,rfl⟩|⟨h0,rfl,rfl⟩)
        rotate_left
        ·exact absurd h0 (by decide)
        go_wp2_with fail;go_ret;exact aQl HR.out r1 ((Arr.alloc hA4 _).below r2 hbw) (gbK (gbT hgr (gbB (bD (aB _ _) _))) r2)
      ·rw[if_neg hf] at hst;have v3:(q1==(C:Int)-1)=false:=by rw[beq_eq_false_iff_ne];exact hf
       have HS2:=hid hst;clear hst hf;go_wp2_with (at_builtin;refine eN rfl _ _ rfl w.heap.size _ _ rfl (OwI.alloc ho _) _ q1 rfl (bS _ _ _) ?_ ?_ ?_;(omega);(simp;omega);intro v5 w5 r1 r2 r3;have d4:=((Arr.alloc hA4 (.cells #[.int .i64 q1] 3)).below r2 hbw).cell (i:=4) rfl);have hg:=HG2.out
       go_roundg (10-(j+1))
       case measure=>omega
       case rel=>exact⟨j+1,pp,k+1,_,_,by omega,rfl,rfl,by go_num,by omega,hid (by have:=HK.out;omega),HS2,r1,(Arr.alloc hA4 _).below r2 hbw,gbK (gbT hgr (gbB (bD (aB _ _) _))) r2⟩
    ·have v2:decide ((j:Int)<10)=false:=decide_eq_false (by omega);go_wp2_with fail;have hg:=HG.out
     go_roundg (N-(i+1))
     case measure=>omega
     case rel=>exact⟨i+1,p,k,_,r,by omega,rfl,rfl,by go_num,hp,hid (by have:=HK.out;omega),HS,ho,hA,hgr⟩
  ·have v1:decide ((i:Int)<(N:Int))=false:=decide_eq_false (by omega);have hR:=HEND.out k _ _ (by have:=HK.out;omega) HS.out;have HR:=hid hR;clear hR;go_wp2_with fail;exact⟨rfl,MU HR.out (by decide) hgr⟩
def aAk (w w':World) (b:Nat) (s:ByteArray) (a C:Nat) (e:Ending):Prop:=
 ((cV s.data.toList (a:Int) (C:Int)).2.2≠0/\cV s.data.toList (a:Int) (C:Int)=([],0,(cV s.data.toList (a:Int) (C:Int)).2.2)/\e=.panicked (oC (cV s.data.toList (a:Int) (C:Int)).2.2)/\w.grownBy w' (some b))\/
 (e=.returned (.tuple #[])/\∃(p:Nat) (vt vc:Value) (T:List (List Int)) (ch:List Int),cV s.data.toList (a:Int) (C:Int)=gX s.data.toList (p:Int) T ch ((C:Int)-1)/\BRd w' b s p vt vc (.int .i64 (C:Int))/\w.grownBy w' (some b)/\
  (∀W,w'.grownBy W (some b)->RdL W vt T)/\(∀W,w'.grownBy W (some b)->RdI W vc ch)/\(∀l∈T,bL l=0)/\(∀x∈ch,0<=x/\x<(T.length:Int))/\0<ch.length/\ch.length<=40000/\0<T.length/\p<=80000000)
theorem tJ {w w':World} {b:Nat} {s:ByteArray} {a C:Nat} {E:Int} (h:cV s.data.toList (a:Int) (C:Int)=([],0,E)) (hE:E≠0) (hg:w.grownBy w' (some b)):aAk w w' b s a C (.panicked (oC E)):=
 .inl (by rw[h];exact⟨hE,rfl,rfl,hg⟩)
theorem aQn (V:Nat) (h:V<2):decide ((V:Int)>=2)=false/\decide (2<=(V:Int))=false:=⟨decide_eq_false (by omega),decide_eq_false (by omega)⟩
theorem aQo (b:Nat) (s:ByteArray) (a C:Nat) (w:World) (hA:BRd w b s a (.slice none 0 0) (.slice none 0 0) (.int .i64 (C:Int))) (hs:s.size<=1000000) (ha:a<=70000000) (hC1:2<=C) (hC2:C<=258):
  Calls Tryz.prog 173 #[.pointer (some ⟨b,0,none⟩)] w fun e w'=>aAk w w' b s a C e:=by
 have HL:=hid (show s.data.toList.length=s.size by simp);have hgw:w.grownBy w (some b):=gbB (aB _ _);have hbw:b<w.heap.size:=Arr.lt hA;have hv1:=iA s.data.toList (a:Int) 3;have hv2:=iA s.data.toList ((a:Int)+3) 15;have hd:=UN s.data.toList (a:Int) (C:Int);rw[HL.out] at hd;have hok2:=fQ (n:=s.size) (at':=((a:Int)+3)) (k:=15);have hn1:=zT b s a 3 (.slice none 0 0) (.slice none 0 0) (.int .i64 (C:Int)) w hA hs (by decide) (by omega);have hn2:=fun W h=>zT b s (a+3) 15 (.slice none 0 0) (.slice none 0 0) (.int .i64 (C:Int)) W h hs (by decide) (by omega)
 rw[show(((a+3:Nat):Int))=(a:Int)+3 by push_cast;rfl] at hn2;obtain⟨E1,hE1⟩:∃E1,E1=aO s.size (a:Int) 3:=⟨_,rfl⟩;obtain⟨V1,hV1⟩:∃V1,V1=aE s.data.toList (a:Int) 3:=⟨_,rfl⟩;obtain⟨E2,hE2⟩:∃E2,E2=aO s.size ((a:Int)+3) 15:=⟨_,rfl⟩;obtain⟨V2,hV2⟩:∃V2,V2=aE s.data.toList ((a:Int)+3) 15:=⟨_,rfl⟩;rw[<-hE1,<-hV1] at hn1;rw[<-hE2,<-hV2] at hn2;rw[<-hV1] at hv1;rw[<-hV2] at hv2;rw[<-hE2] at hok2;rw[<-hE1,<-hV1,<-hE2,<-hV2] at hd;clear hE1 hV1 hE2 hV2;have hv1:V1<8:=hv1;have hv2:V2<32768:=hv2;obtain⟨A,hAe⟩:∃A,A=a+3+15:=⟨_,rfl⟩;have m3:(a:Int)+18=(A:Int):=by omega
 have hA7:A<=70000018:=by omega
 rw[m3] at hd;go_enter Tryz.func173,Tryz.ntmps173;go_wp2_with fail;refine hn1.mono ?_;rintro e w1 (⟨h1,rfl,hA1,hg1⟩|⟨h1,rfl,hg1⟩)
 rotate_left
 ·rw[if_pos h1] at hd;have HF:=hid hd;clear hd;go_wp2_with fail;exact⟨rfl,tJ HF.out h1 hg1⟩
 rw[if_neg (fun k=>k h1)] at hd;clear hn1 hA
 by_cases h2:V1<2\/6<V1
 ·rw[if_pos h2] at hd;have HF:=hid hd;clear hd
  by_cases h3:V1<2
  ·obtain⟨u1,u2⟩:=aQn V1 h3;go_wp2_with fail;refine(pU false 3 _ (by decide)).mono ?_;rintro e w2 (⟨h0,rfl,rfl⟩|⟨h0,rfl,rfl⟩)
   ·exact absurd h0 (by decide)
   go_wp2_with fail;exact⟨rfl,tJ HF.out (by decide) hg1⟩
  ·have u1:decide ((V1:Int)>=2)=true:=decide_eq_true (by omega);have u1':decide (2<=(V1:Int))=true:=decide_eq_true (by omega);have u2:decide ((V1:Int)<=6)=false:=decide_eq_false (by omega);go_wp2_with fail;refine(pU false 3 _ (by decide)).mono ?_;rintro e w2 (⟨h0,rfl,rfl⟩|⟨h0,rfl,rfl⟩)
   ·exact absurd h0 (by decide)
   go_wp2_with fail;exact⟨rfl,tJ HF.out (by decide) hg1⟩
 rw[if_neg h2] at hd;have u1:decide ((V1:Int)>=2)=true:=decide_eq_true (by omega);have u1':decide (2<=(V1:Int))=true:=decide_eq_true (by omega);have u2:decide ((V1:Int)<=6)=true:=decide_eq_true (by omega);have hV2':2<=V1:=by omega
 have hV6:V1<=6:=by omega
 clear h2;go_wp2_with fail;refine(pU true 3 _ (by decide)).mono ?_;rintro e w2 (⟨h0,rfl,rfl⟩|⟨h0,rfl,rfl⟩)
 rotate_left
 ·exact absurd h0 (by decide)
 go_wp2_with fail;refine(hn2 _ hA1).mono ?_;rintro e w2 (⟨h3,rfl,hA2,hg2⟩|⟨h3,rfl,hg2⟩)
 rotate_left
 ·rw[if_pos h3] at hd;have HF:=hid hd;clear hd;go_wp2_with fail;exact⟨rfl,tJ HF.out h3 (gbT hg1 hg2)⟩
 rw[if_neg (fun k=>k h3)] at hd;have hok2:=hok2 h3;have hg2:=gbT hg1 hg2;clear hn2 hA1 hg1
 by_cases h4:V2=0
 ·rw[if_pos h4] at hd;have HF:=hid hd;clear hd;have u3:decide ((V2:Int)>0)=false:=decide_eq_false (by omega);have u4:decide (0<(V2:Int))=false:=decide_eq_false (by omega);have u5:decide (0<V2)=false:=decide_eq_false (by omega);go_wp2_with fail;refine(pU false 3 _ (by decide)).mono ?_;rintro e w3 (⟨h0,rfl,rfl⟩|⟨h0,rfl,rfl⟩)
  ·exact absurd h0 (by decide)
  go_wp2_with fail;exact⟨rfl,tJ HF.out (by decide) hg2⟩
 rw[if_neg h4] at hd;have u3:decide ((V2:Int)>0)=true:=decide_eq_true (by omega);have u4:decide (0<(V2:Int))=true:=decide_eq_true (by omega);have u5:decide (0<V2)=true:=decide_eq_true (by omega);have hV0:0<V2:=by omega
 go_wp2_with fail;refine(pU true 3 _ (by decide)).mono ?_;rintro e w3 (⟨h0,rfl,rfl⟩|⟨h0,rfl,rfl⟩)
 rotate_left
 ·exact absurd h0 (by decide)
 rw[<-hAe] at hA2;have hsel:=fun W=>aO2 s A V2 V1 W hs (by omega) (by omega) hV2' hV6
 have hso:=UO (s:=s.data.toList) (a:=A) (n:=V2) (t:=V1) hV2' hV6 (by omega);unfold yX at hsel;obtain⟨c1,c2,c3,hce⟩:∃c1 c2 c3,dD s.data.toList (A:Int) (V2:Int) (V1:Int)=(c1,c2,c3):=⟨_,_,_,rfl⟩;rw[hce] at hsel hso hd;simp only at hsel hso hd;rw[HL.out] at hso;have d0:=Arr.cell hA2 (i:=0) rfl;have d1:=Arr.cell hA2 (i:=1) rfl;have d4:=Arr.cell hA2 (i:=4) rfl;have HD:=hid hd;have HSO:=hid hso;clear hce h4 hd hso hAe u1 u1' u2 u3 u4 u5;go_upto_region 4 with fail
 go_cut [4,5,6] (fun c4' c5 c6 wx=>(∃v,v=c4'/\OwI wx w3.heap.size v c1)/\c5=.int .i64 c2/\c6=.int .i64 c3/\Below w3.heap.size w3 wx)
 case first=>
  obtain⟨B3,hB3⟩:∃B3,B3=w3.heap.size:=⟨_,rfl⟩;have HB3:=hid hB3;have hsel:∀W,(W.cell? ⟨b,0,none⟩=some (.string s)/\W.cell? ⟨b,1,none⟩=some (.int .i64 (A:Int))/\W.cell? ⟨b,4,none⟩=some (.int .i64 (C:Int))/\Below B3 w3 W/\B3<=W.heap.size)->Calls Tryz.prog 192 #[.string s,.int .i64 (A:Int),.int .i64 (V2:Int),.int .i64 (V1:Int)] W fun e w'=>∃v,e=.returned (.tuple #[v,.int .i64 c2,.int .i64 c3])/\OwI w' B3 v c1/\Below W.heap.size W w':=fun W h=>(hsel W).mono (fun e w' ⟨v,k1,k2,k3⟩=>⟨v,k1,OwI.base k2 h.2.2.2.2,k3⟩)
  have hS0:=kZ (B:=B3) (w0:=w3) ⟨d0,d1,d4,aB _ _,by omega⟩ (aB w3.heap.size w3).drew;clear hB3 d0 d1 d4
  go_region_held3 (fun w'=>w'.cell? ⟨b,0,none⟩=some (.string s)/\w'.cell? ⟨b,1,none⟩=some (.int .i64 (A:Int))/\w'.cell? ⟨b,4,none⟩=some (.int .i64 (C:Int))/\Below B3 w3 w'/\B3<=w'.heap.size)
   (first
    |with_reducible assumption
    |with_reducible exact kZ (by assumption) (by assumption))
   (first
    |(go_at_call 192;refine(hsel _ (by assumption)).mono ?_;rintro e w4 ⟨v4,rfl,ho4,hb4⟩))
  have hS5:=(show w4.cell? ⟨b,0,none⟩=some (.string s)/\w4.cell? ⟨b,1,none⟩=some (.int .i64 (A:Int))/\w4.cell? ⟨b,4,none⟩=some (.int .i64 (C:Int))/\Below B3 w3 w4/\B3<=w4.heap.size by assumption);go_wp2_with fail;go_meet;exact⟨⟨v4,rfl,by rw[<-HB3.out];exact ho4⟩,rfl,rfl,by rw[<-HB3.out];exact hS5.2.2.2.1⟩
 case rest=>
  obtain⟨⟨v4,rfl,ho4⟩,rfl,rfl,hb4⟩:=hcut;have hA4:=Arr.below hA2 hb4 (Arr.lt hA2);have ho4:=OwI.base ho4 hg2.size;have hg4:=gbT hg2 (gbB hb4);clear hsel d0 d1 d4 hA2 hg2 hb4;go_wp2_with fail;refine(ES b s A c2 c3 _ _ _ wc hA4).mono ?_;rintro e w5 (⟨rfl,rfl,hA5,hg5⟩|⟨h0,rfl,rfl⟩)
  rotate_left
  ·have hd:=HD.out;rw[if_pos h0] at hd;have HF:=hid hd;clear hd;go_wp2_with fail;exact⟨rfl,tJ HF.out h0 hg4⟩
  have hd:=HD.out;rw[if_neg (fun k=>k rfl)] at hd;obtain⟨s1,s2,s3,s4⟩:=HSO.out rfl;obtain⟨p2,rfl⟩:∃p2:Nat,c2=(p2:Int):=⟨c2.toNat,by omega⟩;have hp2:p2<=70000018:=by omega
  have ho5:=Ow.kept ho4 hg5 (iL ho4 hbw);have hg5:=gbT hg4 hg5;have hsz5:=hg5.size;obtain⟨ac,cc,rfl,_,_,_⟩:=(OwI.rd ho5).open;have HS2:=hid s2;have HS1:=hid s1;have hA6:BRd (w5.setCell ⟨b,3,none⟩ (.slice ac c1.length cc)) b s p2 (.slice none 0 0) (.slice ac c1.length cc) (.int .i64 (C:Int)):=Arr.set hA5 3 _;have hg6:=gbT hg5 (gbS w5 b 3 (.slice ac c1.length cc));have ho6:OwI (w5.setCell ⟨b,3,none⟩ (.slice ac c1.length cc)) w.heap.size (.slice ac c1.length cc) c1:=Ow.kept ho5 (gbS w5 b 3 _) (iL ho5 hbw);have d3:=Arr.cell hA5 (i:=3) rfl;have f3:=Arr.free hA5 3
  have HTS:=hid (fun k=>DQ (s:=s.data.toList) (a:=(p2:Int)) (c:=(C:Int)) (by omega) k);have HTOK:=hid (DM s.data.toList (p2:Int) (C:Int) V1);have HERR:=hid (fun k (hk:k<=V1) (h:(bF s.data.toList (p2:Int) (C:Int) k).2.2≠0)=>show cV s.data.toList (a:Int) (C:Int)=([],0,(bF s.data.toList (p2:Int) (C:Int) k).2.2) by
   have:=DP h (V1-k);rw[show k+(V1-k)=V1 by omega] at this;rw[if_pos (by rw[this];exact h),this] at hd;exact hd)
  have HEND:=hid (fun(h:(bF s.data.toList (p2:Int) (C:Int) V1).2.2=0)=>by
   rw[if_neg (fun q=>q h)] at hd;exact hd)
  clear hd s1 s2 s3 s4 hA4 ho4 hg4 ho5;go_wp2_with fail;generalize w5.setCell ⟨b,3,none⟩ (.slice ac c1.length cc)=w6 at*
  clear d3 f3 hA5 hg5
  go_loopg [7,8,9,56] V1 (fun g _s7 _s8 _s9 s56 wr=>∃(k p:Nat) (v:Value) (xs:List Value),k<=V1/\g=V1-k/\s56=.int .i64 (k:Int)/\Hid ((bF s.data.toList (p2:Int) (C:Int) k).2.2=0/\(bF s.data.toList (p2:Int) (C:Int) k).2.1=(p:Int))/\Ow wr w.heap.size 39 v xs/\fE wr w.heap.size xs (bF s.data.toList (p2:Int) (C:Int) k).1/\xs.length=k/\BRd wr b s p v (.slice ac c1.length cc) (.int .i64 (C:Int))/\OwI wr w.heap.size (.slice ac c1.length cc) c1/\w.grownBy wr (some b))
  case atStart=>exact⟨0,p2,_,[],aU _,rfl,rfl,hid ⟨rfl,rfl⟩,Ow.nil _ _ _,fE.nil _ _,rfl,hA6,ho6,hg6⟩
  case round=>
   clear hA6 ho6 hg6;obtain⟨k,p,v,xs,hk,hg,rfl,HK,ho,hx,hxl,hA,hoc,hgr⟩:=hrel;have HG:=hid hg;clear hg;have hsz:=hgr.size;have hat:=HTS.out k HK.out.1;rw[HK.out.2,HL.out] at hat;have hpb:p<=80000000:=by omega
   by_cases hlt:k<V1
   ·have v1:decide ((k:Int)<(V1:Int))=true:=decide_eq_true (by omega);have hst:=KR HK.out.1;rw[HK.out.2] at hst;have hcall:=fun W=>aPq s p C W hs (by omega) hC1 hC2
    unfold wM at hcall;obtain⟨q1,q2,q3,hq⟩:∃q1 q2 q3,eJ s.data.toList (p:Int) (C:Int)=(q1,q2,q3):=⟨_,_,_,rfl⟩;rw[hq] at hst hcall;simp only at hst hcall;have HST:=hid hst;have d0:=Arr.cell hA (i:=0) rfl;have d1:=Arr.cell hA (i:=1) rfl;have d4:=Arr.cell hA (i:=4) rfl;clear hq hst;go_upto_region 9 with fail
    go_cut [7,8,9] (fun c7 c8 c9 wx=>(∃v,v=c7/\OwI wx wr.heap.size v q1)/\c8=.int .i64 q2/\c9=.int .i64 q3/\Below wr.heap.size wr wx)
    case first=>
     obtain⟨B3,hB3⟩:∃B3,B3=wr.heap.size:=⟨_,rfl⟩;have HB3:=hid hB3;have hcall:∀W,(W.cell? ⟨b,0,none⟩=some (.string s)/\W.cell? ⟨b,1,none⟩=some (.int .i64 (p:Int))/\W.cell? ⟨b,4,none⟩=some (.int .i64 (C:Int))/\Below B3 wr W/\B3<=W.heap.size)->Calls Tryz.prog 193 #[.string s,.int .i64 (p:Int),.int .i64 (C:Int)] W fun e w'=>∃v,e=.returned (.tuple #[v,.int .i64 q2,.int .i64 q3])/\OwI w' B3 v q1/\Below W.heap.size W w':=fun W h=>(hcall W).mono (fun e w' ⟨v,k1,k2,k3⟩=>⟨v,k1,OwI.base k2 h.2.2.2.2,k3⟩)
     have hS0:=kZ (B:=B3) (w0:=wr) ⟨d0,d1,d4,aB _ _,by omega⟩ (aB wr.heap.size wr).drew;clear hB3 d0 d1 d4
     go_region_held3 (fun w'=>w'.cell? ⟨b,0,none⟩=some (.string s)/\w'.cell? ⟨b,1,none⟩=some (.int .i64 (p:Int))/\w'.cell? ⟨b,4,none⟩=some (.int .i64 (C:Int))/\Below B3 wr w'/\B3<=w'.heap.size)
      (first
       |with_reducible assumption
       |with_reducible exact kZ (by assumption) (by assumption))
      (first
       |(go_at_call 193;refine(hcall _ (by assumption)).mono ?_;rintro e w7 ⟨v7,rfl,ho7,hb7⟩))
     have hS5:=(show w7.cell? ⟨b,0,none⟩=some (.string s)/\w7.cell? ⟨b,1,none⟩=some (.int .i64 (p:Int))/\w7.cell? ⟨b,4,none⟩=some (.int .i64 (C:Int))/\Below B3 wr w7/\B3<=w7.heap.size by assumption);go_wp2_with fail;go_meet;exact⟨⟨v7,rfl,by rw[<-HB3.out];exact ho7⟩,rfl,rfl,by rw[<-HB3.out];exact hS5.2.2.2.1⟩
    case rest=>
     obtain⟨⟨v7,rfl,ho7⟩,rfl,rfl,hb7⟩:=hcut;have hA:=Arr.below hA hb7 (Arr.lt hA);have ho7:=OwI.base ho7 hsz;have ho:=Ow.below ho hb7 (aA _);have hx:=hx.below hb7;have hoc:=OwI.below hoc hb7 (aA _);have hgr:=gbT hgr (gbB hb7);clear hcall d0 d1 d4 hb7;go_wp2_with fail;refine(ES b s p q2 q3 _ _ _ wc hA).mono ?_;rintro e w8 (⟨rfl,rfl,hA8,hg8⟩|⟨h0,rfl,rfl⟩)
     rotate_left
     ·have hst:=HST.out;rw[if_pos h0] at hst;have hE:=HERR.out (k+1) (by omega) (by rw[hst];exact h0);rw[hst] at hE;have HE:=hid hE;clear hst hE;go_wp2_with fail;exact⟨rfl,tJ HE.out h0 hgr⟩
     have hst:=HST.out;rw[if_neg (fun k=>k rfl)] at hst;have ho:=Ow.kept ho hg8 (iL ho hbw);have hx:=hx.map (fun x g k=>Ow.kept k hg8 (iL k hbw));have ho7:=Ow.kept ho7 hg8 (iL ho7 hbw);have hoc:=Ow.kept hoc hg8 (iL hoc hbw);have hgr:=gbT hgr hg8;have hsz:=hgr.size;clear hA hg8;go_wp2_with fail;refine(zS v7 q1 w8 (OwI.rd ho7)).mono ?_;rintro e w9 ⟨rfl,hb9⟩;have hA9:=Arr.below hA8 hb9 (Arr.lt hA8);have ho:=Ow.below ho hb9 (aA _);have hx:=hx.below hb9;have ho7:=OwI.below ho7 hb9 (aA _);have hoc:=OwI.below hoc hb9 (aA _);have hgr:=gbT hgr (gbB hb9)
     have hsz:=hgr.size;obtain⟨E,hE⟩:∃E,E=bL q1:=⟨_,rfl⟩;rw[<-hE] at hst ⊢;have HST2:=hid hst;clear hA8 hb9 hE hst;go_wp2_with fail;refine(vC E w9).mono ?_;rintro e w9' (⟨rfl,rfl,rfl⟩|⟨h0,rfl,rfl⟩)
     rotate_left
     ·have hst:=HST2.out;rw[if_pos h0] at hst;have hE:=HERR.out (k+1) (by omega) (by rw[hst];exact h0);rw[hst] at hE;have HE:=hid hE;clear hst hE;go_wp2_with fail;exact⟨rfl,tJ HE.out h0 hgr⟩
     have hst:=HST2.out;rw[if_neg (fun k=>k rfl)] at hst;have hat1:=HTS.out (k+1) (by rw[hst]);rw[hst] at hat1;have hat1:(p2:Int)<=q2:=hat1.1;obtain⟨pp,rfl⟩:∃pp:Nat,q2=(pp:Int):=⟨q2.toNat,by omega⟩;have HS:=hid hst;obtain⟨a3,c3,rfl,_,_,_⟩:=(OwI.rd ho7).open;obtain⟨av,cv,rfl,-⟩:=ho.rd;have hroom:(xs.length+1)*24<=140737488355328:=by omega
     have hxa:=hx.alloc (.cells #[.slice a3 q1.length c3] 39);have hoa:=Ow.alloc ho (.cells #[.slice a3 q1.length c3] 39);have ho7a:=OwI.alloc ho7 (.cells #[.slice a3 q1.length c3] 39);have hoca:=OwI.alloc hoc (.cells #[.slice a3 q1.length c3] 39);have hAa:=Arr.alloc hA9 (.cells #[.slice a3 q1.length c3] 39);have hga:=gbT hgr (gbB (g:=some b) (bD (aB _ w9') (.cells #[.slice a3 q1.length c3] 39)));have d2:=Arr.cell hA9 (i:=2) rfl;have HXL:=hid hxl;clear hst hx ho ho7 hoc hgr hxl
     go_wp2_with (at_builtin;refine rD wK rfl _ _ rfl w.heap.size _ xs rfl hoa w9'.heap.size (.slice a3 q1.length c3) rfl (bS _ _ _) rfl ?_ ?_ ?_;(exact hroom);(simp;omega);intro v5 w5' r1 r2 r3;obtain⟨a5,c5,rfl,-⟩:=r1.rd;have e2:=(Arr.below hAa r2 hbw).cell (i:=2) rfl;have f2:=(Arr.below hAa r2 hbw).free 2);rw[aL,List.length_singleton] at r1;have r3':(w9'.alloc (.cells #[.slice a3 q1.length c3] 39)).grownBy w5' (Value.slice av xs.length cv).ownBlock:=r3;have hg:=HG.out
     go_roundg (V1-(k+1))
     case measure=>omega
     case rel=>
      refine⟨k+1,pp,_,xs++[.slice a3 q1.length c3],by omega,rfl,by go_num,hid ⟨by rw[HS.out],by rw[HS.out]⟩,Ow.kept r1 (gbS w5' b 2 _) (iL r1 hbw),?_,by rw[aL,HXL.out];rfl,Arr.set (Arr.below hAa r2 hbw) 2 _,?_,gbT (gbK hga r2) (gbS w5' b 2 _)⟩
      ·rw[HS.out];exact((hxa.app hoa r3').snoc (Ow.kept ho7a r3' (qO ho7a hoa (by decide)))).map (fun x g k=>Ow.kept k (gbS w5' b 2 _) (iL k hbw))
      ·exact Ow.kept (Ow.kept hoca r3' (qO hoca hoa (by decide))) (gbS w5' b 2 _) (iL hoca hbw)
   ·have v1:decide ((k:Int)<(V1:Int))=false:=decide_eq_false (by omega);have hke:k=V1:=by omega
    subst hke;have hE:=HEND.out HK.out.1;rw[HK.out.2] at hE;obtain⟨t1,t2⟩:=HTOK.out HK.out.1;have HE:=hid hE;have HT1:=hid t1;have HT2:=hid t2;have HSS:=hid (HS2.out);clear hE t1 t2;go_wp2_with fail
    go_end0
    refine .inr ⟨rfl,p,v,_,_,c1,HE.out,hA,hgr,fun W hW=>?_,fun W hW=>OwI.rd (Ow.kept hoc hW (iL hoc hbw)),fun l hl=>(HT2.out l hl).1,fun x hx=>by rw[HT1.out];exact HSS.out x hx,by rw[HS1.out];exact hV0,by rw[HS1.out];omega,by rw[HT1.out];omega,hpb⟩;exact Ow.rdL (Ow.kept ho hW (iL ho hbw)) (hx.map (fun x g k=>Ow.kept k hW (iL k hbw))).ok
end Go.Proofs.YtpgmbhpbgkljdaaGreatDoor
