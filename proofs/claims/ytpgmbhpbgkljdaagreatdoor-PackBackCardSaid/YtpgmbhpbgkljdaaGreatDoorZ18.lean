/-
  Texts put together (part 18): the walks and the plain laws on which the statement stands.
-/
import Derived.Test.YtpgmbhpbgkljdaaGreatDoorZ17
set_option maxRecDepth 100000
set_option maxHeartbeats 12800000
open Go renaming results_none->qX
open Go.Act renaming eval->qC
open Go.Addr renaming add->iN
open Go.IntKind renaming i64->aI,wrap_i64->aM
open Go.RowKit.Below renaming refl->aB
open Go.Value renaming func->iR,int->bO
open List renaming drop_eq_getElem_cons->oH,getD_eq_getElem?_getD->aV,getElem?_append_left->gS,getElem?_eq_getElem->aN,getElem?_eq_none->dL,getElem?_eq_some_iff->eU,getElem?_map->dY,length_append->aL,length_map->bJ,length_set->mW,length_take->aX,map_append->fI,take_add_one->cQ,take_append_drop->jE,take_of_length_le->cS
open List.Perm renaming cons->GK,refl->xP
open Nat renaming le_of_lt->sK,le_refl->aA,le_trans->aW,min_eq_left->gU,zero_add->iZ,zero_le->aU,zero_mul->aUc
open Option.some renaming inj->bW
namespace Go.Proofs.YtpgmbhpbgkljdaaGreatDoor
section
open Go.RowKit Go Go.Shelf
theorem aA6 {w1 w2 w0:World} {p1 p2 p3 p4 p5 p6:Addr} {v1 v2 v3 v4 v5 v6:Value}
  (h:w1.cell? p1=some v1/\w1.cell? p2=some v2/\w1.cell? p3=some v3/\w1.cell? p4=some v4/\w1.cell? p5=some v5/\w1.cell? p6=some v6/\Below w0.heap.size w0 w1) (hb:Below w1.heap.size w1 w2):
  w2.cell? p1=some v1/\w2.cell? p2=some v2/\w2.cell? p3=some v3/\w2.cell? p4=some v4/\w2.cell? p5=some v5/\w2.cell? p6=some v6/\Below w0.heap.size w0 w2:=by
 obtain⟨h1,h2,h3,h4,h5,h6,h7⟩:=h;have k:∀{p:Addr} {v:Value},w1.cell? p=some v->w2.cell? p=some v:=fun{p} {v} hp=>(hb.cell (World.block_lt_of_cell? w1 p hp)).trans hp
 exact⟨k h1,k h2,k h3,k h4,k h5,k h6,h7.trans (hb.mono h7.size)⟩
theorem aRl {l:List (Int×Int)} {i j:Nat} (hij:j<i) (hi:i<l.length):(mR l i j).Perm l:=by
 have e:mR l i j=mR l j i:=by
  unfold mR;rw[List.set_comm _ _ (by omega)]
 rw[e];exact aA1 hij hi
theorem aRm (p B:Nat) (l:List (Int×Int)) (x:Int×Int) (w:World) (h:QU w p B l) (hh:nN l) (hp:p<B) (hB:B<=w.heap.size) (hl:l.length<=1000000):
  Calls Tryz.prog 151 #[.pointer (some ⟨p,0,none⟩),.agg #[.int .i64 x.1,.int .i64 x.2]] w fun e w'=>e=.returned (.tuple #[])/\(∃l',QU w' p B l'/\nN l'/\l'.Perm (l++[x]))/\Below p w w'/\KQ p w w':=by
 obtain⟨a,n,c,g,cap,R,w3,hr2,c0,ca,cb,c3,f3,hA,hR,hBg,hcap,hcm,hlen,hBel,hK⟩:=aRk p B l x w h hp hB hl;have hU:=hid (pA.start hh x);have HP:=hid (xP (l++[x]));have HLL:=hid (show(l++[x]).length=l.length+1 by simp);obtain⟨L0,hL0⟩:∃L0,L0=l++[x]:=⟨_,rfl⟩;rw[<-hL0] at hU HP HLL hR hlen ⊢;have HLEN:=hid (show ∀L:List (Int×Int),L.length=L0.length->(prC (L.map pr)++R).length=cap*2 from fun L hL=>by
  rw[<-hlen,aL,aL,tK,tK,hL])
 have HCM:=hid hcm;have x0:=(Arr.new w 229 [.int .i64 x.1,.int .i64 x.2]).cell (i:=0) rfl;have x1:=(Arr.new w 229 [.int .i64 x.1,.int .i64 x.2]).cell (i:=1) rfl;obtain⟨k,hk⟩:∃k,k=l.length:=⟨_,rfl⟩;rw[<-hk] at hr2 hA hR hcap hl hBel hK HLL hU;obtain⟨N,hN⟩:∃N,N=k+1:=⟨_,rfl⟩;rw[<-hN] at hr2 hA hR hcap hBel hK HLL;have m0:aI.wrap ((N:Int)-1)=(k:Int):=by rw[aM];omega
 have m00:(N:Int)-1=(k:Int):=by omega
 have hNN:N<=1000001:=by omega
 have HN:=hid hN;clear hh h hL0 hk hlen hcm hN;go_enter Tryz.func151,Tryz.ntmps151;go_wp2_with fail
 go_region_law (refine xC rfl (.tmp 10) (.tmp 12) 231 rfl (.slice a n c) (.slice (some ⟨w.heap.size+1,0,none⟩) 1 1) (.slice (some ⟨g,0,none⟩) N cap) w3 (by simp[qC]) (by simp[qC]) hr2 ?_)
 all_goals
  have d0:=hA.cell (i:=0) rfl;have hsz:=hBel.size;clear hr2 c0 ca cb c3 f3 x0 x1;generalize w3.setCell ⟨p,0,none⟩ (.slice (some ⟨g,0,none⟩) N cap)=W at*
  go_wp2_with fail
  go_loopg [4,5] k (fun gm s4 _s5 wr=>∃(i:Nat) (L:List (Int×Int)),gm=i/\s4=.int .i64 (i:Int)/\i<N/\L.length=L0.length/\Arr wr p 233 [.slice (some ⟨g,0,none⟩) N cap,oE]/\eT wr g L R/\pA L i/\L.Perm L0/\Below p w wr/\KQ p w wr)
  case atStart=>exact⟨k,L0,rfl,rfl,by have:=HN.out;omega,rfl,hA,hR,hU.out,HP.out,hBel,hK⟩
  case round=>
   clear d0 hA hR hBel hK hsz m0 m00;obtain⟨i,L,hg,rfl,hiN,hLL,hA,hR,hUi,hPm,hBel,hK⟩:=hrel;have HG:=hid hg;have HL:=hid hLL;have HLN:=hid (hLL.trans HLL.out);have HU:=hid hUi;have HPM:=hid hPm;have hsz:=hBel.size;have hgl:g<wr.heap.size:=Arr.lt hR;clear hg hLL hUi hPm
   by_cases hi0:0<i
   ·obtain⟨u,hu⟩:∃u,u=(i-1)/2:=⟨_,rfl⟩;have HUU:=hid hu;have hui:u<i:=by omega
    have u1:decide ((i:Int)>0)=true:=decide_eq_true (by omega);have u2:decide (0<(i:Int))=true:=decide_eq_true (by omega);have m1:aI.wrap ((i:Int)-1)=(i:Int)-1:=by rw[aM];omega
    have m2:((i:Int)-1).tdiv 2=(u:Int):=by rw[Int.tdiv_eq_ediv_of_nonneg (by omega)];omega
    have m3:aI.wrap (((i:Int)-1).tdiv 2)=(u:Int):=by rw[m2,aM];omega
    have m4:aI.wrap (u:Int)=(u:Int):=by rw[aM];omega
    have hiL:i<L.length:=by rw[HLN.out];exact hiN
    have huL:u<L.length:=by omega
    obtain⟨ci1,ci2⟩:=hR.cells hiL;obtain⟨cu1,cu2⟩:=hR.cells huL;obtain⟨yi,hyi⟩:∃y,y=L.getD i (0,0):=⟨_,rfl⟩;obtain⟨yu,hyu⟩:∃y,y=L.getD u (0,0):=⟨_,rfl⟩;rw[<-hyi] at ci1 ci2;rw[<-hyu] at cu1 cu2;have HYI:=hid hyi;have HYU:=hid hyu;have HIL:=hid hiL;have HUL:=hid huL;have d0:=hA.cell (i:=0) rfl;have d1:=hA.cell (i:=1) rfl;have q1:(i:Int)<(N:Int):=by omega
    have q2:(u:Int)<(N:Int):=by omega
    have q3:(0:Int)<=(i:Int):=by omega
    have q4:(0:Int)<=(u:Int):=by omega
    have huN:u<N:=by omega
    have hS0:wr.drew.cell? ⟨p,0,none⟩=some (.slice (some ⟨g,0,none⟩) N cap)/\wr.drew.cell? ⟨p,1,none⟩=some oE/\wr.drew.cell? ⟨g,i*2,none⟩=some (.int .i64 yi.1)/\wr.drew.cell? ⟨g,i*2+1,none⟩=some (.int .i64 yi.2)/\wr.drew.cell? ⟨g,u*2,none⟩=some (.int .i64 yu.1)/\wr.drew.cell? ⟨g,u*2+1,none⟩=some (.int .i64 yu.2)/\Below wr.heap.size wr wr.drew:=⟨d0,d1,ci1,ci2,cu1,cu2,(aB _ _).drew⟩;obtain⟨T,hT⟩:∃T,T=decide (ahd yi yu):=⟨_,rfl⟩
    have hcall:∀W,Calls Tryz.prog 150 #[.agg #[.int .i64 yi.1,.int .i64 yi.2],.agg #[.int .i64 yu.1,.int .i64 yu.2]] W fun e w'=>e=.returned (.bool T)/\Below W.heap.size W w':=fun W=>by
     rw[hT];exact aA2 yi.1 yi.2 yu.1 yu.2 W
    have HT:=hid hT;clear hu hiL huL hyi hyu hT d0 d1 ci1 ci2 cu1 cu2;go_wp2_with fail
    go_region_held3 (fun w'=>w'.cell? ⟨p,0,none⟩=some (.slice (some ⟨g,0,none⟩) N cap)/\w'.cell? ⟨p,1,none⟩=some oE/\w'.cell? ⟨g,i*2,none⟩=some (.int .i64 yi.1)/\w'.cell? ⟨g,i*2+1,none⟩=some (.int .i64 yi.2)/\w'.cell? ⟨g,u*2,none⟩=some (.int .i64 yu.1)/\w'.cell? ⟨g,u*2+1,none⟩=some (.int .i64 yu.2)/\Below wr.heap.size wr w')
     (first
      |with_reducible assumption
      |with_reducible exact aA6 (by assumption) (by assumption))
     (first
      |(go_at_call 150;refine(hcall _).mono ?_;rintro e w6 ⟨rfl,hb6⟩))
    all_goals
     have hb7:Below wr.heap.size wr w6:=(aB _ wr).drew.trans hb6;have hA6:=hA.below hb7 (by omega);have hR6:eT w6 g L R:=Arr.below hR hb7 hgl;have hBel6:=hBel.trans (hb7.mono (by omega));have hK6:=hK.trans (KQ.below hb7);clear hS0 hb6 hb7 hA hR hBel hK hcall
     cases T with
     |true=>
      have e0:=hA6.cell (i:=0) rfl;obtain⟨ci1,ci2⟩:=hR6.cells HIL.out;obtain⟨cu1,cu2⟩:=hR6.cells HUL.out;rw[<-HYI.out] at ci1 ci2;rw[<-HYU.out] at cu1 cu2;have fi1:=Arr.free hR6 (i*2);have fi2:=Arr.free hR6 (i*2+1);have fu1:=Arr.free hR6 (u*2);have fu2:=Arr.free hR6 (u*2+1);have hht:=hid (of_decide_eq_true HT.out.symm);go_wp2_with fail
      go_region
      all_goals
       go_wp2_with fail;have hg:=HG.out
       go_roundg u
       case measure=>omega
       case rel=>
        have hsw:=hR6.swap HIL.out HUL.out;rw[<-HYI.out,<-HYU.out] at hsw;have hst:=HU.out.step hi0 HIL.out (by rw[<-HUU.out,<-HYI.out,<-HYU.out];exact hht.out);rw[<-HUU.out] at hst;have hD0:w6.grownBy w6.drew (some g):=nC ⟨rfl,rfl,rfl,aA _,fun _ _ _=>rfl⟩;have hgr:=dS (dS (dS (dS hD0 (eM _ g (i*2) (.int .i64 yu.1))) (eM _ g (i*2+1) (.int .i64 yu.2))) (eM _ g (u*2) (.int .i64 yi.1))) (eM _ g (u*2+1) (.int .i64 yi.2))
        exact⟨u,_,rfl,rfl,huN,(xG _ _ _).trans HL.out,hA6.grown hgr (by simp;omega),hsw,hst,(aRl hui HIL.out).trans HPM.out,hBel6.grown hgr (sK hA6.lt) (fun k hk=>by obtain rfl:=bW hk;omega),hK6.trans (KQ.row hR6 hgr)⟩
     |false=>
      have hht:=hid (of_decide_eq_false HT.out.symm);go_wp2_with fail;refine⟨rfl,_,qX rfl _ _ _,?_⟩;have ho:=MX hR6 hBg (by rw[HLN.out];exact hcap) HCM.out (HLEN.out L HL.out);rw[HLN.out] at ho;exact⟨rfl,⟨L,⟨_,hA6,ho⟩,HU.out.stop (by rw[<-HUU.out,<-HYI.out,<-HYU.out];exact hht.out),HPM.out⟩,hBel6,hK6⟩
   ·have u1:decide ((i:Int)>0)=false:=decide_eq_false (by omega);have u2:decide (0<(i:Int))=false:=decide_eq_false (by omega);have HI0:=hid (show i=0 by omega);go_wp2_with fail;refine⟨rfl,_,qX rfl _ _ _,?_⟩;have ho:=MX hR hBg (by rw[HLN.out];exact hcap) HCM.out (HLEN.out L HL.out);rw[HLN.out] at ho;exact⟨rfl,⟨L,⟨_,hA,ho⟩,(HI0.out▸HU.out:pA L 0).top,HPM.out⟩,hBel,hK⟩
theorem aRn:(Tryz.prog.info? 229).map (·.size)=some 2:=by kernel_rfl
theorem eT.take {w:World} {g:Nat} {l:List (Int×Int)} {R:List Value} (h:eT w g l R) (m:Nat):eT w g (l.take m) (prC ((l.drop m).map pr)++R):=by
 unfold eT at h ⊢;rw[<-List.append_assoc,<-RK,<-fI,jE];exact h
theorem KQ.tree {p b:Nat} {w w':World} {l:List Value} (hA:Arr w b 229 l) (h:w.grownBy w' (some b)):KQ p w w':=⟨h.size,fun k o hk _ ht=>by
 refine(h.block k (Array.getElem?_eq_some_iff.1 hk).1 (fun e=>?_)).trans hk;obtain rfl:=bW e;unfold Arr at hA;rw[hk] at hA;exact ht _ _ (bW hA)⟩
theorem eT.grown {w w':World} {g z:Nat} {l:List (Int×Int)} {R:List Value} (h:eT w g l R) (hg:w.grownBy w' (some z)) (hne:g≠z):eT w' g l R:=Arr.grown h hg (fun e=>hne (bW e))
def Fst (L:List (Int×Int)) (i m k f:Nat):Prop:=(f=i\/(0<f/\f<m/\(f-1)/2=i/\ahd (L.getD f (0,0)) (L.getD i (0,0))))/\(∀j,0<j->j<m->(j-1)/2=i->j<k->¬ahd (L.getD j (0,0)) (L.getD f (0,0)))
theorem Fst.start (L:List (Int×Int)) (i m:Nat):Fst L i m (2*i+1) i:=⟨.inl rfl,fun j h0 _ h2 h3=>by omega⟩
theorem Fst.yes {L:List (Int×Int)} {i m k f:Nat} (h:Fst L i m k f) (hk:k<m) (hk0:2*i+1<=k) (hk1:k<=2*i+2) (ha:ahd (L.getD k (0,0)) (L.getD f (0,0))):Fst L i m (k+1) k:=by
 refine⟨.inr ⟨by omega,hk,by omega,?_⟩,fun j h0 h1 h2 h3=>?_⟩
 ·rcases h.1 with rfl|⟨_,_,_,h4⟩
  ·exact ha
  ·unfold ahd at*;omega
 ·by_cases e:j=k
  ·subst e;unfold ahd;omega
  ·exact FC (FD ha) (h.2 j h0 h1 h2 (by omega))
theorem Fst.no {L:List (Int×Int)} {i m k f:Nat} (h:Fst L i m k f) (ha:¬ahd (L.getD k (0,0)) (L.getD f (0,0))):Fst L i m (k+1) f:=
 ⟨h.1,fun j h0 h1 h2 h3=>by
  by_cases e:j=k
  ·subst e;exact ha
  ·exact h.2 j h0 h1 h2 (by omega)⟩
theorem Fst.all {L:List (Int×Int)} {i m k f:Nat} (h:Fst L i m k f) (hk:¬(k<=2*i+2/\k<m)):∀j,0<j->j<m->(j-1)/2=i->¬ahd (L.getD j (0,0)) (L.getD f (0,0)):=
 fun j h0 h1 h2=>h.2 j h0 h1 h2 (by omega)
structure qT (p g z2 z3 m cap:Nat) (y:Int×Int) (L:List (Int×Int)) (R:List Value) (w W:World):Prop where
 box:Arr W p 233 [.slice (some ⟨g,0,none⟩) m cap,oE]
 row:eT W g L R
 res:Arr W z2 229 [.int .i64 0,.int .i64 0]
 top:Arr W z3 229 [.int .i64 y.1,.int .i64 y.2]
 bel:Below p w W
 kq:KQ p w W
theorem qT.below {p g z2 z3 m cap:Nat} {y:Int×Int} {L:List (Int×Int)} {R:List Value} {w W W':World} (h:qT p g z2 z3 m cap y L R w W) (hb:Below W.heap.size W W'):qT p g z2 z3 m cap y L R w W':=
 ⟨h.box.below hb h.box.lt,Arr.below h.row hb (Arr.lt h.row),h.res.below hb h.res.lt,h.top.below hb h.top.lt,h.bel.trans (hb.mono (sK h.box.lt)),h.kq.trans (KQ.below hb)⟩
theorem qT.put {p g z2 z3 m cap:Nat} {y:Int×Int} {L:List (Int×Int)} {R:List Value} {w W W':World} (h:qT p g z2 z3 m cap y L R w W) (hg:W.grownBy W' (some g)) (h2:g≠z2) (h3:g≠z3) (hp:p<g) {L':List (Int×Int)} (hR:eT W' g L' R):qT p g z2 z3 m cap y L' R w W':=
 ⟨h.box.grown hg (by simp;omega),hR,h.res.grown hg (by simp;omega),h.top.grown hg (by simp;omega),h.bel.grown hg (sK h.box.lt) (fun k hk=>by obtain rfl:=bW hk;omega),h.kq.trans (KQ.row h.row hg)⟩
theorem aRo (p B:Nat) (l:List (Int×Int)) (w:World) (h:QU w p B l) (hh:nN l) (hp:p<B) (h0:0<l.length) (hl:l.length<=1000000):
  Calls Tryz.prog 152 #[.pointer (some ⟨p,0,none⟩)] w fun e w'=>e=.returned (.agg #[.int .i64 (l.getD 0 (0,0)).1,.int .i64 (l.getD 0 (0,0)).2])/\(∃l',QU w' p B l'/\nN l'/\(l.getD 0 (0,0)::l').Perm l)/\Below p w w'/\KQ p w w':=by
 obtain⟨v,hA,hown⟩:=h;obtain⟨g,cap,R,rfl,hBg,hR,hc,hm,hlen⟩:=aA5 hown h0;obtain⟨m,hlm⟩:∃m,l.length=m+1:=⟨l.length-1,by omega⟩;have HD:=hid (sD.start hh h0);have HPP:=hid (aRa h0);obtain⟨N,hN⟩:∃N,N=l.length:=⟨_,rfl⟩;have HMN:=hid (hN.trans hlm);have HNL:=hid (show N<=1000000 by omega);have hNm:N=m+1:=hN.trans hlm;have hm1:l.length-1=m:=by omega
 rw[hm1] at HD HPP;have hLm:((l.set 0 (l.getD m (0,0))).take m).length=m:=by rw[aX,mW];omega
 have hR0:=(eT.cells hR h0);have hRm:=(eT.cells hR (show m<l.length by omega));have hPut:=fun(W:World) (hW:eT W g l R)=>(eT.put hW h0 (l.getD m (0,0)))
 rw[aUc,iZ] at hR0;obtain⟨y,hy⟩:∃y,y=l.getD 0 (0,0):=⟨_,rfl⟩;obtain⟨yl,hyl⟩:∃y,y=l.getD m (0,0):=⟨_,rfl⟩;rw[<-hy] at hR0 HPP ⊢;rw[<-hyl] at hRm HD hLm HPP hPut;obtain⟨L3,hL3⟩:∃L,L=(l.set 0 yl).take m:=⟨_,rfl⟩;rw[<-hL3] at HD hLm HPP;obtain⟨R3,hR3⟩:∃R3,R3=prC (((l.set 0 yl).drop m).map pr)++R:=⟨_,rfl⟩;have HTK:=hid (fun(W:World) (hW:eT W g (l.set 0 yl) R)=>show eT W g L3 R3 by rw[hL3,hR3];exact hW.take m);have HPUT:=hid hPut;have HLEN:=hid (show ∀L:List (Int×Int),L.length=m->(prC (L.map pr)++R3).length=cap*2 from fun L hL=>by
  rw[<-hlen,hR3,aL,aL,aL,tK,tK,tK,List.length_drop,mW];omega)
 have HCM:=hid hm;have hpl:p<w.heap.size:=hA.lt;have hgl:g<w.heap.size:=Arr.lt hR;rw[<-hN] at hA hc;have HL3:=hid hLm
 --the world in which the result's box lies
 have hZ0:=Arr.new w 229 [.int .i64 0,.int .i64 0];have hA0:=hA.alloc (.cells #[.int .i64 0,.int .i64 0] 229);have hRa:=Arr.alloc hR (.cells #[.int .i64 0,.int .i64 0] 229);have hB0:=bD (aB _ w) (.cells #[.int .i64 0,.int .i64 0] 229);have hs0:(w.alloc (.cells #[.int .i64 0,.int .i64 0] 229)).heap.size=w.heap.size+1:=by simp
 change Arr (w.alloc (.cells #[.int .i64 0,.int .i64 0] 229)) _ _ _ at hZ0;clear hy hyl hL3 hR3 hlen hN hlm hm1 hPut hm hown hh h0 hA;go_enter Tryz.func152,Tryz.ntmps152;go_upto_region 1 with fail;obtain⟨z2,hz2⟩:∃z,z=w.heap.size:=⟨_,rfl⟩;generalize w.alloc (.cells #[.int .i64 0,.int .i64 0] 229)=W0 at*
 rw[<-hz2] at hZ0 hs0 hpl hgl hB0 ⊢;have HZ2:=hid hz2;have c0:=hA0.cell (i:=0) rfl;have hR00:=(hB0.cell (p:=⟨g,0,none⟩) hgl).trans hR0.1;have hR01:=(hB0.cell (p:=⟨g,1,none⟩) hgl).trans hR0.2;have v1:(0:Int)<(N:Int):=by omega
 have v2:0<N:=by omega
 have m1:aI.wrap ((N:Int)-1)=(m:Int):=by have:=HNL.out;rw[aM];omega
 have m2:(N:Int)-1=(m:Int):=by omega
 have m3:aI.wrap (m:Int)=(m:Int):=by have:=HNL.out;rw[aM];omega
 have hHMN:=hid hNm;have hgp:g≠p:=by omega
 have hK0:KQ p w W0:=KQ.below (hz2▸hB0);have hB0p:=hB0.mono (sK hpl);clear hz2;have e0:=(hA0.alloc (.cells #[.int .i64 0,.int .i64 0] 229)).cell (i:=0) rfl;have e1:=((bD (aB _ W0) (.cells #[.int .i64 0,.int .i64 0] 229)).cell (p:=⟨g,0,none⟩) (by show g<W0.heap.size;omega)).trans hR00;have e2:=((bD (aB _ W0) (.cells #[.int .i64 0,.int .i64 0] 229)).cell (p:=⟨g,1,none⟩) (by show g<W0.heap.size;omega)).trans hR01;have e3:=(hA0.alloc (.cells #[.int .i64 y.1,.int .i64 y.2] 229)).cell (i:=0) rfl;clear hNm hR
 go_cut [3,4] (fun c3 c4 wx=>∃z3,c3=.pointer (some ⟨z3,0,none⟩)/\z2<z3/\c4=.int .i64 (m:Int)/\qT p g z2 z3 N cap y l R w wx/\Below z2 w wx)
 case first=>
  go_region
  all_goals
   go_wp2_with fail;go_meet;rw[<-hs0];refine⟨_,rfl,by omega,rfl,⟨hA0.alloc _,Arr.alloc hRa _,hZ0.alloc _,Arr.new W0 _ _,?_,?_⟩,?_⟩
   ·exact(hB0p.alloc (by omega) _).drew
   ·exact hK0.trans (KQ.below (bD (aB _ W0) _).drew)
   ·exact(hB0.alloc (by omega) _).drew
 case rest=>
  obtain⟨z3,rfl,hz23,rfl,hW1,hB1⟩:=hcut;clear e0 e1 e2 e3 hR00 hR01 hA0 hRa hB0 hZ0 hK0 hB0p c0 hs0 m1 m2;have c0:=hW1.box.cell (i:=0) rfl;have c1:=(hB1.cell (p:=⟨g,m*2,none⟩) hgl).trans hRm.1;have c2:=(hB1.cell (p:=⟨g,m*2+1,none⟩) hgl).trans hRm.2;have g0:=(hB1.cell (p:=⟨g,0,none⟩) hgl).trans hR0.1;have g1:=(hB1.cell (p:=⟨g,1,none⟩) hgl).trans hR0.2;have f3:=Arr.free hW1.row 0;have f4:=Arr.free hW1.row 1;clear hR0 hRm;have v3:(m:Int)<(N:Int):=by have:=HMN.out;omega
  have v4:(0:Int)<=(m:Int):=by omega
  go_wp2_with fail
  go_region
  have hR2:=HPUT.out _ hW1.row;rw[aUc,iZ] at hR2;have hW2:qT p g z2 z3 N cap y (l.set 0 yl) R w ((wc.setCell ⟨g,0,none⟩ (.int .i64 yl.1)).setCell ⟨g,1,none⟩ (.int .i64 yl.2)).drew:=
   hW1.put (nC (dS (eM _ g 0 _) (eM _ g 1 _))) (by omega) (by omega) (by omega) hR2
  generalize ((wc.setCell ⟨g,0,none⟩ (.int .i64 yl.1)).setCell ⟨g,1,none⟩ (.int .i64 yl.2)).drew=W2 at*
  have d0:=hW2.box.cell (i:=0) rfl;have fd:=hW2.box.free 0;have hmc:m<=cap:=by have:=HMN.out;omega
  have v5:(m:Int)<=(cap:Int):=by omega
  clear hR2 hW1 hB1 c0 c1 c2 g0 g1 f3 f4 v3;go_wp2_with fail;have hW3:qT p g z2 z3 m cap y L3 R3 w (W2.setCell ⟨p,0,none⟩ (.slice (some ⟨g,0,none⟩) m cap)):=
   ⟨hW2.box.set 0 _,Arr.other (HTK.out _ hW2.row) ⟨p,0,none⟩ (fun e=>hgp e.symm) _,hW2.res.other ⟨p,0,none⟩ (by simp;omega) _,hW2.top.other ⟨p,0,none⟩ (by simp;omega) _,hW2.bel.setCell (p:=⟨p,0,none⟩) (aA _) _,hW2.kq.trans (KQ.box _)⟩
  generalize W2.setCell ⟨p,0,none⟩ (.slice (some ⟨g,0,none⟩) m cap)=W3 at*
  clear d0 fd hW2;have hmb:m<=1000000:=by have:=HMN.out;have:=HNL.out;omega
  go_loopg [5,6,7] m (fun gm s5 _s6 _s7 wr=>∃(i:Nat) (L:List (Int×Int)),gm=m-i/\s5=.int .i64 (i:Int)/\(m=0\/i<m)/\i<=m/\L.length=m/\sD L i/\L.Perm L3/\qT p g z2 z3 m cap y L R3 w wr)
  case atStart=>exact⟨0,L3,by omega,rfl,by omega,by omega,HL3.out,HD.out,xP _,hW3⟩
  case round=>
   clear hW3;obtain⟨i,L,hg,rfl,him,him2,hL,hHD,hPm,hW⟩:=hrel;have HG:=hid hg;have HIM:=hid him;have HLM:=hid hL;have HHD:=hid hHD;have HPM:=hid hPm;obtain⟨wo,rfl⟩:∃wo,wo=wr:=⟨_,rfl⟩;obtain⟨J,hJ⟩:∃J,J=2*i:=⟨_,rfl⟩;obtain⟨J1,hJ1⟩:∃J1,J1=2*i+1:=⟨_,rfl⟩;obtain⟨J2,hJ2⟩:∃J2,J2=2*i+2:=⟨_,rfl⟩;have m1:aI.wrap (2*(i:Int))=(J:Int):=by rw[aM];omega
   have m2:2*(i:Int)=(J:Int):=by omega
   have m3:aI.wrap ((J:Int)+1)=(J1:Int):=by rw[aM];omega
   have m4:(J:Int)+1=(J1:Int):=by omega
   have m5:aI.wrap ((J:Int)+2)=(J2:Int):=by rw[aM];omega
   have m6:(J:Int)+2=(J2:Int):=by omega
   have HJ:=hid hJ;have HJ1:=hid hJ1;have HJ2:=hid hJ2;clear hg him hL hHD hPm hJ hJ1 hJ2;go_wp2_with fail
   go_loopg [6,7] 2 (fun gm s6 s7 wx=>∃f k:Nat,s6=.int .i64 (f:Int)/\s7=.int .i64 (k:Int)/\J1<=k/\k<=J2+1/\gm=J2+1-k/\Hid (Fst L i m k f)/\Below wo.heap.size wo wx)
   case atStart=>exact⟨i,J1,rfl,rfl,aA _,by have:=HJ1.out;have:=HJ2.out;omega,by have:=HJ1.out;have:=HJ2.out;omega,hid (by rw[HJ1.out];exact Fst.start _ _ _),aB _ _⟩
   case round=>
    obtain⟨f,k,rfl,rfl,hk1,hk2,hg,HF,hbx⟩:=hrel;have HG2:=hid hg;clear hg;have hWx:=hW.below hbx;obtain⟨T,hT⟩:∃T:Bool,T=(decide (k<=J2)&&decide (k<m)):=⟨_,rfl⟩;have HT:=hid hT;clear hT;go_upto_region 7 with fail
    go_cut [54] (fun c54 wy=>c54=.bool T/\wy=wr)
    case first=>
     by_cases g1:k<=J2
     ·have u1:decide ((k:Int)<=(J2:Int))=true:=decide_eq_true (by omega)
      by_cases g2:k<m
      ·have u2:decide ((k:Int)<(m:Int))=true:=decide_eq_true (by omega);have HT2:=hid (show T=true by rw[HT.out,decide_eq_true g1,decide_eq_true g2];rfl);go_wp2_with fail;go_meet;exact⟨by rw[HT2.out],rfl⟩
      ·have u2:decide ((k:Int)<(m:Int))=false:=decide_eq_false (by omega);have HT2:=hid (show T=false by rw[HT.out,decide_eq_true g1,decide_eq_false g2];rfl);go_wp2_with fail;go_meet;exact⟨by rw[HT2.out],rfl⟩
     ·have u1:decide ((k:Int)<=(J2:Int))=false:=decide_eq_false (by omega);have HT2:=hid (show T=false by rw[HT.out,decide_eq_false g1];rfl);go_wp2_with fail;go_meet;exact⟨by rw[HT2.out],rfl⟩
    case rest=>
     obtain⟨rfl,rfl⟩:=hcut
     cases T with
     |true=>
      have hgo:=HT.out;rw[eq_comm,Bool.and_eq_true,decide_eq_true_eq,decide_eq_true_eq] at hgo;obtain⟨hg1,hg2⟩:=hgo;have hfm:f<m:=by
       rcases HF.out.1 with h|h
       ·have:=HIM.out;omega
       ·exact h.2.1
      have hkL:k<L.length:=by rw[HLM.out];exact hg2
      have hfL:f<L.length:=by rw[HLM.out];exact hfm
      obtain⟨ci1,ci2⟩:=hWx.row.cells hkL;obtain⟨cu1,cu2⟩:=hWx.row.cells hfL;obtain⟨yi,hyi⟩:∃y,y=L.getD k (0,0):=⟨_,rfl⟩;obtain⟨yu,hyu⟩:∃y,y=L.getD f (0,0):=⟨_,rfl⟩;rw[<-hyi] at ci1 ci2;rw[<-hyu] at cu1 cu2;have HYI:=hid hyi;have HYU:=hid hyu;have d0:=hWx.box.cell (i:=0) rfl;have d1:=hWx.box.cell (i:=1) rfl;have q1:(k:Int)<(m:Int):=by omega
      have q2:(f:Int)<(m:Int):=by omega
      have q3:(0:Int)<=(k:Int):=by omega
      have q4:(0:Int)<=(f:Int):=by omega
      have hS0:wc.drew.cell? ⟨p,0,none⟩=some (.slice (some ⟨g,0,none⟩) m cap)/\wc.drew.cell? ⟨p,1,none⟩=some oE/\wc.drew.cell? ⟨g,k*2,none⟩=some (.int .i64 yi.1)/\wc.drew.cell? ⟨g,k*2+1,none⟩=some (.int .i64 yi.2)/\wc.drew.cell? ⟨g,f*2,none⟩=some (.int .i64 yu.1)/\wc.drew.cell? ⟨g,f*2+1,none⟩=some (.int .i64 yu.2)/\Below wc.heap.size wc wc.drew:=⟨d0,d1,ci1,ci2,cu1,cu2,(aB _ _).drew⟩;obtain⟨T2,hT2⟩:∃T,T=decide (ahd yi yu):=⟨_,rfl⟩
      have hcall:∀W,Calls Tryz.prog 150 #[.agg #[.int .i64 yi.1,.int .i64 yi.2],.agg #[.int .i64 yu.1,.int .i64 yu.2]] W fun e w'=>e=.returned (.bool T2)/\Below W.heap.size W w':=fun W=>by
       rw[hT2];exact aA2 yi.1 yi.2 yu.1 yu.2 W
      have HT2:=hid hT2;clear hkL hfL hyi hyu hT2 d0 d1 ci1 ci2 cu1 cu2;go_wp2_with fail
      go_region_held3 (fun w'=>w'.cell? ⟨p,0,none⟩=some (.slice (some ⟨g,0,none⟩) m cap)/\w'.cell? ⟨p,1,none⟩=some oE/\w'.cell? ⟨g,k*2,none⟩=some (.int .i64 yi.1)/\w'.cell? ⟨g,k*2+1,none⟩=some (.int .i64 yi.2)/\w'.cell? ⟨g,f*2,none⟩=some (.int .i64 yu.1)/\w'.cell? ⟨g,f*2+1,none⟩=some (.int .i64 yu.2)/\Below wc.heap.size wc w')
       (first
        |with_reducible assumption
        |with_reducible exact aA6 (by assumption) (by assumption))
       (first
        |(go_at_call 150;refine(hcall _).mono ?_;rintro e w6 ⟨rfl,hb6⟩))
      all_goals
       have hb7:Below wo.heap.size wo w6:=hbx.trans (((aB _ wc).drew.trans hb6).mono hbx.size);clear hS0 hb6 hWx hcall
       cases T2 with
       |true=>
        have hht:=hid (of_decide_eq_true HT2.out.symm);go_wp2_with fail;have hg:=HG2.out
        go_roundg (J2+1-(k+1))
        case measure=>omega
        case rel=>exact⟨k,k+1,rfl,by go_num,by omega,by omega,rfl,hid (HF.out.yes hg2 (by have:=HJ1.out;omega) (by have:=HJ2.out;omega) (by rw[<-HYI.out,<-HYU.out];exact hht.out)),hb7⟩
       |false=>
        have hht:=hid (of_decide_eq_false HT2.out.symm);go_wp2_with fail;have hg:=HG2.out
        go_roundg (J2+1-(k+1))
        case measure=>omega
        case rel=>exact⟨f,k+1,rfl,by go_num,by omega,by omega,rfl,hid (HF.out.no (by rw[<-HYI.out,<-HYU.out];exact hht.out)),hb7⟩
     |false=>
      have hall:=hid (HF.out.all (fun⟨h1,h2⟩=>by
       have:=HT.out;rw[decide_eq_true (show k<=J2 by rw[HJ2.out];exact h1),decide_eq_true h2] at this;exact Bool.noConfusion this))
      by_cases hfi:f=i
      ·subst hfi;have x0:=hWx.top.cell (i:=0) rfl;have x1:=hWx.top.cell (i:=1) rfl;have r0:=hWx.res.cell (i:=0) rfl;have r1:=hWx.res.cell (i:=1) rfl;have r2:=hWx.res.free 0;have r3:=hWx.res.free 1;go_wp2_with fail;refine bodyPost_ret (results_cell_row rfl _ _ z2 _ _ (0,0) _ rfl ((hWx.res.set 0 _).set 1 _) Tryz.underlying229 rfl aRn) rfl ?_;have ho:=MX (hWx.row.grown (dS (eM _ z2 0 (.int .i64 y.1)) (eM _ z2 1 (.int .i64 y.2))) (by omega)) hBg (by rw[HLM.out];exact hmc) HCM.out (HLEN.out L HLM.out);rw[HLM.out] at ho
       exact⟨rfl,⟨L,⟨_,hWx.box.grown (dS (eM _ z2 0 _) (eM _ z2 1 _)) (by simp;omega),ho⟩,HHD.out.stop (fun j h0 h1 h2=>hall.out j h0 (by rw[<-HLM.out];exact h1) h2),(GK y HPM.out).trans HPP.out⟩,(hWx.bel.setCell (p:=⟨z2,0,none⟩) (sK hpl) _).setCell (p:=⟨z2,1,none⟩) (sK hpl) _,hWx.kq.trans (KQ.tree hWx.res (dS (eM _ z2 0 _) (eM _ z2 1 _)))⟩
      ·have u1:((f:Int)==(i:Int))=false:=by rw[beq_eq_false_iff_ne];omega
       have u2:decide ((f:Int)=(i:Int))=false:=decide_eq_false (by omega);have hff:0<f/\f<m/\(f-1)/2=i/\ahd (L.getD f (0,0)) (L.getD i (0,0)):=HF.out.1.resolve_left hfi;have hfm:=hff.2.1;have hif:i<f:=by omega
       have hiL:i<L.length:=by rw[HLM.out];omega
       have hfL:f<L.length:=by rw[HLM.out];exact hfm
       obtain⟨ci1,ci2⟩:=hWx.row.cells hiL;obtain⟨cu1,cu2⟩:=hWx.row.cells hfL;have hst:=hid (HHD.out.step hff.1 hfL hff.2.2.1 hff.2.2.2 (fun j h0 h1 h2=>hall.out j h0 (by rw[<-HLM.out];exact h1) h2));have HSW:=hid (fun(W:World) (hW:eT W g L R3)=>eT.swap hW hiL hfL);have HIL:=hid hiL;have HFL:=hid hfL;obtain⟨yi,hyi⟩:∃y,y=L.getD i (0,0):=⟨_,rfl⟩;obtain⟨yf,hyf⟩:∃y,y=L.getD f (0,0):=⟨_,rfl⟩;rw[<-hyi,<-hyf] at HSW;rw[<-hyi] at ci1 ci2;rw[<-hyf] at cu1 cu2;have d0:=hWx.box.cell (i:=0) rfl;have q1:(i:Int)<(m:Int):=by omega
       have q2:(f:Int)<(m:Int):=by omega
       have q3:(0:Int)<=(i:Int):=by omega
       have q4:(0:Int)<=(f:Int):=by omega
       have q5:i<m:=by omega
       have fi1:=Arr.free hWx.row (i*2);have fi2:=Arr.free hWx.row (i*2+1);have fu1:=Arr.free hWx.row (f*2);have fu2:=Arr.free hWx.row (f*2+1);clear hff hiL hfL hyi hyf hfi;go_wp2_with fail
       go_region
       all_goals
        go_wp2_with fail;have hg:=HG.out
        go_roundg (m-f)
        case measure=>omega
        case rel=>
         refine⟨f,mR L i f,rfl,rfl,.inr hfm,sK hfm,(xG _ _ _).trans HLM.out,hst.out,(aA1 hif HFL.out).trans HPM.out,?_⟩;exact hWx.put (nC (dS (dS (dS (eM _ g (i*2) _) (eM _ g (i*2+1) _)) (eM _ g (f*2) _)) (eM _ g (f*2+1) _))) (by omega) (by omega) (by omega) (HSW.out _ hWx.row)
theorem QU.below {w w':World} {p B:Nat} {l:List (Int×Int)} (h:QU w p B l) (hb:Below w.heap.size w w'):QU w' p B l:=by
 obtain⟨v,h1,h2⟩:=h;exact⟨v,h1.below hb h1.lt,h2.below hb (aA _)⟩
theorem QU.grown {w w':World} {p B b:Nat} {l:List (Int×Int)} {xs:List Value} (h:QU w p B l) (hA:Arr w b 3 xs) (hg:w.grownBy w' (some b)) (hp:b≠p):QU w' p B l:=by
 obtain⟨v,h1,h2⟩:=h;refine⟨v,h1.grown hg (by simp;omega),h2.kept hg ?_⟩;exact .inr (DF hA h2 (by decide)).symm
def QR (w:World) (p:Nat) (r:bQ):Prop:=∃l,QU w p (p+1) l/\nN l/\l.Perm (oD r)
theorem QR.below {w w':World} {p:Nat} {r:bQ} (h:QR w p r) (hb:Below w.heap.size w w'):QR w' p r:=by
 obtain⟨l,h1,h2,h3⟩:=h;exact⟨l,h1.below hb,h2,h3⟩
theorem QR.grown {w w':World} {p b:Nat} {r:bQ} {xs:List Value} (h:QR w p r) (hA:Arr w b 3 xs) (hg:w.grownBy w' (some b)) (hp:b≠p):QR w' p r:=by
 obtain⟨l,h1,h2,h3⟩:=h;exact⟨l,h1.grown hA hg hp,h2,h3⟩
theorem aA9 (r:bQ):(oD r).length=r.length:=by simp[oD]
theorem aBa (p:Nat) (r:bQ) (x:Int) (n:Nat) (T:HT) (hT:T.root=n) (w:World) (h:QR w p r) (hs:p+1<=w.heap.size) (hl:r.length<=1000000):
  Calls Tryz.prog 151 #[.pointer (some ⟨p,0,none⟩),.agg #[.int .i64 x,.int .i64 (n:Int)]] w fun e w'=>e=.returned (.tuple #[])/\QR w' p (r++[(x,T)])/\Below p w w'/\KQ p w w':=by
 obtain⟨l,h1,h2,h3⟩:=h;refine(aRm p (p+1) l (x,(n:Int)) w h1 h2 (by omega) hs (by rw[h3.length_eq,aA9];exact hl)).mono ?_;rintro e w' ⟨k1,⟨l',k2,k3,k4⟩,k5,k6⟩;refine⟨k1,⟨l',k2,k3,k4.trans ?_⟩,k5,k6⟩;have e2:oD (r++[(x,T)])=oD r++[(x,(n:Int))]:=by unfold oD;rw[fI];simp[hT]
 rw[e2];exact h3.append_right _
theorem aBb (p:Nat) (r:bQ) (w:World) (h:QR w p r) (hr:r≠[]) (hs:r.Pairwise (fun p q=>p.2.root<q.2.root)) (hl:r.length<=1000000):
  Calls Tryz.prog 152 #[.pointer (some ⟨p,0,none⟩)] w fun e w'=>e=.returned (.agg #[.int .i64 (bM r).1.1,.int .i64 ((bM r).1.2.root:Int)])/\QR w' p (bM r).2/\Below p w w'/\KQ p w w':=by
 obtain⟨l,h1,h2,h3⟩:=h;have hlr:l.length=r.length:=by rw[h3.length_eq,aA9]
 refine(aRo p (p+1) l w h1 h2 (by omega) (by rw[hlr];exact List.length_pos_iff.2 hr) (by omega)).mono ?_;rintro e w' ⟨k1,⟨l',k2,k3,k4⟩,k5,k6⟩;obtain⟨e1,e2⟩:=aRq h2 h3 hr hs k4;rw[e1] at k1;exact⟨k1,⟨l',k2,k3,e2⟩,k5,k6⟩
def kS (w:World) (B:Nat) (v:Value) (l:List Int):Prop:=∃b R,v=.slice (some ⟨b,0,none⟩) l.length l.length/\B<=b/\Arr w b 3 (l.map (bO .i64)++R)
theorem kS.rd {w:World} {B:Nat} {v:Value} {l:List Int} (h:kS w B v l) (hl:l.length<=1000000):RdI w v l:=by
 obtain⟨b,R,rfl,hB,hA⟩:=h;refine⟨_,_,rfl,aA _,by unfold maxLen;omega,.inr ⟨b,0,rfl,hA.lt,fun j hj=>?_⟩⟩;rw[iZ];exact hA.cell (by rw[gS hj,aN hj,aV,aN hj];rfl)
theorem kS.below {w w':World} {B:Nat} {v:Value} {l:List Int} (h:kS w B v l) (hb:Below w.heap.size w w'):kS w' B v l:=by
 obtain⟨b,R,e,hB,hA⟩:=h;exact⟨b,R,e,hB,hA.below hb hA.lt⟩
theorem kS.base {w:World} {B B':Nat} {v:Value} {l:List Int} (h:kS w B v l) (hB:B'<=B):kS w B' v l:=by
 obtain⟨b,R,e,h1,hA⟩:=h;exact⟨b,R,e,aW hB h1,hA⟩
theorem aRr (n m:Nat) (f:Nat->Int) (h:n<=m):tab m f=tab n f++(tab m f).drop n:=by
 rw[show tab n f=(tab m f).take n by
  unfold tab;rw[<-List.map_take,List.take_range,gU h],jE]
theorem aRs {n:Nat} {f:Nat->Int} {l:List Int} (hl:l.length=n) (h:∀j,j<n->f j=l.getD j 0):tab n f=l.map (bO .i64):=by
 apply List.ext_getElem?;intro j
 by_cases hj:j<n
 ·rw[iS n f j hj,dY,aN (by omega),h j hj,aV,aN (by omega)];rfl
 ·rw[dL (by simp[tab];omega),dL (by simp;omega)]
theorem aRt (v:Value) (ws:List Int) (w:World) (hr:RdI w v ws) (h2:2<=ws.length) (h258:ws.length<=258) (h1:∀x∈ws,1<=x) (hs:ws.sum<28657):
  Calls Tryz.prog 133 #[v] w fun e w'=>∃v',e=.returned v'/\kS w' w.heap.size v' (kL ws)/\Below w.heap.size w w':=by
 have HWT:=hid (SK ws h1);have hsum:=hid hs;obtain⟨a,ca,rfl,hca,hma,hA⟩:=hr.open;unfold maxLen at hma;obtain⟨b,off,rfl,hb,hc⟩:=hA (by omega);have HC:=hid hc;have hQ0:QR (w.alloc (.cells #[.slice none 0 0,oE] 233)) w.heap.size []:=
  ⟨[],⟨.slice none 0 0,Arr.new w _ _,OwP.nil _ _ _⟩,fun j h0 hj=>by simp at hj,xP _⟩
 have hB0:=bD (aB _ w) (.cells #[.slice none 0 0,oE] 233);have hs0:(w.alloc (.cells #[.slice none 0 0,oE] 233)).heap.size=w.heap.size+1:=by simp
 have s1:(store ⟨w.heap.size,1,none⟩ (iR (.func 150) #[] #[])).run Tryz.prog (w.alloc (.cells #[.slice none 0 0,.nilFunc] 233))=.ok () (w.alloc (.cells #[.slice none 0 0,iR (.func 150) #[] #[]] 233)):=by
  rw[run_store _ _ _ _ _ rfl];simp[World.setCell_alloc_new]
 clear hA hc hr h1 hs;go_enter Tryz.func133,Tryz.ntmps133;go_wp2_with fail;clear s1;generalize w.alloc (.cells #[.slice none 0 0,oE] 233)=W0 at*
 obtain⟨p,hp⟩:∃p,p=w.heap.size:=⟨_,rfl⟩;rw[<-hp] at hQ0 hB0 hs0 hb ⊢;have HPW:=hid hp;clear hp
 go_loopg [4,5,15] ws.length (fun g _s4 _s5 s15 wr=>∃k:Nat,k<=ws.length/\g=ws.length-k/\s15=.int .i64 (k:Int)/\QR wr p (bP (ws.take k) 0)/\Below p w wr/\p+1<=wr.heap.size)
 case atStart=>exact⟨0,aU _,rfl,rfl,hQ0,hB0,by omega⟩
 case round=>
  clear hQ0 hB0 hs0;obtain⟨k,hk,hg,rfl,hQ,hbel,hsz⟩:=hrel;have HG:=hid hg;clear hg;have hrl:(bP (ws.take k) 0).length=k:=by show((ws.take k).zipIdx.map _).length=k;rw[bJ,List.length_zipIdx,aX];omega
  by_cases hlt:k<ws.length
  ·have u1:decide ((k:Int)<(ws.length:Int))=true:=decide_eq_true (by omega);obtain⟨x,hx⟩:=dH hlt;have c1:=(hbel.cell (p:=⟨b,off+k,none⟩) hb).trans (HC.out k x hx);have HT:=hid (SM hx);have hpush:=aBa p (bP (ws.take k) 0) x k (.leaf k) rfl wr hQ hsz (by omega);rw[<-HT.out] at hpush;clear hx hrl;go_wp2_with fail;refine hpush.mono ?_;rintro e w2 ⟨rfl,hQ2,hb2,hk2⟩;clear hpush;go_wp2_with fail;have hg:=HG.out
   go_roundg (ws.length-(k+1))
   case measure=>omega
   case rel=>exact⟨k+1,by omega,rfl,by go_num,hQ2,hbel.trans hb2,aW hsz hk2.1⟩
  ·have u1:decide ((k:Int)<(ws.length:Int))=false:=decide_eq_false (by omega);have hke:k=ws.length:=by omega
   rw[hke,List.take_length] at hQ;obtain⟨wo,rfl⟩:∃wo,wo=wr:=⟨_,rfl⟩;obtain⟨n,hn⟩:∃n,n=ws.length:=⟨_,rfl⟩;have HN:=hid hn;obtain⟨N2,hN2⟩:∃N2,N2=2*n:=⟨_,rfl⟩;obtain⟨M,hM⟩:∃M,M=2*n-1:=⟨_,rfl⟩;have HM:=hid hM;have HN2:=hid hN2;have hn2:2<=n:=by omega
   have hn258:n<=258:=by omega
   rw[<-hn] at hca u1 ⊢;have m1:aI.wrap (2*(n:Int))=(N2:Int):=by rw[aM];omega
   have m2:2*(n:Int)=(N2:Int):=by omega
   have m3:aI.wrap ((N2:Int)-1)=(M:Int):=by rw[aM];omega
   have m4:(N2:Int)-1=(M:Int):=by omega
   have hMb:M<=1000:=by omega
   have hkn:¬k<n:=by omega
   clear hke hrl h2 h258 hn hN2 hM hlt hk;go_wp2_with (at_make;refine mkA gL rfl _ _ rfl M rfl rfl ?_ ?_;omega);have hU0:Arr (wo.alloc (.cells (fB (.int .i64 0) M) 3)) wo.heap.size 3 (tab M (iJ ws 0)):=by
    have:=Arr.made wo 3 (.int .i64 0) M;rw[BF] at this;exact this
   have hQ1:=hQ.below (bD (aB _ wo) (.cells (fB (.int .i64 0) M) 3));have hbel1:=hbel.alloc (o:=.cells (fB (.int .i64 0) M) 3) (by omega);have hz1:(wo.alloc (.cells (fB (.int .i64 0) M) 3)).heap.size=wo.heap.size+1:=by simp
   generalize wo.alloc (.cells (fB (.int .i64 0) M) 3)=W1 at*
   obtain⟨bu,hbu⟩:∃bu,bu=wo.heap.size:=⟨_,rfl⟩;rw[<-hbu] at hU0 hz1 hsz ⊢;have hbup:bu≠p:=by omega
   have hsz1:p+1<=W1.heap.size:=by omega
   clear hQ hbel hbu hz1
   go_loopg [7,8,9] n (fun g s7 _s8 _s9 wr=>∃t m:Nat,Hid (m=n+t)/\t<n/\g=n-t/\s7=.int .i64 (m:Int)/\QR wr p (bP ws t)/\Arr wr bu 3 (tab M (iJ ws t))/\Below p w wr/\p+1<=wr.heap.size)
   case atStart=>exact⟨0,n,hid (by omega),by omega,by omega,rfl,hQ1,hU0,hbel1,hsz1⟩
   case round=>
    clear hQ1 hU0 hbel1 hsz1;obtain⟨t,m,HMT,htn,hg,rfl,hQ,hU,hbel,hsz⟩:=hrel;have HG2:=hid hg;clear hg;have hmt:=HMT.out;have hN:=HN.out;have hM:=HM.out;have hrl:=pR ws t (by omega)
    by_cases hlt:t+1<n
    ·have v1:decide ((m:Int)<(M:Int))=true:=decide_eq_true (by omega);have hmM:m<M:=by omega
     have hgd:=jT.all ws t (by omega);obtain⟨A,Bb,s,hpm,hstep,ea,eb,es,_,_⟩:=qL (ws.length+t) (bP ws t) (by omega);have hne1:bP ws t≠[]:=by intro e;rw[e] at hrl;simp at hrl;omega
     have hp1:=uO (bP ws t) hne1;have hne2:(bM (bP ws t)).2≠[]:=by intro e;rw[e] at hp1;have:=hp1.2.1;simp at this;omega
     have hwA:=HWT.out t (by omega) A (hpm.mem_iff.1 (by simp));have hwB:=HWT.out t (by omega) Bb (hpm.mem_iff.1 (by simp));have hrA:=hgd.lt A (hpm.mem_iff.1 (by simp)) _ (HT.root_mem _);have hrB:=hgd.lt Bb (hpm.mem_iff.1 (by simp)) _ (HT.root_mem _);have hq1:=aBb p (bP ws t) wr hQ hne1 hgd.sorted (by omega);have hl1:(bM (bP ws t)).2.length<=1000000:=by have:=hp1.2.1;omega
     have hq2:=fun W h=>aBb p (bM (bP ws t)).2 W h hne2 (aRi hgd.sorted) hl1
     have hq3:=fun W h1 h2=>aBa p (bM (bM (bP ws t)).2).2 (A.1+Bb.1) m (.node (ws.length+t) A.2 Bb.2) (by show ws.length+t=m;omega) W h1 h2 (by have:=(uO _ hne2).2.1;omega)
     have HSTEP:=hid (show(bM (bM (bP ws t)).2).2++[(A.1+Bb.1,.node (ws.length+t) A.2 Bb.2)]=bP ws (t+1) by rw[es];exact hstep.symm);have HUP:=hid (show ∀x,iJ ws (t+1) x=if x=Bb.2.root then(m:Int) else if x=A.2.root then(m:Int) else iJ ws t x from fun x=>by rw[<-ea,<-eb,hmt,hN];rfl);rw[ea] at hq1;rw[eb] at hq2;rw[HSTEP.out] at hq3;obtain⟨ra,hra⟩:∃r,r=A.2.root:=⟨_,rfl⟩;obtain⟨rb,hrb⟩:∃r,r=Bb.2.root:=⟨_,rfl⟩;rw[<-hra] at hq1 hrA HUP;rw[<-hrb] at hq2 hrB HUP;have hraM:ra<M:=by omega
     have hrbM:rb<M:=by omega
     have hsumb:(A.1+Bb.1)<=100000/\0<=A.1+Bb.1:=by have:=hsum.out;omega
     obtain⟨S,hS⟩:∃S,S=A.1+Bb.1:=⟨_,rfl⟩;rw[<-hS] at hq3 hsumb;have mS:A.1+Bb.1=S:=hS.symm;have mS2:aI.wrap S=S:=by rw[aM];omega
     have mS3:aI.wrap (A.1+Bb.1)=S:=by rw[mS,mS2]
     clear hS;clear hgd hpm hstep ea eb es hne1 hp1 hne2 hwA hwB hrA hrB hra hrb hl1 hrl hmt hN hM hQ;go_wp2_with fail;refine hq1.mono ?_;rintro e w2 ⟨rfl,hQ2,hb2,hk2⟩;have hU:=hk2.arr hU hbup (by decide);have hbel:=hbel.trans hb2;have hsz:=aW hsz hk2.1;clear hq1 hb2 hk2;go_wp2_with fail;refine(hq2 _ hQ2).mono ?_;rintro e w3 ⟨rfl,hQ3,hb3,hk3⟩;have hU:=hk3.arr hU hbup (by decide);have hbel:=hbel.trans hb3;have hsz:=aW hsz hk3.1;clear hq2 hb3 hk3 hQ2;go_wp2_with fail
     have hX0:Arr ((w3.alloc (.cells #[.int .i64 A.1,.int .i64 (ra:Int)] 229)).alloc (.cells #[.int .i64 Bb.1,.int .i64 (rb:Int)] 229)) w3.heap.size 229 [.int .i64 A.1,.int .i64 (ra:Int)]:=(Arr.new w3 _ [.int .i64 A.1,.int .i64 (ra:Int)]).alloc _;have hX1:Arr ((w3.alloc (.cells #[.int .i64 A.1,.int .i64 (ra:Int)] 229)).alloc (.cells #[.int .i64 Bb.1,.int .i64 (rb:Int)] 229)) (w3.heap.size+1) 229 [.int .i64 Bb.1,.int .i64 (rb:Int)]:=by
      rw[show w3.heap.size+1=(w3.alloc (.cells #[.int .i64 A.1,.int .i64 (ra:Int)] 229)).heap.size by simp];exact Arr.new _ _ _
     have hb4:Below w3.heap.size w3 ((w3.alloc (.cells #[.int .i64 A.1,.int .i64 (ra:Int)] 229)).alloc (.cells #[.int .i64 Bb.1,.int .i64 (rb:Int)] 229)):=bD (bD (aB _ _) _) _;generalize (w3.alloc (.cells #[.int .i64 A.1,.int .i64 (ra:Int)] 229)).alloc (.cells #[.int .i64 Bb.1,.int .i64 (rb:Int)] 229)=w4 at*
     have hbu3:bu<w3.heap.size:=hU.lt;have hU:=hU.below hb4 hU.lt;have hQ4:=hQ3.below hb4;have hbel:=hbel.trans (hb4.mono (by omega));have hsz4:=aW hsz hb4.size;obtain⟨za,hza⟩:∃z,z=w3.heap.size:=⟨_,rfl⟩;have hbuz:bu<za:=by rw[hza];exact hbu3
     rw[<-hza] at hX0 hX1 ⊢;have x01:=hX0.cell (i:=1) rfl;have x11:=hX1.cell (i:=1) rfl;have cu1:=hU.cell (iS M _ ra hraM);have cu2:=hU.cell (iS M _ rb hrbM);have fu1:=hU.free ra;have fu2:=hU.free rb;have hU1:=hU.set ra (.int .i64 (m:Int));rw[qD M (iJ ws t) (fun x=>if x=ra then(m:Int) else iJ ws t x) ra m (fun _ _=>rfl)] at hU1;have cu3:=hU1.cell (iS M _ rb hrbM);have fu3:=hU1.free rb;have i1:(ra:Int)<(M:Int):=by omega
     have i2:(rb:Int)<(M:Int):=by omega
     have i3:(0:Int)<=(ra:Int):=by omega
     have i4:(0:Int)<=(rb:Int):=by omega
     clear hza hb4 hQ3 hbu3
     go_region
     have hU2:Arr ((w4.setCell ⟨bu,ra,none⟩ (.int .i64 (m:Int))).setCell ⟨bu,rb,none⟩ (.int .i64 (m:Int))).drew bu 3 (tab M (iJ ws (t+1))):=by
      have:=hU1.set rb (.int .i64 (m:Int));rw[qD M _ (iJ ws (t+1)) rb m (fun d _=>HUP.out d)] at this;exact this
     have hgr:w4.grownBy ((w4.setCell ⟨bu,ra,none⟩ (.int .i64 (m:Int))).setCell ⟨bu,rb,none⟩ (.int .i64 (m:Int))).drew (some bu):=nC (dS (eM _ bu ra _) (eM _ bu rb _));have hQ5:=hQ4.grown hU hgr hbup;have hX0:=hX0.grown hgr (by simp;omega);have hX1:=hX1.grown hgr (by simp;omega);have hbel:=hbel.grown hgr (by omega) (fun k hk=>by obtain rfl:=bW hk;omega);have hsz5:=aW hsz4 hgr.size;generalize ((w4.setCell ⟨bu,ra,none⟩ (.int .i64 (m:Int))).setCell ⟨bu,rb,none⟩ (.int .i64 (m:Int))).drew=w5 at*
     clear hU1 cu1 cu2 cu3 fu1 fu2 fu3 hQ4 hU x01 x11 hgr;have x00:=hX0.cell (i:=0) rfl;have x10:=hX1.cell (i:=0) rfl;go_wp2_with fail;refine(hq3 _ hQ5 hsz5).mono ?_;rintro e w6 ⟨rfl,hQ6,hb6,hk6⟩;have hU6:=hk6.arr hU2 hbup (by decide);go_wp2_with fail;have hg:=HG2.out;have hmt:=HMT.out
     go_roundg (n-(t+1))
     case measure=>omega
     case rel=>exact⟨t+1,m+1,hid (by omega),hlt,rfl,by go_num,hQ6,hU6,hbel.trans hb6,aW hsz5 hk6.1⟩
    ·have v1:decide ((m:Int)<(M:Int))=false:=decide_eq_false (by omega);have hmM:¬m<M:=by omega
     have htl:t=ws.length-1:=by omega
     rw[htl] at hU;have HUL:=hid (aRp ws (by omega));have hws2:2<=ws.length:=by omega
     have HTOT:=hid (fun(D:Nat->Int) h0 hD=>aGe ws hws2 (D:=D) h0 hD);have hjl:(kL ws).length=n:=by rw[show(kL ws).length=ws.length from rN _ _];omega
     have HJL:=hid hjl;have HM1:=hid (show M-1=2*ws.length-2 by omega);obtain⟨U,hUe⟩:∃U,U=iJ ws (ws.length-1):=⟨_,rfl⟩;rw[<-hUe] at hU HUL HTOT;obtain⟨j0,hj0⟩:∃j0,j0=M-2:=⟨_,rfl⟩;have m5:aI.wrap ((M:Int)-2)=(j0:Int):=by rw[aM];omega
     have m6:(M:Int)-2=(j0:Int):=by omega
     have HJ0:=hid (show j0+2=M by omega);have hpw:=hid (show p<=wr.heap.size by omega);clear hws2 hmt hN hM hrl hlt htl hjl hUe hj0 HMT hQ;obtain⟨wo,rfl⟩:∃wo,wo=wr:=⟨_,rfl⟩;go_wp2_with (at_make;refine mkA gL rfl _ _ rfl M rfl rfl ?_ ?_;omega);have hD0:Arr (wo.alloc (.cells (fB (.int .i64 0) M) 3)) wo.heap.size 3 (tab M (fun _=>0)):=by
      have:=Arr.made wo 3 (.int .i64 0) M;rw[BF] at this;exact this
     have hU1:=hU.alloc (.cells (fB (.int .i64 0) M) 3);have hbel1:=hbel.alloc (o:=.cells (fB (.int .i64 0) M) 3) (by omega);have hud:=hU.lt;generalize wo.alloc (.cells (fB (.int .i64 0) M) 3)=W2 at*
     obtain⟨bd,hbd⟩:∃bd,bd=wo.heap.size:=⟨_,rfl⟩;rw[<-hbd] at hD0 hud ⊢;have hbdp:p<bd:=by omega
     clear hU hbel hbd hpw
     go_loopg [11] (M-1) (fun g s11 wr=>∃(j:Nat) (q:Int) (D:Nat->Int),Hid (q=(j:Int)-1)/\j+1<=M/\g=j/\s11=.int .i64 q/\Hid (vD M U j D)/\Arr wr bd 3 (tab M D)/\Arr wr bu 3 (tab M U)/\Below p w wr)
     case atStart=>exact⟨M-1,(j0:Int),fun _=>0,hid (by have:=HJ0.out;omega),by have:=HJ0.out;omega,rfl,rfl,hid (vD.start M U),hD0,hU1,hbel1⟩
     case round=>
      clear hD0 hU1 hbel1;obtain⟨j,q,D,HQ,hjM,hg,rfl,HD,hDn,hU,hbel⟩:=hrel;have HG3:=hid hg;clear hg
      by_cases hj0:0<j
      ·obtain⟨y,hy⟩:∃y,j=y+1:=⟨j-1,by omega⟩;have hq:=HQ.out;obtain rfl:q=(y:Int):=by omega
       subst hy;have HM1o:=HM1.out;obtain⟨u,hu,hyu,huM⟩:=HUL.out y (by omega);have huM2:u<M:=by omega
       have hyM:y<M:=by omega
       have r1:decide ((y:Int)>=0)=true:=decide_eq_true (by omega);have r2:decide (0<=(y:Int))=true:=decide_eq_true (by omega);have c1:=hU.cell (iS M U y hyM);rw[hu] at c1;have c2:=hDn.cell (iS M D u huM2);have c3:=hDn.cell (iS M D y hyM);have f3:=hDn.free y;have hbdD:=HD.out.bd u (by omega) huM2;have HST:=hid (HD.out.step (by omega) hu hyu huM2 (fun x hx1 hx2=>by
        obtain⟨u2,e1,e2,_⟩:=HUL.out x (by omega);rw[e1];omega))
       obtain⟨Du,hDu⟩:∃x,x=D u:=⟨_,rfl⟩;rw[<-hDu] at c2 hbdD HST;have n1:aI.wrap (Du+1)=Du+1:=by rw[aM];omega
       have n2:aI.wrap ((y:Int)-1)=(y:Int)-1:=by rw[aM];omega
       have i1:(y:Int)<(M:Int):=by omega
       have i2:(u:Int)<(M:Int):=by omega
       have i3:(0:Int)<=(u:Int):=by omega
       have i4:(0:Int)<=(y:Int):=by omega
       clear hu hDu hq HM1o;go_wp2_with fail;have hg:=HG3.out
       go_roundg y
       case measure=>omega
       case rel=>
        refine⟨y,_,_,hid rfl,by omega,rfl,by go_num,HST,?_,?_,?_⟩
        ·have:=hDn.set y (.int .i64 (Du+1));rw[qD M D (fun d=>if d=y then Du+1 else D d) y (Du+1) (fun _ _=>rfl)] at this;exact this
        ·exact hU.other ⟨bd,y,none⟩ (by simp;omega) _
        ·exact hbel.setCell (p:=⟨bd,y,none⟩) (by show p<=bd;omega) _
      ·have hq:=HQ.out;have r1:decide (q>=0)=false:=decide_eq_false (by omega);have r2:decide (0<=q)=false:=decide_eq_false (by omega);have r3:¬0<=q:=by omega
       obtain rfl:j=0:=by omega
       have hnM:n<=M:=by omega
       have i1:(n:Int)<=(M:Int):=by omega
       have HNM:=hid hnM;clear hq;go_wp2_with fail;go_ret;have hfin:=HTOT.out D (by rw[<-HM1.out];exact HD.out.top) (fun x hx=>HD.out.down x (aU _) (by rw[HM1.out];exact hx));have htab:=aRs (f:=D) HJL.out (fun j hj=>hfin j (by rw[<-HN.out];exact hj));refine⟨_,rfl,⟨bd,(tab M D).drop n,by rw[HJL.out];rfl,by rw[<-HPW.out];omega,?_⟩,by rw[<-HPW.out];exact hbel⟩;rw[<-htab,<-aRr n M D HNM.out];exact hDn
theorem Ow.openA {w:World} {B e:Nat} {v:Value} {xs:List Value} (h:Ow w B e v xs) (h0:0<xs.length):∃g cap R,v=.slice (some ⟨g,0,none⟩) xs.length cap/\B<=g/\Arr w g e (xs++R)/\xs.length<=cap/\cap<=maxLen/\(xs++R).length=cap:=by
 obtain⟨hl,h⟩:=h;rcases h with⟨rfl,h1⟩|⟨g,cap,cur,rfl,hb,hg,hnc,hcm,hcs,ht⟩
 ·omega
 ·rw[Nat.mul_one] at hcs ht;have key:xs++cur.toList.drop xs.length=cur.toList:=by
   have:=jE xs.length cur.toList;rw[ht] at this;exact this
  refine⟨g,cap,cur.toList.drop xs.length,rfl,hb,?_,hnc,hcm,?_⟩
  ·unfold Arr;rw[key,Array.toArray_toList];exact hg
  ·rw[key,Array.length_toList];exact hcs
theorem aRu {w:World} {g cap e:Nat} {xs R:List Value} (h:Arr w g e (xs++R)) (hc:xs.length<=cap) (hm:cap<=maxLen):Rd w (.slice (some ⟨g,0,none⟩) xs.length cap) xs.length xs:=
 ⟨_,_,rfl,hc,hm,.inr ⟨g,0,rfl,h.lt,fun j hj=>by
  rw[iZ];exact h.cell (by rw[gS hj,aN hj,aV,aN hj];rfl)⟩⟩
theorem MY {w:World} {g cap n:Nat} {l:List Int} {R:List Value} (h:Arr w g 3 (l.map (bO .i64)++R)) (hn:l.length=n) (hc:n<=cap) (hm:cap<=maxLen):RdI w (.slice (some ⟨g,0,none⟩) n cap) l:=by
 subst hn;have:=aRu (cap:=cap) h (by simpa using hc) hm;unfold RdI
 simpa using this
def pB (f:Int->Int) (l:List Int) (k:Nat):List Int:=(l.take k).map f++l.drop k
theorem aRv (f:Int->Int) (l:List Int) (k:Nat):(pB f l k).length=l.length:=by unfold pB;simp;omega
theorem aRw {f:Int->Int} {l:List Int} {k:Nat} {x:Int} (h:l[k]? =some x):(pB f l k)[k]? =some x:=by
 have hk:=(eU.1 h).1;unfold pB;rw[List.getElem?_append_right (by simp;omega)];simp only[bJ,aX,List.getElem?_drop];rw[show k+(k-min k l.length)=k by omega];exact h
theorem aRx {f:Int->Int} {l:List Int} {k:Nat} {x:Int} (h:l[k]? =some x):pB f l (k+1)=(pB f l k).set k (f x):=by
 have hk:=(eU.1 h).1;unfold pB;rw[List.set_append_right _ _ (by simp;omega),bJ,aX,gU (by omega),Nat.sub_self,cQ,h,oH hk,List.set_cons_zero];simp
theorem aRy (f:Int->Int) (l:List Int) (k:Nat) (h:l.length<=k):pB f l k=l.map f:=by
 unfold pB;rw[cS h,List.drop_eq_nil_of_le h,List.append_nil]
theorem aRz (v:Value) (l:List Int) (w:World) (hr:RdI w v l) (h2:2<=l.length) (h258:l.length<=258) (h0:∀x∈l,0<=x/\x<=20000) (hs:l.sum<=20000):
  Calls Tryz.prog 99 #[v,.int .i64 20] w fun e w'=>∃v',e=.returned (.tuple #[v',.int .i64 0])/\kS w' w.heap.size v' (nJ l)/\Below w.heap.size w w':=by
 have HOK:=hid (KE h2 h258 (fun x hx=>(h0 x hx).1) hs);have HMS:=hid (DD l (fun x hx=>(h0 x hx).1));have HS:=hid hs;have hcl:=aA3 v l w hr (by omega) (by omega);have hw:=aPi v l w hr (fun x hx=>by have:=h0 x hx;omega);obtain⟨a,ca,rfl,hca,hma,hA⟩:=hr.open;have t1:decide ((l.length:Int)<2)=false:=decide_eq_false (by omega);have t2:decide ((l.length:Int)>258)=false:=decide_eq_false (by omega);have t3:decide (258<(l.length:Int))=false:=decide_eq_false (by omega);clear hA hr hs h0;go_enter Tryz.func99,Tryz.ntmps99;go_wp2_with fail;refine hw.mono ?_;rintro e w' ⟨rfl,rfl⟩
 go_wp2_with fail;refine hcl.mono ?_;rintro e w1 ⟨v1,rfl,ho,hb1⟩;obtain⟨g,cap,R,rfl,hBg,hN,hc1,hc2,hc3⟩:=Ow.openA ho (by rw[bJ];omega);rw[bJ] at hc1 ⊢;have hM2:=hid hc2;unfold maxLen at hc2;clear hw hcl ho hc3;go_wp2_with fail
 go_loopg [7,8,37] l.length (fun gg _s7 _s8 s37 wr=>∃k:Nat,k<=l.length/\gg=l.length-k/\s37=.int .i64 (k:Int)/\Arr wr g 3 ((pB (fun x=>max x 1) l k).map (bO .i64)++R)/\Below w'.heap.size w' wr)
 case atStart=>exact⟨0,aU _,rfl,rfl,hN,hb1⟩
 case round=>
  clear hN hb1;obtain⟨k,hk,hg,rfl,hN,hbel⟩:=hrel;have HG:=hid hg;clear hg;have hPL:=aRv (fun x=>max x 1) l k
  by_cases hlt:k<l.length
  ·have u1:decide ((k:Int)<(l.length:Int))=true:=decide_eq_true (by omega);obtain⟨x,hx⟩:=dH hlt;have c1:=hN.cell (i:=k) (v:=.int .i64 x) (by rw[gS (by rw[bJ,hPL];exact hlt),dY,aRw hx];rfl);have f1:=hN.free k;obtain⟨M,hM⟩:∃M,max x 1=M:=⟨_,rfl⟩;have hM2:(if x<1 then 1 else x)=M:=by rw[<-hM];split<;>omega
   have HT:=hid (show(pB (fun x=>max x 1) l (k+1)).map (bO .i64)++R=((pB (fun x=>max x 1) l k).map (bO .i64)++R).set k (.int .i64 M) by
    rw[List.set_append_left _ _ (by rw[bJ,hPL];exact hlt),aRx hx,List.map_set,<-hM])
   clear hx hPL;go_wp2_with fail;have hg:=HG.out
   go_roundg (l.length-(k+1))
   case measure=>omega
   case rel=>exact⟨k+1,by omega,rfl,by go_num,by rw[HT.out];exact hN.set k _,hbel.setCell (p:=⟨g,k,none⟩) hBg _⟩
  ·have u1:decide ((k:Int)<(l.length:Int))=false:=decide_eq_false (by omega);rw[aRy _ _ _ (by omega)] at hN;have hsz:=hbel.size;have hd:=aRt (.slice (some ⟨g,0,none⟩) l.length cap) (l.map (fun x=>max x 1)) wr (MY hN (by rw[bJ]) hc1 hM2.out) (by rw[bJ];omega) (by rw[bJ];omega) (fun x hx=>by
    obtain⟨y,_,rfl⟩:=List.mem_map.1 hx;omega) (by have:=HMS.out;have:=HS.out;omega)
   have hlw:kL (l.map (fun x=>max x 1))=nJ l:=rfl;rw[hlw] at hd;clear hPL hN;go_wp2_with fail;refine hd.mono ?_;rintro e w5 ⟨v9,rfl,ho9,hb9⟩;have hB9:=bV hbel hb9;have ho9':=ho9.base hsz;have hdp:=ZH v9 (nJ l) w5 (ho9.rd (by rw[HOK.out.2];omega)) (by rw[HOK.out.2];omega);have HB:=hid (fun x hx=>(HOK.out.1.2.2 x hx).2);clear hd hbel hb9 ho9;go_wp2_with fail
   go_loopg [9,10,11,56] 0 (fun g s9 _s10 _s11 _s56 wx=>g=0/\s9=v9/\wx=w5)
   case atStart=>exact⟨rfl,rfl,rfl⟩
   case round=>
    obtain⟨_,rfl,rfl⟩:=hrel;go_wp2_with fail;refine hdp.mono ?_;rintro e w6 ⟨d,rfl,hd,_,rfl⟩;have hd20:=HB.out d hd;have v1:decide (d>20)=false:=decide_eq_false (by omega);have v2:decide (20<d)=false:=decide_eq_false (by omega);go_wp2_with fail
    go_ret2
    exact⟨_,rfl,ho9',hB9⟩
end
section
open Go.RowKit Go Go.Shelf
attribute [local go_sem] Oper.semAt_some
def chV (b off n i:Nat):Value:=.slice (some ⟨b,off+10*i,none⟩) (min 10 (n-10*i)) (min 10 (n-10*i))
def chL (b off n:Nat):List Value:=(List.range ((n+9)/10)).map (chV b off n)
theorem zY (b off n:Nat):(chL b off n).length=(n+9)/10:=by simp[chL]
theorem aBf {b off n i:Nat} (h:i<(n+9)/10):(chL b off n)[i]? =some (chV b off n i):=by simp[chL,h]
theorem aR1 {b off n i:Nat} (h:i<(n+9)/10):(chL b off n).take (i+1)=(chL b off n).take i++[chV b off n i]:=by rw[cQ,aBf h];rfl
def KpA (B1:Nat) (A B:World):Prop:=A.heap.size<=B.heap.size/\∀k o,(k=B1\/k=B1+1)->A.heap[k]? =some o->o.isCells=true->B.heap[k]? =some o
theorem KpA.trans {B1:Nat} {A B C:World} (h:KpA B1 A B) (k:KpA B1 B C):KpA B1 A C:=⟨aW h.1 k.1,fun i o hi ho hc=>k.2 i o hi (h.2 i o hi ho hc) hc⟩
theorem KpA.put {B1 B:Nat} (_:B1+1<B) (W:World) (l:Nat) (o o':Obj) (hl:B<=l) (_:W.heap[l]? =some o) (_:o.isCells=false) (_:o.isWalk=false):KpA B1 W (W.putObj l o'):=
 ⟨by simp,fun k q hk hq _=>by rw[World.putObj_heap_other (by omega)];exact hq⟩
theorem aR2 {B:Nat} {J:List Value->World->Prop} (h:AbidesFrom B J) {s:List Value} {A:World} (hs:J s A) (k:Nat):J s (A.drewN k):=
 h s A _ none hs ⟨rfl,rfl,rfl,aA _,fun _ _ _=>rfl⟩ (fun r e=>by cases e)
theorem aR3 {b off n i:Nat} (h:i<(n+9)/10):(chL b off n).take i++chV b off n i::(chL b off n).drop (i+1)=chL b off n:=by
 have:=jE i (chL b off n);rw[oH (by rw[zY];exact h)] at this;rw[show(chL b off n)[i]'(by rw[zY];exact h)=chV b off n i by simp[chL]] at this;exact this
theorem KpA.arr {B1 b e:Nat} {A B:World} {l:List Value} (h:KpA B1 A B) (hA:Arr A b e l) (hb:b=B1\/b=B1+1):Arr B b e l:=h.2 b _ hb hA rfl
theorem aR4 (n:Nat) (hn:1<=n) (B1 b off cap N:Nat) (hNc:N<=cap) (hm:N<=1000000) (w:World) (hA:Arr w B1 39 [.slice (some ⟨b,off,none⟩) N cap]) (hA2:Arr w (B1+1) 3 [.int .i64 10]):
  MN n Tryz.prog 137 #[.pointer (some ⟨B1,0,none⟩),.pointer (some ⟨B1+1,0,none⟩)] (fun x=>#[x]) B1 (KpA B1) (chL b off N) w:=by
 intro l J W hW hJ _ hY h0;have hA:=hA.below hW hA.lt;have hA2:=hA2.below hW hA2.lt;refine callsIn_of_wp Tryz.func137 rfl trivial ?_ rfl;simp only[Tryz.ntmps137,List.size_toArray,List.length_cons,List.length_nil,Nat.reduceAdd,Nat.reduceSub,Array.replicate_succ,Array.replicate_zero,List.push_toArray,List.append_toArray,List.nil_append,List.cons_append];have HY:=hid hY;have HJ:=hid hJ;clear hW hJ hY
 gi_wp2_with fail
 gi_loopg [4,5] ((N+9)/10) (fun g s4 _s5 wr=>∃k i:Nat,Hid (i=10*k)/\k<=(N+9)/10/\g=(N+9)/10-k/\s4=.int .i64 (i:Int)/\J ((chL b off N).take k) wr/\W.heap.size<=wr.heap.size/\Arr wr B1 39 [.slice (some ⟨b,off,none⟩) N cap]/\Arr wr (B1+1) 3 [.int .i64 10])
 case atStart=>exact⟨0,0,hid rfl,aU _,rfl,rfl,h0,aA _,hA,hA2⟩
 case round=>
  clear h0 hA hA2;obtain⟨k,i,HI,hk,hg,rfl,hJk,hsz,hA,hA2⟩:=hrel;have HG:=hid hg;clear hg;have hi:=HI.out;have c0:=hA.cell (i:=0) rfl;have c1:=hA2.cell (i:=0) rfl
  by_cases hlt:i<N
  ·have u1:decide ((i:Int)<(N:Int))=true:=decide_eq_true (by omega);obtain⟨d,hd⟩:∃d,d=N-i:=⟨_,rfl⟩;obtain⟨e,he⟩:∃e,e=min 10 d:=⟨_,rfl⟩;obtain⟨h,hh⟩:∃h,h=i+e:=⟨_,rfl⟩;have m1:min (10:Int) (d:Int)=(e:Int):=by omega
   have m2:(if(d:Int)<10 then(d:Int) else 10)=(e:Int):=by split<;>omega
   have m3:(if(10:Int)<(d:Int) then 10 else(d:Int))=(e:Int):=by split<;>omega
   have m4:aI.wrap ((i:Int)+(e:Int))=(h:Int):=by rw[aM];omega
   have m5:(i:Int)+(e:Int)=(h:Int):=by omega
   have m6:aI.wrap ((i:Int)+10)=(i:Int)+10:=by rw[aM];omega
   have hsl1:∀W,(Instr.sliceAt 39 (.slice (some ⟨b,off,none⟩) N cap) (some (.int .i64 (i:Int))) none none).run Tryz.prog W=.ok (.slice (some ⟨b,off+i,none⟩) d (cap-i)) W:=fun W=>by
    have k1:(0:Int)<=(i:Int):=by omega
    have k2:(i:Int)<=(N:Int):=by omega
    have k3:i<=N:=by omega
    have k4:¬cap=i:=by omega
    subst hd
    by_cases h0:i=0
    ·subst h0;simp[go_sem,k4,iN]
    ·simp[go_sem,k3,k4,iN,h0]
   have hsl2:∀W,(Instr.sliceAt 39 (.slice (some ⟨b,off,none⟩) N cap) (some (.int .i64 (i:Int))) (some (.int .i64 (h:Int))) (some (.int .i64 (h:Int)))).run Tryz.prog W=.ok (.slice (some ⟨b,off+i,none⟩) e e) W:=fun W=>by
    have k1:(0:Int)<=(i:Int):=by omega
    have k2:i<=h:=by omega
    have k3:h<=cap:=by omega
    have k4:¬h=i:=by omega
    have k5:h-i=e:=by omega
    by_cases h0:i=0
    ·subst h0;simp[go_sem,k3,k4,k5,iN]
    ·simp[go_sem,k2,k3,k4,k5,iN,h0]
   have hx:Value.slice (some ⟨b,off+i,none⟩) e e=chV b off N k:=by unfold chV;rw[<-hi,<-hd,<-he]
   have HK:=hid (show k<(N+9)/10 by omega);have HX:=hid hx;clear hd he hh hi hx
   gi_wp2_with fail
   gi_quiet (fail)
   have hA3:Arr (wr.drewN nq) B1 39 [.slice (some ⟨b,off,none⟩) N cap]:=hA;have hA4:Arr (wr.drewN nq) (B1+1) 3 [.int .i64 10]:=hA2;have hJ2:=aR2 HJ.out hJk nq;have hsz2:W.heap.size<=(wr.drewN nq).heap.size:=hsz;generalize wr.drewN nq=W2 at*
   obtain⟨fn,tmps,assign,body,hy,hR⟩:=HY.out _ (chV b off N k) W2 hJ2 ⟨_,aR3 HK.out⟩;rw[<-HX.out] at hy;rw[<-aR1 HK.out] at hR;have d0:=hA3.cell (i:=0) rfl;clear c0 c1 hA hA2 hJk hJ2
   gi_wp2_with fail
   refine hR.mono ?_;rintro e2 W3 ⟨rfl,hJ3,hk3⟩
   ·have hA5:=hk3.arr hA3 (.inl rfl);have hA6:=hk3.arr hA4 (.inr rfl);have d1:=hA6.cell (i:=0) rfl;have hsz3:=aW hsz2 hk3.1
    gi_wp2_with fail
    have hg:=HG.out;have hi:=HI.out
    gi_roundg ((N+9)/10-(k+1))
    case measure=>omega
    case rel=>exact⟨k+1,i+10,hid (by omega),by omega,rfl,by go_num,hJ3,hsz3,hA5,hA6⟩
  ·have u1:decide ((i:Int)<(N:Int))=false:=decide_eq_false (by omega);rw[cS (by rw[zY];omega)] at hJk;clear hi
   gi_wp2_with fail
   refine⟨rfl,_,qX rfl _ _ _,⟨_,rfl⟩,hJk⟩
end
end Go.Proofs.YtpgmbhpbgkljdaaGreatDoor
