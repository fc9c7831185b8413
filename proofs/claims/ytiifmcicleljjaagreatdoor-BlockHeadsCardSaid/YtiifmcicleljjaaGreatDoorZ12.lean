/-
  Texts put together (part 12): the walks and the plain laws on which the statement stands.
-/
import Derived.Test.YtiifmcicleljjaaGreatDoorZ10
import Derived.Test.YtiifmcicleljjaaGreatDoorZ11
set_option maxRecDepth 100000
set_option maxHeartbeats 12800000
open Decidable renaming not_not->dK
open Go renaming bodyPost_ret->gJ,results_cell_row->tR,run_storeCells_from->aCr,run_underlying->sI,setRow_heap->GR
open Go.Instr renaming index->tV
open Go.IntKind renaming i64->aI,u32->rA,wrap_i64->aM,wrap_u32->vP
open Go.Lib renaming toList_data->AW
open Go.RowKit.Below renaming refl->aB
open List renaming countP_le_length->xR,drop_of_length_le->qY,eq_of_mem_replicate->aCo,getD->fF,getElem?_append_left->gS,getElem?_concat_length->AQ,getElem?_eq_getElem->aN,getElem?_eq_none->dL,getElem?_eq_some_iff->eU,length_append->aL,length_drop->cI,length_map->bJ,length_singleton->fK,length_take->aX,mem_append->cU,mem_cons_of_mem->jD,mem_map->dU,mem_of_getElem?->cH,range->dG,take_of_length_le->cS
open Nat renaming add_zero->pH,le_refl->aA,le_trans->aW,lt_of_lt_of_le->dR,lt_or_ge->bT,zero_le->aU
open Option.some renaming inj->bW
namespace Go.Proofs.YtiifmcicleljjaaGreatDoor
section
open Go.RowKit Go Go.Shelf
theorem KP {l:List Int} {s:List UInt8} {a i:Nat} (h:aO s.length (a:Int) (bG l i)=0):gZ l s a i↔aE s (a:Int) (bG l i)=fO l i:=by
 have h1:=fQ h;unfold gZ aE;rw[if_pos h,Int.toNat_natCast];exact⟨fun q=>q.2,fun q=>⟨by omega,q⟩⟩
theorem KR {s:List UInt8} {a c:Int} {k:Nat} (h:(bF s a c k).2.2=0):bF s a c (k+1)=
  if(eJ s (bF s a c k).2.1 c).2.2≠0 then((bF s a c k).1,(bF s a c k).2.1,(eJ s (bF s a c k).2.1 c).2.2)
  else if bL (eJ s (bF s a c k).2.1 c).1≠0 then((bF s a c k).1,(bF s a c k).2.1,bL (eJ s (bF s a c k).2.1 c).1)
  else((bF s a c k).1++[(eJ s (bF s a c k).2.1 c).1],(eJ s (bF s a c k).2.1 c).2.1,0):=by
 show(if(bF s a c k).2.2≠0 then bF s a c k else _)=_;rw[if_neg (fun q=>q h)]
theorem DP {s:List UInt8} {a c:Int} {k:Nat} (h:(bF s a c k).2.2≠0):∀j,(bF s a c (k+j)).2.2=(bF s a c k).2.2
 |0=>rfl
 |j+1=>by
  have ih:=DP h j;show(if(bF s a c (k+j)).2.2≠0 then bF s a c (k+j) else _).2.2=_;rw[if_pos (by rw[ih];exact h),ih]
theorem DQ {s:List UInt8} {a c:Int} (h0:0<=a):∀k,(bF s a c k).2.2=0->a<=(bF s a c k).2.1/\((bF s a c k).2.1=a\/(bF s a c k).2.1<=8*(s.length:Int))
 |0,_=>⟨Int.le_refl _,.inl rfl⟩
 |k+1,h=>by
  have hk:(bF s a c k).2.2=0:=by
   rcases Decidable.em ((bF s a c k).2.2=0) with q|q
   ·exact q
   ·have:=DP q 1;rw[h] at this;exact this.symm
  obtain⟨h1,h2⟩:=DQ (s:=s) (c:=c) h0 k hk;rw[KR hk] at h ⊢;split at h
  ·next q=>exact absurd h q
  ·next q=>
   rw[if_neg q];split at h
   ·next q2=>exact absurd h q2
   ·next q2=>
    rw[if_neg q2];have q:=dK.1 q;unfold eJ at q ⊢;split at q
    ·simp at q
    ·next k1=>
     rw[if_neg k1];simp only at q ⊢;split at q
     ·next k2=>exact absurd q k2
     ·next k2=>
      rw[if_neg k2];have:=yR s (bF s a c k).2.1 (by omega) c.toNat (dK.1 k2);show a<=(aZ s (bF s a c k).2.1 c.toNat).2.2.1/\((aZ s (bF s a c k).2.1 c.toNat).2.2.1=a\/(aZ s (bF s a c k).2.1 c.toNat).2.2.1<=_);omega
def fE (w:World) (B:Nat) (xs:List Value) (gs:List (List Int)):Prop:=xs.length=gs.length/\∀(j:Nat) (x:Value) (g:List Int),xs[j]? =some x->gs[j]? =some g->OwI w B x g
theorem fE.nil (w:World) (B:Nat):fE w B [] []:=⟨rfl,fun j x g h=>by simp at h⟩
theorem fE.map {w w':World} {B B':Nat} {xs:List Value} {gs:List (List Int)} (h:fE w B xs gs) (k:∀(x:Value) (g:List Int),OwI w B x g->OwI w' B' x g):fE w' B' xs gs:=⟨h.1,fun j x g hx hg=>k x g (h.2 j x g hx hg)⟩
theorem fE.below {w w':World} {B:Nat} {xs:List Value} {gs:List (List Int)} (h:fE w B xs gs) (hb:Below w.heap.size w w'):fE w' B xs gs:=h.map (fun _ _ k=>OwI.below k hb (aA _))
theorem fE.alloc {w:World} {B:Nat} {xs:List Value} {gs:List (List Int)} (h:fE w B xs gs) (o:Obj):fE (w.alloc o) B xs gs:=h.map (fun _ _ k=>OwI.alloc k o)
theorem fE.ok {w:World} {B:Nat} {xs:List Value} {gs:List (List Int)} (h:fE w B xs gs):LOK w xs gs:=⟨h.1,fun j x g hx hg=>OwI.rd (h.2 j x g hx hg)⟩
theorem fE.app {w w':World} {B B':Nat} {xs ys:List Value} {gs:List (List Int)} {v:Value} (h:fE w B xs gs) (ho:Ow w B' 27 v ys) (hg:w.grownBy w' v.ownBlock):fE w' B xs gs:=h.map (fun _ _ k=>Ow.kept k hg (qO k ho (by decide)))
theorem fE.snoc {w:World} {B:Nat} {xs:List Value} {gs:List (List Int)} (h:fE w B xs gs) {x:Value} {g:List Int} (hx:OwI w B x g):fE w B (xs++[x]) (gs++[g]):=by
 refine⟨by rw[aL,aL,h.1];rfl,fun j x' g' h1 h2=>?_⟩
 by_cases hj:j<xs.length
 ·rw[gS hj] at h1;rw[gS (by rw[<-h.1];exact hj)] at h2;exact h.2 j x' g' h1 h2
 ·have hjl:=(eU.1 h1).1;rw[aL,fK] at hjl;obtain rfl:j=xs.length:=by omega
  rw[AQ] at h1;rw[h.1,AQ] at h2;obtain rfl:=bW h1;obtain rfl:=bW h2;exact hx
theorem UJ {s:List UInt8} {a:Int} {t:List (List Int)} {ch:List Int} {fin:Int} {k:Nat} (h:(bH s a t ch fin k).2.2.1=0) (h2:(bH s a t ch fin k).2.2.2=false):bH s a t ch fin (k+1)=
  if(bZ (t.getD (ch.getD (k/10) 0).toNat []) s (bH s a t ch fin k).2.1).2.2≠0 then((bH s a t ch fin k).1,(bH s a t ch fin k).2.1,(bZ (t.getD (ch.getD (k/10) 0).toNat []) s (bH s a t ch fin k).2.1).2.2,false)
  else if(bZ (t.getD (ch.getD (k/10) 0).toNat []) s (bH s a t ch fin k).2.1).1=fin then
   if k/10+1<ch.length then((bH s a t ch fin k).1++[(bZ (t.getD (ch.getD (k/10) 0).toNat []) s (bH s a t ch fin k).2.1).1],(bZ (t.getD (ch.getD (k/10) 0).toNat []) s (bH s a t ch fin k).2.1).2.1,3,false)
   else((bH s a t ch fin k).1++[(bZ (t.getD (ch.getD (k/10) 0).toNat []) s (bH s a t ch fin k).2.1).1],(bZ (t.getD (ch.getD (k/10) 0).toNat []) s (bH s a t ch fin k).2.1).2.1,0,true)
  else((bH s a t ch fin k).1++[(bZ (t.getD (ch.getD (k/10) 0).toNat []) s (bH s a t ch fin k).2.1).1],(bZ (t.getD (ch.getD (k/10) 0).toNat []) s (bH s a t ch fin k).2.1).2.1,0,false):=by
 show(if(bH s a t ch fin k).2.2.1≠0\/(bH s a t ch fin k).2.2.2=true then bH s a t ch fin k else _)=_;rw[if_neg (by rw[h,h2];simp)]
theorem UK {s:List UInt8} {a:Int} {t:List (List Int)} {ch:List Int} {fin:Int} {k:Nat} (h:(bH s a t ch fin k).2.2.1≠0\/(bH s a t ch fin k).2.2.2=true):∀j,bH s a t ch fin (k+j)=bH s a t ch fin k
 |0=>rfl
 |j+1=>by
  have ih:=UK h j;show(if(bH s a t ch fin (k+j)).2.2.1≠0\/(bH s a t ch fin (k+j)).2.2.2=true then bH s a t ch fin (k+j) else _)=_;rw[ih,if_pos h]
theorem KS (s:List UInt8) (a:Int) (t:List (List Int)) (ch:List Int) (fin:Int):∀k,(bH s a t ch fin k).1.length<=k
 |0=>aA _
 |k+1=>by
  have ih:=KS s a t ch fin k;unfold bH;simp only
  split
  ·omega
  ·split
   ·show(bH s a t ch fin k).1.length<=_;omega
   ·split
    ·split
     ·rw[aL];simp;omega
     ·rw[aL];simp;omega
    ·rw[aL];simp;omega
theorem UL {s:List UInt8} {a:Int} {t:List (List Int)} {ch:List Int} {fin:Int} {k:Nat} {r:List Int} {p E:Int} {b:Bool} (hk:k<=10*ch.length) (h:bH s a t ch fin k=(r,p,E,b)) (hE:E≠0\/b=true):
  gX s a t ch fin=if E≠0 then([],0,E) else(r,p,0):=by
 have:=UK (s:=s) (a:=a) (t:=t) (ch:=ch) (fin:=fin) (k:=k) (by rw[h];exact hE) (10*ch.length-k);rw[show k+(10*ch.length-k)=10*ch.length by omega] at this;unfold gX;simp only[this,h];rcases hE with q|q
 ·rw[if_pos q,if_pos q]
 ·subst q;simp
theorem UM {l:List Int} {s:List UInt8} {a:Nat} (h:(bZ l s (a:Int)).2.2=0):(a:Int)<=(bZ l s (a:Int)).2.1/\(bZ l s (a:Int)).2.1<=8*(s.length:Int)/\0<=(bZ l s (a:Int)).1/\(bZ l s (a:Int)).1<(l.length:Int):=by
 have hc:bL l=0:=by
  unfold bZ at h;split at h
  ·next q=>exact absurd h q
  ·next q=>exact dK.1 q
 by_cases hex:∃i,i<l.length/\gZ l s a i
 ·obtain⟨i,hi,hf⟩:=hex;rw[uB hc hi hf];have:=hf.1;simp only
  omega
 ·exfalso;rw[uD hc (fun i hi hf=>hex ⟨i,hi,hf⟩)] at h;split at h<;>simp at h
theorem UN (s:List UInt8) (a c:Int):cV s a c=
  if aO s.length a 3≠0 then([],0,aO s.length a 3)
  else if aE s a 3<2\/6<aE s a 3 then([],0,3)
  else if aO s.length (a+3) 15≠0 then([],0,aO s.length (a+3) 15)
  else if aE s (a+3) 15=0 then([],0,3)
  else if(dD s (a+18) (aE s (a+3) 15) (aE s a 3)).2.2≠0 then([],0,(dD s (a+18) (aE s (a+3) 15) (aE s a 3)).2.2)
  else if(bF s (dD s (a+18) (aE s (a+3) 15) (aE s a 3)).2.1 c (aE s a 3)).2.2≠0 then([],0,(bF s (dD s (a+18) (aE s (a+3) 15) (aE s a 3)).2.1 c (aE s a 3)).2.2)
  else gX s (bF s (dD s (a+18) (aE s (a+3) 15) (aE s a 3)).2.1 c (aE s a 3)).2.1 (bF s (dD s (a+18) (aE s (a+3) 15) (aE s a 3)).2.1 c (aE s a 3)).1 (dD s (a+18) (aE s (a+3) 15) (aE s a 3)).1 (c-1):=rfl
theorem UO {s:List UInt8} {a n t:Nat} (ht1:2<=t) (ht2:t<=6) (hn:n<=1048576) (h:(dD s (a:Int) (n:Int) (t:Int)).2.2=0):
  (dD s (a:Int) (n:Int) (t:Int)).1.length=n/\(∀x∈(dD s (a:Int) (n:Int) (t:Int)).1,0<=x/\x<(t:Int))/\(a:Int)<=(dD s (a:Int) (n:Int) (t:Int)).2.1/\((dD s (a:Int) (n:Int) (t:Int)).2.1=(a:Int)\/(dD s (a:Int) (n:Int) (t:Int)).2.1<=8*(s.length:Int)):=by
 rw[DO s a n t ht1 ht2 hn] at h ⊢;split at h
 ·next q=>exact absurd h q
 ·next q=>
  rw[if_neg q];obtain⟨h1,h2,h3,h4⟩:=wG s (t:Int) (a:Int) (by omega) (by omega) n (dK.1 q);refine⟨by rw[bJ,oO];exact h1,fun x hx=>?_,h3,h4⟩;obtain⟨b,hb,rfl⟩:=dU.1 hx;have:=(KA ht2 b).1 (IQ _ _ (fun y hy=>by rw[oR];exact h2 y hy) b hb);omega
end
section
open Go.RowKit
theorem aK6:∀(r:List Int) (k:Nat) (l:List Int),(∀x∈r,x=0)->cZ k (r++l)=cZ (k+r.length) l:=by
 intro r
 induction r with
 |nil=>intro k l _;rfl
 |cons x r ih=>
  intro k l h;rw[List.cons_append,cZ,if_pos (h x (by simp)),ih (k+1) l (fun y hy=>h y (by simp[hy])),List.length_cons]
  congr 1;omega
theorem WO {l:List Int} (h0:∀x∈l,0<=x):(eY 0 l=l.length->cZ 0 l=dig (eY 0 l))/\(∀x,l[eY 0 l]? =some x->cZ 0 l=dig (eY 0 l)++[x+1]++cZ 0 (l.drop (eY 0 l+1))):=by
 have hz:∀x∈l.take (eY 0 l),x=0:=fun x hx=>by
  have:=yM 0 l x hx;have:=h0 x (List.mem_of_mem_take hx);omega
 have e:=aK6 (l.take (eY 0 l)) 0 (l.drop (eY 0 l)) hz;rw[List.take_append_drop,aX,Nat.min_eq_left (vX 0 l),Nat.zero_add] at e;refine⟨fun hl=>?_,fun x hx=>?_⟩
 ·rw[e,qY (by omega)];rfl
 ·obtain⟨hl,hx'⟩:=eU.1 hx;have:=vY 0 l hx;rw[e,List.drop_eq_getElem_cons hl,hx',cZ,if_neg (by omega)];simp
def aK7 (l:List Int) (b0:Nat) (w:World) (g:Nat) (a:Act) (wr:World):Prop:=
 ∃(rest pre:List Int) (off cap lb:Nat) (n:Int) (u1 u2 u3 u7 u8 u9 u10 u11 u12 u13 u14 u15 u16 u17 u18 u19 u20 u21 u22 u23 u24 u25 u26 u27 u28 u29 u30 u31 u32 u33 u34 u35 u36:Value),
  a={tmps:=#[.slice (some ⟨b0,off,none⟩) rest.length cap,u1,u2,u3,.pointer (some ⟨lb,0,none⟩),.func (.func 137) #[.pointer (some ⟨lb,0,none⟩)] #[],.int .i64 n,u7,u8,u9,u10,u11,u12,u13,u14,u15,u16,u17,u18,u19,u20,u21,u22,u23,u24,u25,u26,u27,u28,u29,u30,u31,u32,u33,u34,u35,u36],defers:=[]}/\
  rest.length<=cap/\cap<=maxLen/\g=rest.length/\qK wr lb pre/\Hid (pre++cZ 0 rest=cZ 0 l)/\pre.length+rest.length<=l.length/\
  w.heap.size<=lb/\Below w.heap.size w wr/\Hid (∀j x,rest[j]? =some x->w.cell? ⟨b0,off+j,none⟩=some (.int .i64 x))/\Hid (∀x∈rest,0<=x/\x<=1000000)
theorem aK8 (v:Value) (l:List Int) (w:World) (hr:RdI w v l) (hne:0<l.length) (hlen:l.length<=100000) (hv:∀x∈l,0<=x/\x<=1000000):
  Calls Tryz.prog 68 #[v] w fun e w'=>∃v',e=.returned (.tuple #[v',.int .i64 0])/\OwI w' w.heap.size v' (cZ 0 l)/\Below w.heap.size w w':=by
 have hb:∀W,Below w.heap.size w W->Calls Tryz.prog 135 #[v] W fun e w'=>e=.returned (.bool false)/\w'=W:=fun W hW=>(JI v l W (hr.below hW)).mono fun e w' ⟨h1,h2⟩=>by
  rw[oN (fun x hx=>decide_eq_false (by have:=hv x hx;omega))] at h1;exact⟨h1,h2⟩
 have hc:∀W,Below w.heap.size w W->Calls Tryz.prog 85 #[v,.func (.func 136) #[] #[]] W fun e w'=>e=.returned (.bool false)/\w'=W:=fun W hW=>
  (uN 136 #[] (fun x=>decide (1099511627776<x)) v l W (hr.below hW) (enters_of Tryz.func136 (by kernel_rfl) rfl) (fun W _ x _=>aF7 x W)).mono fun e w' ⟨h1,h2⟩=>by
  rw[oN (fun x hx=>decide_eq_false (by have:=hv x hx;omega))] at h1;exact⟨h1,h2⟩
 have HB:=hid hb;have HC:=hid hc;clear hb hc;obtain⟨a,ca,rfl,hca,hma,hA⟩:=hr.open;obtain⟨b0,o0,rfl,hb0,hc0⟩:=hA hne;have HV:=hid hv;have HA:=hid hc0;clear hr hA hv hc0;go_enter Tryz.func68,Tryz.ntmps68;go_wp2;refine aDb 0 (aK7 l b0 w) rfl ?_ ?_
 ·rintro g a wr ⟨rest,pre,off,cap,lb,n,u1,u2,u3,u7,u8,u9,u10,u11,u12,u13,u14,u15,u16,u17,u18,u19,u20,u21,u22,u23,u24,u25,u26,u27,u28,u29,u30,u31,u32,u33,u34,u35,u36,rfl,hkc,hcm,hg,hlay,HP,hpl,hlb,hbel,HCL,HR⟩;have HG:=hid hg;have hrd:RdI wr (.slice (some ⟨b0,off,none⟩) rest.length cap) rest:=
   ⟨_,_,rfl,hkc,hcm,.inr ⟨b0,off,rfl,dR hb0 hbel.size,fun j hj=>by
    rw[bJ] at hj;rw[hbel.cell (p:=⟨b0,off+j,none⟩) hb0,HCL.out j _ (aN hj)];simp[fF,hj]⟩⟩
  have HRD:=hid hrd;have hle:=vX 0 rest;obtain⟨m,hm⟩:∃m,m=eY 0 rest:=⟨_,rfl⟩;obtain⟨z1,z2⟩:=WO (l:=rest) (fun x hx=>(HR.out x hx).1);rw[<-hm] at hle z1 z2;have HM:=hid hm;have Z1:=hid z1;have Z2:=hid z2;have hdl:=(CA m).1;unfold maxLen at hcm;clear hg hrd hm z1 z2;go_wp2_with fail;refine(RF _ rest 0 _ HRD.out).mono ?_;rintro e w1 ⟨rfl,h1⟩;rw[<-HM.out];have hlay1:=hlay.below h1;have hB1:=bV hbel h1;clear hlay hbel HRD h1;go_wp2_with fail;refine(aGb m _ (by omega)).mono ?_;rintro e w2 ⟨dv,rfl,hdo,h2⟩;have hlay2:=hlay1.below h2;have hB2:=bV hB1 h2
  have hsrc:=hdo.src;clear hlay1 hB1 hdo h2;go_wp2_with fail;refine(CP lb dv pre (dig m) _ hlay2 hsrc (by omega)).mono ?_;rintro e w3 ⟨rfl,hlay3,h3⟩;have hB3:=hB2.trans (h3.mono hlb);clear hlay2 hB2 hsrc h3
  by_cases hend:m=rest.length
  ·have e1:=hid (show pre++dig m=cZ 0 l by rw[<-HP.out,Z1.out hend]);obtain⟨fv,harr,hown⟩:=hlay3;rw[e1.out] at hown;have c1:=harr.cell (i:=0) rfl;have d1:decide (0<rest.length-m)=false:=decide_eq_false (by omega);have e0:rest.length-m=0:=by omega
   by_cases hcn:cap=m
   all_goals
    go_wp2_with fail;simp only[Exit.jump]
    go_ret2
    exact⟨_,rfl,Ow.base hown (by omega),hB3⟩
  ·have hml:m<rest.length:=by omega
   obtain⟨x,hx⟩:=dH hml;have e1:=hid (Z2.out x hx);have hxb:=HR.out x (cH hx);have c1:w3.cell? ⟨b0,off+m,none⟩=some (.int .i64 x):=by
    rw[hB3.cell (p:=⟨b0,off+m,none⟩) hb0];exact HCL.out m x hx
   have d1:decide (0<rest.length-m)=true:=decide_eq_true (by omega);have d2:0<rest.length-m:=by omega
   have hcn:¬cap=m:=by omega
   have HE:=hid hend;clear hx hend;have hl:=hid (show rest.length-m-1=(rest.drop (m+1)).length by rw[cI];omega);have hnew:=hid (show(pre++dig m++[x+1])++cZ 0 (rest.drop (m+1))=cZ 0 l by rw[<-HP.out,e1.out];simp only[List.append_assoc]);have hpl':=hid (show(pre++dig m++[x+1]).length+(rest.drop (m+1)).length<=l.length by simp only[aL,cI,fK];omega);have hR':Hid (∀x∈rest.drop (m+1),0<=x/\x<=1000000):=hid (fun y hy=>HR.out y (List.mem_of_mem_drop hy))
   by_cases hc1:cap-m=1
   all_goals
    go_wp2_with fail;refine(CP lb _ (pre++dig m) [x+1] _ (hlay3.below ((aB _ _).alloc (aA _) _)) (RG _ _ _) (by simp only[aL,fK];omega)).mono ?_;rintro e w4 ⟨rfl,hlay4,h4⟩;have hB4:=(bD hB3 _).trans (h4.mono hlb);go_wp2_with fail
    go_step3
    rw[hl.out]
   ·refine⟨rfl,(rest.drop (m+1)).length,by rw[HG.out,cI];omega,rest.drop (m+1),_,off+m,0,lb,_,_,_,_,_,_,_,_,_,_,_,_,_,_,_,_,_,_,_,_,_,_,_,_,_,_,_,_,_,_,_,_,_,_,rfl,by rw[cI];omega,by simp[maxLen],rfl,hlay4,hnew,hpl'.out,hlb,hB4,hid (fun j y hy=>?_),hR'⟩;rw[qY (by omega)] at hy;simp at hy
   ·refine⟨rfl,(rest.drop (m+1)).length,by rw[HG.out,cI];omega,rest.drop (m+1),_,off+m+1,cap-m-1,lb,_,_,_,_,_,_,_,_,_,_,_,_,_,_,_,_,_,_,_,_,_,_,_,_,_,_,_,_,_,_,_,_,_,_,rfl,by rw[cI];omega,by unfold maxLen;omega,rfl,hlay4,hnew,hpl'.out,hlb,hB4,hid (fun j y hy=>?_),hR'⟩;have:=RdI.dropS HCL.out (m+1) j y hy;rw[Nat.add_assoc off m 1];exact this
 ·intro hkey;go_wp2_with fail;refine(HB.out _ (aB _ _)).mono ?_;rintro e w1 ⟨rfl,rfl⟩;go_wp2_with fail;refine(HC.out _ (aB _ _)).mono ?_;rintro e w1 ⟨rfl,rfl⟩;go_wp2_with fail
  go_step3
  go_step
  go_step
  exact hkey.out l.length _ _ ⟨l,[],o0,ca,w1.heap.size,0,_,_,_,_,_,_,_,_,_,_,_,_,_,_,_,_,_,_,_,_,_,_,_,_,_,_,_,_,_,_,_,_,_,rfl,hca,hma,rfl,⟨.slice none 0 0,Arr.new w1 _ _,OwI.nil _ _⟩,hid rfl,by simp,aA _,(aB _ _).alloc (aA _) _,HA,HV⟩
theorem aLx (v:Value) (most:Int) (w:World) (hr:RdI w v []) (hm1: -9223372036854775808<=most) (hm2:most<=1000000):
  Calls Tryz.prog 207 #[v,.int .i64 most] w fun e w'=>∃v',e=.returned (.tuple #[v',.int .i64 (nZ [] most)])/\OwI w' w.heap.size v' (oX [] most)/\Below w.heap.size w w':=by
 have hb:Calls Tryz.prog 135 #[v] w fun e w'=>e=.returned (.bool false)/\w'=w:=(JI v [] w hr).mono fun e w' ⟨h1,h2⟩=>by
  rw[oN (fun x hx=>by simp at hx)] at h1;exact⟨h1,h2⟩
 obtain⟨a,ca,rfl,hca,hma,hA⟩:=hr.open;simp only[List.length_nil] at hca hA hb ⊢;go_enter Tryz.func207,Tryz.ntmps207;go_wp2_with fail;refine hb.mono ?_;rintro e w1 ⟨rfl,rfl⟩;go_wp2_with fail
 go_loopg [0,8,9,10] 0 (fun gh s0 _s8 _s9 _s10 wq=>gh=0/\s0=.slice a 0 ca/\wq=w1.alloc (.cells #[.slice none 0 0] 190))
 case atStart=>exact⟨rfl,rfl,rfl⟩
 case round=>
 obtain⟨hg,rfl,rfl⟩:=hrel;have hc:=bS w1 (.slice none 0 0) 190
 by_cases hm:most<0
 ·have t1:decide (most<0)=true:=decide_eq_true hm;have hE:nZ [] most=4:=(rW (by show ¬((([]:List Int).length:Nat):Int)<=most;simp;omega)).2;have hL:oX [] most=[]:=(rW (by show ¬((([]:List Int).length:Nat):Int)<=most;simp;omega)).1;go_wp2_with fail
  go_ret2
  exact⟨.slice none 0 0,by first|(rw[hE];rfl)|rfl,by first|(rw[hL];exact OwI.nil _ _)|exact OwI.nil _ _,(aB _ _).alloc (aA _) _⟩
 ·have t1:decide (most<0)=false:=decide_eq_false hm;have hE:nZ [] most=0:=(wO (by show((([]:List Int).length:Nat):Int)<=most;simp;omega)).2;have hL:oX [] most=[]:=(wO (by show((([]:List Int).length:Nat):Int)<=most;simp;omega)).1;go_wp2_with fail
  go_ret2
  exact⟨.slice none 0 0,by first|(rw[hE];rfl)|rfl,by first|(rw[hL];exact OwI.nil _ _)|exact OwI.nil _ _,(aB _ _).alloc (aA _) _⟩
theorem aLy (v:Value) (m:List Int) (most:Int) (w:World) (hr:RdI w v m) (hlen:m.length<=100000) (hv:∀x∈m,0<=x/\x<=1000000) (hm1: -9223372036854775808<=most) (hm2:most<=1000000):
  Calls Tryz.prog 207 #[v,.int .i64 most] w fun e w'=>∃v',e=.returned (.tuple #[v',.int .i64 (nZ m most)])/\OwI w' w.heap.size v' (oX m most)/\Below w.heap.size w w':=by
 rcases Nat.eq_zero_or_pos m.length with h0|h0
 ·obtain rfl:=List.length_eq_zero_iff.1 h0;exact aLx v most w hr hm1 hm2
 ·exact aLp v m most w hr hlen hv hm1 hm2 h0
theorem wP (a:ByteArray) (o:Int) (y:Value) (_hy:y.oneCell'=true) (w:World) (ha:a.size<=140737488355328):
  Calls Tryz.prog 69 #[.agg #[.string a,.int .i64 o,y]] w fun e w'=>e=.returned (.int .i64 ((a.size:Int)+1))/\Below w.heap.size w w':=by
 have e1:aI.wrap ((a.size:Int)+1)=(a.size:Int)+1:=by rw[aM];omega
 go_enter Tryz.func69,Tryz.ntmps69;go_wp2_with fail;go_ret;exact⟨rfl,(aB _ _).alloc (aA _) _⟩
def oA (s:ByteArray) (o:Nat->Int):List Int:=cZ 0 (cM (bK s.data.toList) (dM s o s.size))++[((bK s.data.toList).length:Int)+1]
theorem EA:(Tryz.prog.info? 50).map (·.size)=some 3:=by kernel_rfl
def cW:ByteArray:={data:=#[]}
theorem rX (s:List UInt8):(bK s).length<=256:=by
 unfold bK jH;rw[bJ];have:=List.length_filter_le (dB s) (dG 256)
 simpa using this
theorem rY {s:ByteArray} (h:0<s.size):s.toList.isEmpty=false:=by
 rw[AW]
 cases e:s.data.toList with
 |nil=>
  have:s.data.toList.length=s.size:=by simp
  rw[e] at this;simp at this;omega
 |cons b l=>rfl
theorem aLz (w:World):
  Calls Tryz.prog 21 #[.string cW] w fun e w'=>e=.returned (.tuple #[.agg #[.string cW,.int .i64 0,.slice none 0 0],.int .i64 1])/\Below w.heap.size w w':=by
 unfold cW;have harr:=Arr.new w 50 [.string {data:=#[]},.int .i64 0,.slice none 0 0];have f0:=harr.cell (i:=0) rfl;have f1:=harr.cell (i:=1) rfl;have f2:=harr.cell (i:=2) rfl;have f3:=harr.free;go_enter Tryz.func21,Tryz.ntmps21;go_wp2_with fail;exact gJ (zI rfl _ _ w.heap.size _ _ (0,0) _ rfl harr Tryz.underlying50 rfl EA) rfl ⟨rfl,(aB _ _).alloc (aA _) _⟩
theorem aL0 (s:ByteArray) (w:World) (h0:0<s.size) (hs:s.size<=65536):
  Calls Tryz.prog 21 #[.string s] w fun e w'=>∃o v,Ord (bX s) s.size s.size o/\e=.returned (.tuple #[.agg #[.string (mkS (bK s.data.toList)),.int .i64 ((fD o s.size:Nat):Int),v],.int .i64 0])/\OwI w' w.heap.size v (oA s o)/\Below w.heap.size w w':=by
 have t0:=rY h0;have t1:decide ((65536:Int)<(s.size:Int))=false:=decide_eq_false (by omega);have t2:decide (65536<s.size)=false:=decide_eq_false (by omega);go_enter Tryz.func21,Tryz.ntmps21;go_wp2_with fail;refine(aG5 s _ (by omega)).mono ?_;rintro e w1 ⟨o,hO,rfl,hb1⟩;have hz1:=hb1.size;obtain⟨n,hn⟩:∃n,n=fD o s.size:=⟨_,rfl⟩;have hnl:=RQ o s.size;rw[<-hn] at hnl ⊢;have HN:=hid hn;clear hn;go_wp2_with fail;refine(KY s _ (by omega)).mono ?_;rintro e w2 ⟨rfl,hb2⟩;obtain⟨A,hA⟩:∃A,A=mkS (bK s.data.toList):=⟨_,rfl⟩
 obtain⟨L,hL⟩:∃L,L=mkS (dM s o s.size):=⟨_,rfl⟩;have hLl:L.data.toList=dM s o s.size:=by rw[hL];rfl
 have hAl:A.data.toList=bK s.data.toList:=by rw[hA];rfl
 have hLs:L.size=s.size:=by rw[hL,cP,sY]
 have hAs:A.size<=256:=by rw[hA,cP];exact rX _
 have hnd:A.data.toList.Nodup:=by rw[hAl];exact BS _
 have hsub:∀b∈L.data.toList,b∈A.data.toList:=fun b hb=>by
  rw[hAl,yC];rw[hLl] at hb;exact(LN s hO).mem_iff.1 hb
 have hml:(cM A.data.toList L.data.toList).length=s.size:=by rw[rH];simp[hLs]
 have hmr:∀x∈cM A.data.toList L.data.toList,0<=x/\x<=1000000:=fun x hx=>by
  have:=vT L.data.toList A.data.toList hsub x hx;have hl:A.data.toList.length=A.size:=by simp
  omega
 have hsym:oA s o=cZ 0 (cM A.data.toList L.data.toList)++[(A.size:Int)+1]:=by
  unfold oA;rw[<-hAl,<-hLl];simp
 have HSYM:=hid hsym;have HA:=hid hA;rw[<-hA,<-hL];have hz2:=hb2.size;have hFR:∀W,Calls Tryz.prog 67 #[.string A,.string L] W fun e w'=>∃v,e=.returned (.tuple #[v,.int .i64 0])/\OwI w' W.heap.size v (cM A.data.toList L.data.toList)/\Below W.heap.size W w':=fun W=>aK3 A L W (by omega) (by omega) hnd hsub
 have HFR:=hid hFR;obtain⟨M,hM⟩:∃M,M=cM A.data.toList L.data.toList:=⟨_,rfl⟩;rw[<-hM] at hml hmr HSYM HFR;have HMR:=hid hmr;clear hFR hnd hsub hL hA hLl hAl hLs hM hmr hsym;go_wp2_with fail;have hz0:w.heap.size+1<=w2.heap.size:=by simp at hz1;omega
 have harr:=Arr.new w 50 [.string {data:=#[]},.int .i64 0,.slice none 0 0];have hq:=Arr.new w2 50 [.string A,.int .i64 (n:Int),.slice none 0 0];have hbq:Below (w.heap.size+1) (w.alloc (.cells #[.string {data:=#[]},.int .i64 0,.slice none 0 0] 50)) (w2.alloc (.cells #[.string A,.int .i64 (n:Int),.slice none 0 0] 50)):=
  ((hb1.mono (by simp)).trans (hb2.mono (by simp at hz1;omega))).alloc hz0 _
 have hzq:(w2.alloc (.cells #[.string A,.int .i64 (n:Int),.slice none 0 0] 50)).heap.size=w2.heap.size+1:=by simp
 change Arr (w2.alloc (.cells #[.string A,.int .i64 (n:Int),.slice none 0 0] 50)) _ _ _ at hq;generalize w2.alloc (.cells #[.string A,.int .i64 (n:Int),.slice none 0 0] 50)=wq at*
 refine(HFR.out wq).mono ?_;rintro e w3 ⟨v3,rfl,hown3,hb3⟩;have hz3:=hb3.size;go_wp2_with fail;refine(aK8 v3 M w3 hown3.rd (by omega) (by omega) HMR.out).mono ?_;rintro e w4 ⟨v4,rfl,hown4,hb4⟩;have hz4:=hb4.size;have hq4:=(hq.below hb3 (by omega)).below hb4 (by omega);have q0:=hq4.cell (i:=0) rfl;have q1:=hq4.cell (i:=1) rfl;have q2:=hq4.cell (i:=2) rfl;have q3:=hq4.free;go_wp2_with fail;refine(wP A (n:Int) (.slice none 0 0) rfl w4 (by omega)).mono ?_;rintro e w5 ⟨rfl,hb5⟩;have hz5:=hb5.size;have hlen:=hid (IT M 0)
 have hown5:=(hown4.below hb5 (aA _)).base (B':=w3.heap.size) (aA _);have hz05:w.heap.size+1<=w5.heap.size:=by omega
 have hz03:w.heap.size+1<=w3.heap.size:=by omega
 have hb05:Below (w.heap.size+1) (w.alloc (.cells #[.string {data:=#[]},.int .i64 0,.slice none 0 0] 50)) w5:=((hbq.trans (hb3.mono (by omega))).trans (hb4.mono (by omega))).trans (hb5.mono (by omega));have ne1:w.heap.size≠w2.heap.size:=by omega
 have ne2:w2.heap.size≠w.heap.size:=by omega
 go_wp2_with (at_builtin;(refine eN rfl _ _ rfl w3.heap.size _ _ rfl (hown5.alloc _) w5.heap.size ((A.size:Int)+1) rfl ?_ ?_ ?_ ?_;(exact bS _ _ _);(have:=hlen.out.1;omega);(simp;omega);intro v6 w6 hown6 hb6 _;obtain⟨a6,c6,e6,_,_,_⟩:=hown6.rd.open;subst e6;have g0:=((hq4.below hb5 (by omega)).alloc _).below hb6 (by omega);have g1:=g0.cell (i:=0) rfl;have g2:=g0.cell (i:=1) rfl;have g3:=g0.cell (i:=2) rfl;have g4:=g0.free;have hz6:=hb6.size;simp only[World.size_alloc] at hz6;have hbE:=(hb05.alloc hz05 _).trans (hb6.mono hz03);have p0:=harr.below hbE (by omega);have p1:=p0.cell (i:=0) rfl;have p2:=p0.cell (i:=1) rfl;have p3:=p0.cell (i:=2) rfl;have p4:=p0.free))
 rw[show(cZ 0 M++[(A.size:Int)+1]).length=(cZ 0 M).length+1 by simp] at hown6;generalize hv:Value.slice a6 ((cZ 0 M).length+1) c6=v6 at*
 have hF:Arr ((((w6.setCell ⟨w2.heap.size,2,none⟩ v6).setCell ⟨w.heap.size,0,none⟩ (.string A)).setCell ⟨w.heap.size,1,none⟩ (.int .i64 (n:Int))).setCell ⟨w.heap.size,2,none⟩ v6) w.heap.size 50 [.string A,.int .i64 (n:Int),v6]:=(((p0.other ⟨w2.heap.size,2,none⟩ ne2 v6).set 0 _).set 1 _).set 2 _;have ho1:=hown6.kept (nK (zH w6 (some w2.heap.size)) 2 v6) (fun b e=>by simp at e;omega);have ho2:=ho1.kept (nK (nK (nK (zH _ (some w.heap.size)) 0 (.string A)) 1 (.int .i64 (n:Int))) 2 v6) (fun b e=>by simp at e;omega)
 have hbF:=((((((aB w.heap.size w).alloc (aA _) _).trans (hbE.mono (by omega))).setCell (p:=⟨w2.heap.size,2,none⟩) (by show w.heap.size<=w2.heap.size;omega) v6).setCell (p:=⟨w.heap.size,0,none⟩) (aA _) (.string A)).setCell (p:=⟨w.heap.size,1,none⟩) (aA _) (.int .i64 (n:Int))).setCell (p:=⟨w.heap.size,2,none⟩) (aA _) v6;refine gJ (zI rfl _ _ w.heap.size _ _ (0,0) _ rfl hF Tryz.underlying50 rfl EA) rfl ⟨o,v6,hO,?_,?_,hbF⟩
 ·rw[<-HA.out,<-HN.out];rfl
 ·rw[HSYM.out];exact ho2.base (by omega)
theorem WV (a:ByteArray) (o:Int) (y:Value) (hy:y.oneCell'=true) (w:World) (ha:a.size<=140737488355328):
  Calls Tryz.prog 30 #[.agg #[.string a,.int .i64 o,y]] w fun e w'=>e=.returned (.int .i64 ((a.size:Int)+2))/\Below w.heap.size w w':=by
 have e1:aI.wrap ((a.size:Int)+1+1)=(a.size:Int)+2:=by rw[aM];omega
 have harr:=Arr.new w 50 [.string a,.int .i64 o,y];have c0:=harr.cell (i:=0) rfl;have c1:=harr.cell (i:=1) rfl;have c2:=harr.cell (i:=2) rfl;have hb:=(aB w.heap.size w).alloc (aA _) (.cells #[.string a,.int .i64 o,y] 50);go_enter Tryz.func30,Tryz.ntmps30;go_wp2_with fail;refine(wP a o y hy _ ha).mono ?_;rintro e w1 ⟨rfl,hb1⟩;go_wp2_with fail;go_ret;exact⟨rfl,hb.trans (hb1.mono hb.size)⟩
theorem WW {a b:ByteArray} (h:a≠b):(a.toList==b.toList)=false:=by
 rw[AW,AW,<-Bool.not_eq_true,beq_iff_eq];exact fun e=>h (by rw[<-pL a,e,pL])
def gW (l:List Int) (e:Int):Prop:=0<l.length/\l[l.length-1]? =some e/\∀x∈l.take (l.length-1),0<=x/\x<e
instance (l:List Int) (e:Int):Decidable (gW l e):=inferInstanceAs (Decidable (0<l.length/\l[l.length-1]? =some e/\∀x∈l.take (l.length-1),0<=x/\x<e))
def cE (l:List Int):List Int:=dA (l.take (l.length-1))
def rest (a:ByteArray) (o:Int) (l:List Int) (most:Int):ByteArray×Int:=
 if ¬(a.data.toList≠[]/\bK a.data.toList=a.data.toList) then(cW,1)
 else if ¬gW l ((a.size:Int)+1) then(cW,3)
 else if ¬((cE l).length:Int)<=most then(cW,4)
 else if ¬(0<=o/\o<((cE l).length:Int)) then(cW,3)
 else(mkS (nF (unL a.data.toList (cE l)) o.toNat),0)
theorem wQ {a:ByteArray} {o:Int} {l:List Int} {most:Int} (h:¬(a.data.toList≠[]/\bK a.data.toList=a.data.toList)):rest a o l most=(cW,1):=if_pos h
theorem zK {a:ByteArray} {o:Int} {l:List Int} {most:Int} (h:a.data.toList≠[]/\bK a.data.toList=a.data.toList) (h2:¬gW l ((a.size:Int)+1)):rest a o l most=(cW,3):=by
 unfold rest;rw[if_neg (fun k=>k h),if_pos h2]
theorem zL {a:ByteArray} {o:Int} {l:List Int} {most:Int} (h:a.data.toList≠[]/\bK a.data.toList=a.data.toList) (h2:gW l ((a.size:Int)+1)) (h3:¬((cE l).length:Int)<=most):rest a o l most=(cW,4):=by
 unfold rest;rw[if_neg (fun k=>k h),if_neg (fun k=>k h2),if_pos h3]
theorem zM {a:ByteArray} {o:Int} {l:List Int} {most:Int} (h:a.data.toList≠[]/\bK a.data.toList=a.data.toList) (h2:gW l ((a.size:Int)+1)) (h3:((cE l).length:Int)<=most) (h4:¬(0<=o/\o<((cE l).length:Int))):rest a o l most=(cW,3):=by
 unfold rest;rw[if_neg (fun k=>k h),if_neg (fun k=>k h2),if_neg (fun k=>k h3),if_pos h4]
theorem wR {a:ByteArray} {o:Int} {l:List Int} {most:Int} (h:a.data.toList≠[]/\bK a.data.toList=a.data.toList) (h2:gW l ((a.size:Int)+1)) (h3:((cE l).length:Int)<=most) (h4:0<=o/\o<((cE l).length:Int)):rest a o l most=(mkS (nF (unL a.data.toList (cE l)) o.toNat),0):=by
 unfold rest;rw[if_neg (fun k=>k h),if_neg (fun k=>k h2),if_neg (fun k=>k h3),if_neg (fun k=>k h4)]
theorem aMd:∀(m:List Int) (n p:Nat),∀y∈zx n p m,y=0\/∃x∈m,2<=x/\y=x-1:=by
 intro m
 induction m with
 |nil=>intro n p y hy;exact .inl (aCo hy)
 |cons x m ih=>
  intro n p y hy;unfold zx at hy
  by_cases h:x<2
  ·rw[if_pos h] at hy;rcases ih _ _ y hy with q|⟨z,hz,q⟩
   ·exact .inl q
   ·exact .inr ⟨z,jD _ hz,q⟩
  ·rw[if_neg h,cU,List.mem_cons] at hy;rcases hy with hy|rfl|hy
   ·exact .inl (aCo hy)
   ·exact .inr ⟨x,by simp,by omega,rfl⟩
   ·rcases ih _ _ y hy with q|⟨z,hz,q⟩
    ·exact .inl q
    ·exact .inr ⟨z,jD _ hz,q⟩
theorem LQ {l:List Int} {n:Nat} (h:gW l ((n:Int)+1)) (hn:0<n):∀y∈cE l,0<=y/\y<(n:Int):=fun y hy=>by
 rcases aMd _ _ _ y hy with q|⟨x,hx,h2,q⟩
 ·omega
 ·have:=h.2.2 x hx;omega
theorem WZ {w:World} {ad:Option Addr} {n ca:Nat} {l:List Int} (h:RdI w (.slice ad n ca) l) (h0:0<l.length):∃b off,ad=some ⟨b,off,none⟩/\b<w.heap.size/\∀j x,l[j]? =some x->w.cell? ⟨b,off+j,none⟩=some (.int .i64 x):=by
 obtain⟨a,c,e,_,_,hA⟩:=h.open;obtain⟨b,off,rfl,q⟩:=hA h0;exact⟨b,off,by injection e,q⟩
theorem EB {w:World} {b off ca:Nat} {l:List Int} (hb:b<w.heap.size) (hc:∀j x,l[j]? =some x->w.cell? ⟨b,off+j,none⟩=some (.int .i64 x)) (k:Nat) (hk:k<=l.length) (hca:l.length<=ca) (hma:ca<=maxLen):RdI w (.slice (some ⟨b,off,none⟩) k ca) (l.take k):=by
 have hl:(l.take k).length=k:=by rw[aX];omega
 refine⟨_,_,by rw[hl],by rw[hl];omega,hma,.inr ⟨b,off,rfl,hb,fun j hj=>?_⟩⟩;rw[bJ] at hj;have hj':j<l.length:=by omega
 rw[hc j _ (aN hj')];simp[fF,hj',show j<k by omega]
theorem vA {s:ByteArray} (h:s.data.toList=[]):s.toList.isEmpty=true:=by
 rw[AW,h];rfl
theorem LR {s:ByteArray} (h:s.data.toList≠[]):s.toList.isEmpty=false:=by
 rw[AW]
 cases e:s.data.toList with
 |nil=>exact absurd e h
 |cons b l=>rfl
theorem XF {W w w':World} {wb:Nat} {x:Value} (h:w.cell? ⟨wb,0,none⟩=some x/\Below W.heap.size W w) (hl:wb<W.heap.size) (hb:Below w.heap.size w w'):w'.cell? ⟨wb,0,none⟩=some x/\Below W.heap.size W w':=
 ⟨by rw[hb.cell (p:=⟨wb,0,none⟩) (dR hl h.2.size)];exact h.1,h.2.trans (hb.mono h.2.size)⟩
theorem XG {w:World} {wb:Nat} {x:Value} (h:w.cell? ⟨wb,0,none⟩=some x):w.drew.cell? ⟨wb,0,none⟩=some x/\Below w.heap.size w w.drew:=⟨h,(aB _ _).drew⟩
theorem aMi (wb:Nat) (a:ByteArray) (o most:Int) (v lv:Value) (b:ByteArray) (w:World) (ha:a.size<=140737488355328) (harr:Arr w wb 213 [.string a,.int .i64 o,v,.int .i64 most,lv,.string b]):
  Calls Tryz.prog 167 #[.pointer (some ⟨wb,0,none⟩)] w fun e w'=>e=.returned (.int .i64 (if a.data.toList≠[]/\bK a.data.toList=a.data.toList then 0 else 1))/\Below w.heap.size w w':=by
 have c0:=harr.cell (i:=0) rfl;have hlt:=harr.lt
 by_cases hne:a.data.toList=[]
 ·have t1:=vA hne;rw[if_neg (fun h=>h.1 hne)];go_enter Tryz.func167,Tryz.ntmps167;go_wp2_with fail
  go_quiet (fail)
  go_wp2_with fail;go_ret;exact⟨rfl,iI (aB _ _) _⟩
 have t1:=LR hne
 by_cases hal:bK a.data.toList=a.data.toList
 ·rw[if_pos ⟨hne,hal⟩];have t2:(a.toList==a.toList)=true:=by simp
  have HAL:=hid hal;clear hal;go_enter Tryz.func167,Tryz.ntmps167;go_upto_region 1 with fail
  go_cut [22] (fun s22 wx=>s22=.bool false/\Below w.heap.size w wx)
  case first=>
   go_region_held3 (fun w'=>w'.cell? ⟨wb,0,none⟩=some (.string a)/\Below w.heap.size w w')
    (first
     |with_reducible assumption
     |with_reducible exact XG c0
     |with_reducible exact XF (by assumption) hlt (by assumption))
    (first
     |(go_at_call 66;refine(KY a _ ha).mono ?_;rintro e w1 ⟨rfl,hb⟩;rw[HAL.out,pL]))
   all_goals go_wp2_with fail
   all_goals go_meet
   all_goals exact⟨rfl,And.right (show w1.cell? ⟨wb,0,none⟩=some (.string a)/\Below w.heap.size w w1 by assumption)⟩
  case rest=>
   obtain⟨rfl,hbx⟩:=hcut;go_wp2_with fail;go_ret;exact⟨rfl,hbx⟩
 ·rw[if_neg (fun h=>hal h.2)];have t2:((mkS (bK a.data.toList)).toList==a.toList)=false:=WW (fun e=>hal (by have:=congrArg (fun s=>s.data.toList) e;simpa using this));go_enter Tryz.func167,Tryz.ntmps167;go_upto_region 1 with fail
  go_cut [22] (fun s22 wx=>s22=.bool true/\Below w.heap.size w wx)
  case first=>
   go_region_held3 (fun w'=>w'.cell? ⟨wb,0,none⟩=some (.string a)/\Below w.heap.size w w')
    (first
     |with_reducible assumption
     |with_reducible exact XG c0
     |with_reducible exact XF (by assumption) hlt (by assumption))
    (first
     |(go_at_call 66;refine(KY a _ ha).mono ?_;rintro e w1 ⟨rfl,hb⟩))
   all_goals go_wp2_with fail
   all_goals go_meet
   all_goals exact⟨rfl,And.right (show w1.cell? ⟨wb,0,none⟩=some (.string a)/\Below w.heap.size w w1 by assumption)⟩
  case rest=>
   obtain⟨rfl,hbx⟩:=hcut;go_wp2_with fail;go_ret;exact⟨rfl,hbx⟩
end
section
open Go.RowKit Go Go.Shelf
theorem EQ {l:List Int} {k:Nat} {x y:Int} (h:l[k]? =some x) (hy:y∈l.take (k+1)):y∈l.take k\/y=x:=by
 rw[List.take_add_one,h] at hy;rcases cU.1 hy with hy|hy
 ·exact .inl hy
 ·simp at hy;exact .inr hy
theorem aPa (v:Value) (l:List Int) (w:World) (hr:RdI w v l) (h1:1<=l.length):
  Calls Tryz.prog 196 #[v] w fun e w'=>∃m,e=.returned (.int .i64 m)/\m∈l/\(∀x∈l,m<=x)/\w'=w:=by
 obtain⟨a,ca,rfl,hca,hma,hA⟩:=hr.open;unfold maxLen at hma;clear hr;obtain⟨b1,o1,rfl,hb1,hc1⟩:=hA (by omega);obtain⟨x0,hx0⟩:=dH h1;have c0:=hc1 0 x0 hx0;rw[pH] at c0;have HX0:=hid hx0;have t0:decide ((l.length:Int)<1)=false:=decide_eq_false (by omega);have t0':(0:Int)<(l.length:Int):=by omega
 have t0'':0<l.length:=by omega
 clear hx0 hA;go_enter Tryz.func196,Tryz.ntmps196;go_wp2_with fail
 go_loopg [3,4] (l.length-1) (fun g s3 s4 wr=>∃(k:Nat) (M:Int),1<=k/\k<=l.length/\g=l.length-k/\s4=.int .i64 (k:Int)/\s3=.int .i64 M/\Hid (M∈l/\∀x∈l.take k,M<=x)/\wr=w)
 case atStart=>exact⟨1,x0,by omega,h1,rfl,rfl,rfl,hid ⟨cH HX0.out,fun y hy=>by
  rcases EQ (k:=0) HX0.out hy with q|q
  ·simp at q
  ·omega⟩,rfl⟩
 case round=>
  obtain⟨k,M,hk1,hk,hg,rfl,rfl,HM,rfl⟩:=hrel;have HG:=hid hg;clear hg
  by_cases hlt:k<l.length
  ·have t1:decide ((k:Int)<(l.length:Int))=true:=decide_eq_true (by omega);obtain⟨x,hx⟩:=dH hlt;have c1:=hc1 k x hx;have HX:=hid hx;clear hc1 hx;go_wp2_with fail;have hg:=HG.out
   go_roundg (l.length-(k+1))
   case measure=>omega
   case rel=>exact⟨k+1,min M x,by omega,by omega,rfl,by go_num,rfl,hid ⟨by
    rcases Int.min_def M x▸(by split<;>simp:(if M<=x then M else x)=M\/(if M<=x then M else x)=x) with q|q
    ·rw[q];exact HM.out.1
    ·rw[q];exact cH HX.out,fun y hy=>by
    rcases EQ HX.out hy with q|q
    ·have:=HM.out.2 y q;omega
    ·omega⟩,rfl⟩
  ·have t1:decide ((k:Int)<(l.length:Int))=false:=decide_eq_false (by omega);have HF:=hid (show ∀x∈l,M<=x from fun x hx=>HM.out.2 x (by rw[cS (by omega)];exact hx));go_wp2_with fail;go_ret;exact⟨M,rfl,HM.out.1,HF.out,rfl⟩
theorem ZH (v:Value) (l:List Int) (w:World) (hr:RdI w v l) (h1:1<=l.length):
  Calls Tryz.prog 147 #[v] w fun e w'=>∃m,e=.returned (.int .i64 m)/\m∈l/\(∀x∈l,x<=m)/\w'=w:=by
 obtain⟨a,ca,rfl,hca,hma,hA⟩:=hr.open;unfold maxLen at hma;clear hr;obtain⟨b1,o1,rfl,hb1,hc1⟩:=hA (by omega);obtain⟨x0,hx0⟩:=dH h1;have c0:=hc1 0 x0 hx0;rw[pH] at c0;have HX0:=hid hx0;have t0:decide ((l.length:Int)<1)=false:=decide_eq_false (by omega);have t0':(0:Int)<(l.length:Int):=by omega
 have t0'':0<l.length:=by omega
 clear hx0 hA;go_enter Tryz.func147,Tryz.ntmps147;go_wp2_with fail
 go_loopg [3,4] (l.length-1) (fun g s3 s4 wr=>∃(k:Nat) (M:Int),1<=k/\k<=l.length/\g=l.length-k/\s4=.int .i64 (k:Int)/\s3=.int .i64 M/\Hid (M∈l/\∀x∈l.take k,x<=M)/\wr=w)
 case atStart=>exact⟨1,x0,by omega,h1,rfl,rfl,rfl,hid ⟨cH HX0.out,fun y hy=>by
  rcases EQ (k:=0) HX0.out hy with q|q
  ·simp at q
  ·omega⟩,rfl⟩
 case round=>
  obtain⟨k,M,hk1,hk,hg,rfl,rfl,HM,rfl⟩:=hrel;have HG:=hid hg;clear hg
  by_cases hlt:k<l.length
  ·have t1:decide ((k:Int)<(l.length:Int))=true:=decide_eq_true (by omega);obtain⟨x,hx⟩:=dH hlt;have c1:=hc1 k x hx;have HX:=hid hx;clear hc1 hx;go_wp2_with fail;have hg:=HG.out
   go_roundg (l.length-(k+1))
   case measure=>omega
   case rel=>exact⟨k+1,max M x,by omega,by omega,rfl,by go_num,rfl,hid ⟨by
    rcases Int.max_def M x▸(by split<;>simp:(if M<=x then x else M)=M\/(if M<=x then x else M)=x) with q|q
    ·rw[q];exact HM.out.1
    ·rw[q];exact cH HX.out,fun y hy=>by
    rcases EQ HX.out hy with q|q
    ·have:=HM.out.2 y q;omega
    ·omega⟩,rfl⟩
  ·have t1:decide ((k:Int)<(l.length:Int))=false:=decide_eq_false (by omega);have HF:=hid (show ∀x∈l,x<=M from fun x hx=>HM.out.2 x (by rw[cS (by omega)];exact hx));go_wp2_with fail;go_ret;exact⟨M,rfl,HM.out.1,HF.out,rfl⟩
theorem aPb (n:Nat) (f:Nat->Int):(tab n f).toArray.size=n:=by simp[tab]
theorem ZI (f:Nat->Int):(Tryz.prog.info? 243).map (·.size)=some (tab 21 f).toArray.size:=by rw[aPb];kernel_rfl
theorem MI:Tryz.prog.underlying 243=some (.array 21 3):=by kernel_rfl
theorem aPc {w:World} {b:Nat} {e:TypeId} {l:List Value} (n:Nat) (h:Arr w b e l) (hl:l.length=n) (f:Nat->Int):
  (storeCells ⟨b,0,none⟩ (tab n f)).run Tryz.prog w=.ok () (w.setRow b (tab n f).toArray):=by
 have h1:(tab n f).length=n:=by simp[tab]
 have h2:=aCr (P:=Tryz.prog) b e (tab n f) 0 l.toArray w h (by simp[hl,h1]) (fun v hv=>by obtain⟨c,_,rfl⟩:=dU.1 hv;rfl);rw[h2]
 congr 2
theorem aPd (f:Nat->Int) (k:Nat) (hk:k<21) (w:World):(tV 243 (.agg (tab 21 f).toArray) (.int .i64 (k:Int))).run Tryz.prog w=.ok (.int .i64 (f k)) w:=by
 have h:(tab 21 f)[k]? =some (.int .i64 (f k)):=iS 21 f k hk;have hk2:(k:Int)<21:=by omega
 simp[tV,sI MI,asIntOf,hk,part,isAgg,sI Tryz.underlying3,h,Result.andThen]
theorem aPe (v:Value) (l:List Int) (w:World) (hr:RdI w v l) (hl:∀x∈l,1<=x/\x<=20) (hn:l.length<=258):
  Calls Tryz.prog 197 #[v] w fun e w'=>e=.returned (.agg (tab 21 (fun n=>(bU l n:Int))).toArray)/\Below w.heap.size w w':=by
 obtain⟨a,ca,rfl,hca,hma,hA⟩:=hr.open;unfold maxLen at hma;clear hr;have HL:=hid hl;clear hl;go_enter Tryz.func197,Tryz.ntmps197;go_wp2_with fail
 go_loopg [4,7] l.length (fun g _s4 s7 wr=>∃k:Nat,k<=l.length/\g=l.length-k/\s7=.int .i64 (k:Int)/\Arr wr w.heap.size 243 (tab 21 (fun n=>(bU (l.take k) n:Int)))/\Below w.heap.size w wr)
 case atStart=>
  refine⟨0,aU _,rfl,rfl,?_,(aB _ _).alloc (aA _) _⟩;exact Arr.new w _ (tab 21 (fun _=>0))
 case round=>
  obtain⟨k,hk,hg,rfl,harr,hbel⟩:=hrel;have HG:=hid hg;clear hg
  by_cases hlt:k<l.length
  ·have t1:decide ((k:Int)<(l.length:Int))=true:=decide_eq_true (by omega);obtain⟨b1,o1,rfl,hb1,hc1⟩:=hA (by omega);obtain⟨x,hx⟩:=dH hlt;have c1:=((lP hbel).1 b1 (o1+k) hb1).trans (hc1 k _ hx);have hxb:=HL.out x (cH hx);obtain⟨y,rfl⟩:∃y:Nat,x=(y:Int):=⟨x.toNat,by omega⟩;have hy:y<21:=by omega
   have hy':(y:Int)<21:=by omega
   have d1:=harr.cell (iS 21 _ y hy);have f1:=harr.free y;have hS:=fun n=>BN hlt n
   have hgD:l.getD k 0=(y:Int):=by rw[List.getD_eq_getElem?_getD,hx];rfl
   rw[hgD] at hS;have hcb:bU (l.take k) y<=258:=by unfold bU;exact aW xR (by rw[aX];omega)
   obtain⟨C,hC⟩:∃C,C=bU (l.take k) y:=⟨_,rfl⟩;rw[<-hC] at d1 hcb;have m1:aI.wrap ((C:Int)+1)=(C:Int)+1:=by rw[aM];omega
   have HT:=hid (qD 21 (fun n=>(bU (l.take k) n:Int)) (fun n=>(bU (l.take (k+1)) n:Int)) y ((C:Int)+1) (fun d hd=>by
    show((bU (l.take (k+1)) d:Nat):Int)=_;rw[hS d]
    by_cases e:d=y
    ·subst e;rw[if_pos (by simp),if_pos rfl,<-hC];omega
    ·rw[if_neg (by simp;omega),if_neg e];omega))
   clear hC hS hgD hx hc1 hA hxb;go_wp2_with fail;have hg:=HG.out
   go_roundg (l.length-(k+1))
   case measure=>omega
   case rel=>
    refine⟨k+1,by omega,rfl,by go_num,?_,hbel.setCell (p:=⟨w.heap.size,y,none⟩) (aA _) _⟩;rw[<-HT.out];exact harr.set y _
  ·have t1:decide ((k:Int)<(l.length:Int))=false:=decide_eq_false (by omega);have hke:k=l.length:=by omega
   subst hke;rw[List.take_length] at harr;have hst:=aPc 21 harr (by simp[tab]) (fun n=>(bU l n:Int));go_upto_region 6 with fail;go_wp2_with (refine wpList_load_row rfl 243 (.tmp 2) rfl w.heap.size rfl _ _ (0,0) (.array 21 3) harr MI rfl (ZI _) ?_);have harr2:Arr (wr.setRow w.heap.size (tab 21 (fun n=>(bU l n:Int))).toArray) w.heap.size 243 (tab 21 (fun n=>(bU l n:Int))):=GR wr w.heap.size _ _ 243 (0,0) harr;refine gJ (tR rfl _ _ w.heap.size _ _ (0,0) (.array 21 3) rfl harr2 MI rfl (ZI _)) rfl ?_
   exact⟨rfl,zB hbel _ (aA _) _⟩
def MJ (l:List Int):Nat->Int
 |0=>1
 |n+1=>pN l n
theorem aPf (l:List Int) (k:Nat):pN l k=(if k=0 then MJ l k else 2*MJ l k)-(bU l k:Int):=by
 cases k with
 |zero=>rfl
 |succ k=>rfl
theorem zS (v:Value) (l:List Int) (w:World) (hr:RdI w v l):
  Calls Tryz.prog 148 #[v] w fun e w'=>e=.returned (.int .i64 (bL l))/\Below w.heap.size w w':=by
 have hr0:=hr;obtain⟨a,ca,rfl,hca,hma,hA⟩:=hr.open;unfold maxLen at hma;clear hr hA
 by_cases h2:2<=l.length/\l.length<=258
 rotate_left
 ·have HC:=hid (ST h2)
  by_cases h3:l.length<2
  ·have t1:decide ((l.length:Int)<2)=true:=decide_eq_true (by omega);go_enter Tryz.func148,Tryz.ntmps148;go_wp2_with fail;go_ret;exact⟨by rw[HC.out];rfl,aB _ _⟩
  ·have t1:decide ((l.length:Int)<2)=false:=decide_eq_false (by omega);have t2:decide ((l.length:Int)>258)=true:=decide_eq_true (by omega);have t3:decide ((258:Int)<(l.length:Int))=true:=decide_eq_true (by omega);go_enter Tryz.func148,Tryz.ntmps148;go_wp2_with fail;go_ret;exact⟨by rw[HC.out];rfl,aB _ _⟩
 ·have t1:decide ((l.length:Int)<2)=false:=decide_eq_false (by omega);have t2:decide ((l.length:Int)>258)=false:=decide_eq_false (by omega);have t3:decide ((258:Int)<(l.length:Int))=false:=decide_eq_false (by omega);have hmin:=aPa _ l w hr0 (by omega);have hmax:=ZH _ l w hr0 (by omega);have hcnt:=aPe _ l w hr0;clear hr0;go_enter Tryz.func148,Tryz.ntmps148;go_wp2_with fail;refine hmin.mono ?_;rintro e w1 ⟨m,rfl,hm1,hm2,rfl⟩
  by_cases hm:m<1
  ·have u1:decide (m<1)=true:=decide_eq_true hm;obtain⟨k,hk⟩:=List.getElem?_of_mem hm1;have HC:=hid (DG hk (by omega));clear hk hm2 hcnt hmax hmin;go_wp2_with fail;go_ret;exact⟨by rw[HC.out];rfl,aB _ _⟩
  ·have u1:decide (m<1)=false:=decide_eq_false hm;have HM:=hid hm2;clear hm2 hmin hm1;go_wp2_with fail;refine hmax.mono ?_;rintro e w2 ⟨x,rfl,hx1,hx2,rfl⟩
   by_cases hx:20<x
   ·have u2:decide (x>20)=true:=decide_eq_true hx;have u3:decide (20<x)=true:=decide_eq_true hx;obtain⟨k,hk⟩:=List.getElem?_of_mem hx1;have HC:=hid (DG hk (by omega));clear hk hx2 hcnt hmax;go_wp2_with fail;go_ret;exact⟨by rw[HC.out];rfl,aB _ _⟩
   ·have u2:decide (x>20)=false:=decide_eq_false hx;have u3:decide (20<x)=false:=decide_eq_false hx;have hall:∀y∈l,1<=y/\y<=20:=fun y hy=>by
     have:=HM.out y hy;have:=hx2 y hy;omega
    have HALL:=hid hall;have HC:=hid (SU ⟨h2.1,h2.2,hall⟩);have hcnt:=hcnt hall h2.2;have HOV:=hid (fun n (hn:n<=20)=>aDn hall hn);have HFI:=hid (aDo hall);have HBD:=hid (fun n=>aDp (l:=l) (n:=n) (fun y hy=>(hall y hy).1));clear hall hx2 HM hmax;go_wp2_with fail;refine hcnt.mono ?_;rintro e w3 ⟨rfl,hb3⟩;go_wp2_with fail
    go_loopg [3,4,5,26] 21 (fun g s3 _s4 _s5 s26 wr=>∃(k:Nat) (X:Int),k<=21/\g=21-k/\s26=.int .i64 (k:Int)/\s3=.int .i64 X/\Hid (X=MJ l k)/\Hid (∀n,n<k->0<=pN l n)/\wr=w3)
    case atStart=>exact⟨0,1,by omega,rfl,rfl,rfl,hid rfl,hid (fun n hn=>by omega),rfl⟩
    case round=>
     obtain⟨k,X,hk,hg,rfl,rfl,HX,HN,rfl⟩:=hrel;have HG:=hid hg;clear hg
     by_cases hlt:k<21
     ·have v1:decide ((k:Int)<21)=true:=decide_eq_true (by omega);have ix:=aPd (fun n=>(bU l n:Int)) k hlt wr;have hcb:bU l k<=258:=by unfold bU;exact aW xR h2.2
      have hB:0<=X/\X<=1048576:=by
       rw[HX.out]
       cases k with
       |zero=>exact⟨show(0:Int)<=1 by decide,show(1:Int)<=1048576 by decide⟩
       |succ k=>
        refine⟨HN.out k (by omega),Int.le_trans (HBD.out k) ?_⟩;have:(2:Nat)^k<=2^20:=Nat.pow_le_pow_right (by decide) (by omega);have e:(2:Nat)^20=1048576:=by decide
        have:(((2:Nat)^k:Nat):Int)<=1048576:=by omega
        simpa using this
      have hY:=aPf l k;rw[<-HX.out] at hY;have hov:=HOV.out k (by omega);obtain⟨Y,hYe⟩:∃Y,Y=pN l k:=⟨_,rfl⟩;obtain⟨C,hCe⟩:∃C,C=bU l k:=⟨_,rfl⟩;rw[<-hYe] at hY hov;simp only[<-hCe] at ix;rw[<-hCe] at hY hcb;have HY:=hid hYe;clear hYe hCe
      by_cases hk0:k=0
      ·subst hk0;rw[if_pos rfl] at hY;rw[show((0:Nat):Int)=0 from rfl] at ix;have v2:decide ((0:Int)>0)=false:=by decide
       have v3:decide (((0:Nat):Int)>0)=false:=by decide
       have m4:X-(C:Int)=Y:=by omega
       have m5:aI.wrap Y=Y:=by rw[aM];omega
       by_cases hY0:Y<0
       ·have w1:decide (Y<0)=true:=decide_eq_true hY0;have HC2:=hid (show bL l=6 by rw[HC.out,if_pos (hov hY0)]);clear hov hY hB hcb;go_wp2_with fail;go_ret;exact⟨by rw[HC2.out];rfl,hb3⟩
       ·have w1:decide (Y<0)=false:=decide_eq_false hY0;clear hov hY hB hcb;go_wp2_with fail;have hg:=HG.out
        go_roundg (21-(0+1))
        case measure=>omega
        case rel=>exact⟨0+1,Y,by omega,rfl,by go_num,rfl,HY,hid (fun n hn=>by
         rcases bT n 0 with h|h
         ·exact HN.out n h
         ·rw[show n=0 by omega,<-HY.out];omega),rfl⟩
      ·rw[if_neg hk0] at hY;have v2:decide ((k:Int)>0)=true:=decide_eq_true (by omega);have v3:decide (0<k)=true:=decide_eq_true (by omega);have v4:0<k:=by omega
       obtain⟨D,hD⟩:∃D,D=2*X:=⟨_,rfl⟩;have m1:aI.wrap (X*2)=D:=by rw[aM];omega
       have m2:X*2=D:=by omega
       have m3:aI.wrap D=D:=by rw[aM];omega
       rw[<-hD] at hY;have m4:D-(C:Int)=Y:=by omega
       have m5:aI.wrap Y=Y:=by rw[aM];omega
       by_cases hY0:Y<0
       ·have w1:decide (Y<0)=true:=decide_eq_true hY0;have HC2:=hid (show bL l=6 by rw[HC.out,if_pos (hov hY0)]);clear hov hY hB hcb hD;go_wp2_with fail;go_ret;exact⟨by rw[HC2.out];rfl,hb3⟩
       ·have w1:decide (Y<0)=false:=decide_eq_false hY0;clear hov hY hB hcb hD;go_wp2_with fail;have hg:=HG.out
        go_roundg (21-(k+1))
        case measure=>omega
        case rel=>exact⟨k+1,Y,by omega,rfl,by go_num,rfl,HY,hid (fun n hn=>by
         rcases bT n k with h|h
         ·exact HN.out n h
         ·rw[show n=k by omega,<-HY.out];omega),rfl⟩
     ·have v1:decide ((k:Int)<21)=false:=decide_eq_false (by omega);have HC2:=hid (show bL l=0 by rw[HC.out,if_neg (by have:=HFI.out (fun n hn=>HN.out n (by omega));omega)]);go_wp2_with fail;go_ret;exact⟨by rw[HC2.out];rfl,hb3⟩
theorem aQy (k:Nat) (x:BitVec 32):jL (k+1) x=if(jL k x).msb then(jL k x)<<<1^^^79764919#32 else(jL k x)<<<1:=rfl
theorem aAr (a:BitVec 32):bits .xor .u32 rA.max (a.toNat:Int)=((~~~ a).toNat:Int):=by
 have h:=DW (0xffffffff#32) a;have e:(((0xffffffff#32:BitVec 32).toNat:Nat):Int)=rA.max:=by decide
 rw[e] at h;rw[h];have:(0xffffffff#32)^^^a= ~~~ a:=by
  have:=BitVec.allOnes_xor (x:=a);exact this
 rw[this]
theorem aQz (i:Nat) (hi:i<256) (w:World):
  Calls Tryz.prog 131 #[.int .i64 (i:Int)] w fun e w'=>e=.returned (.int .u32 ((kN i).toNat:Int))/\w'=w:=by
 have e0:=aKo i hi;have m0:rA.wrap (i:Int)=(i:Int):=by rw[vP];omega
 have m0':(i:Int)%4294967296=(i:Int):=by omega
 obtain⟨x0,hx0⟩:∃x0,x0=BitVec.ofNat 32 i<<<24:=⟨_,rfl⟩;obtain⟨X0,hX0⟩:∃X0,X0=x0.toNat:=⟨_,rfl⟩;rw[<-hx0,<-hX0] at e0;have e0':(i:Int)*16777216%4294967296=(X0:Int):=by rw[<-e0,vP]
 have HT:=hid (show kN i=jL 8 x0 by rw[hx0];rfl);have HX0:=hid hX0;clear hX0 hx0;go_enter Tryz.func131,Tryz.ntmps131;go_wp2_with fail
 go_loopg [3,7] 8 (fun g s3 s7 wr=>∃j X:Nat,j<=8/\g=8-j/\s7=.int .i64 (j:Int)/\s3=.int .u32 (X:Int)/\Hid (X=(jL j x0).toNat)/\wr=w)
 case atStart=>exact⟨0,X0,by omega,rfl,rfl,rfl,HX0,rfl⟩
 case round=>
  obtain⟨j,X,hj,hg,rfl,rfl,HX,rfl⟩:=hrel;have HG:=hid hg;clear hg e0 e0' m0 m0'
  by_cases hlt:j<8
  ·have t1:decide ((j:Int)<8)=true:=decide_eq_true (by omega);obtain⟨x,hx⟩:∃x,x=jL j x0:=⟨_,rfl⟩;have hX:=HX.out;rw[<-hx] at hX;have hsucc:=aQy j x0;rw[<-hx] at hsucc;have e1:=aKq x;have e2:=WC x;obtain⟨y,hy⟩:∃y,y=x<<<1:=⟨_,rfl⟩;obtain⟨Y,hY⟩:∃Y,Y=y.toNat:=⟨_,rfl⟩;have e3:=WE y;obtain⟨z,hz⟩:∃z,z=y^^^79764919#32:=⟨_,rfl⟩;obtain⟨Z,hZ⟩:∃Z,Z=z.toNat:=⟨_,rfl⟩;rw[<-hX] at e1;rw[<-hX,<-hy,<-hY] at e2;rw[<-hY,<-hz,<-hZ] at e3;rw[<-hy,<-hz] at hsucc;have e2':(X:Int)*2%4294967296=(Y:Int):=by rw[<-e2,vP]
   have HY:=hid hY;have HZ:=hid hZ
   by_cases hm:x.msb=true
   ·rw[if_pos hm] at e1;rw[if_pos hm] at hsucc;have HS:=hid hsucc;clear hx hX hy hY hz hZ hsucc hm;go_wp2_with fail;have hg:=HG.out
    go_roundg (8-(j+1))
    case measure=>omega
    case rel=>exact⟨j+1,Z,by omega,rfl,by go_num,rfl,hid (by rw[HS.out];exact HZ.out),rfl⟩
   ·rw[if_neg hm] at e1;rw[if_neg hm] at hsucc;have HS:=hid hsucc;clear hx hX hy hY hz hZ hsucc hm e3;go_wp2_with fail;have hg:=HG.out
    go_roundg (8-(j+1))
    case measure=>omega
    case rel=>exact⟨j+1,Y,by omega,rfl,by go_num,rfl,hid (by rw[HS.out];exact HY.out),rfl⟩
  ·have t1:decide ((j:Int)<8)=false:=decide_eq_false (by omega);have ej:j=8:=by omega
   subst ej;go_wp2_with fail;go_ret;exact⟨fX (by rw[HT.out,<-HX.out]),rfl⟩
def fT (f:Nat->Nat):List Value:=(dG 256).map fun c=>.int .u32 (f c:Int)
theorem EZ (f:Nat->Nat) (c:Nat) (h:c<256):(fT f)[c]? =some (.int .u32 (f c:Int)):=by simp[fT,h]
theorem aQ0 (f f':Nat->Nat) (c:Nat) (v:Nat) (h:∀d,f' d=if d=c then v else f d):(fT f).set c (.int .u32 (v:Int))=fT f':=by
 apply List.ext_getElem?;intro j
 by_cases hj:j<256
 ·by_cases e:c=j
  ·subst e;simp[fT,hj,h]
  ·rw[List.getElem?_set_ne e,EZ f j hj,EZ f' j hj,h,if_neg (fun h=>e h.symm)]
 ·rw[dL (by simp[fT];omega),dL (by simp[fT];omega)]
theorem aAs:Tryz.zeroCells177=(fT (fun _=>0)).toArray:=by kernel_rfl
theorem aQ1 (f:Nat->Nat):(fT f).toArray.size=256:=by simp[fT]
theorem aAt (f:Nat->Nat):(Tryz.prog.info? 177).map (·.size)=some (fT f).toArray.size:=by rw[aQ1];kernel_rfl
theorem aAu:Tryz.prog.underlying 177=some (.array 256 34):=by kernel_rfl
theorem aAv {w:World} {b:Nat} {e:TypeId} {l:List Value} (h:Arr w b e l) (hl:l.length=256) (f:Nat->Nat):
  (storeCells ⟨b,0,none⟩ (fT f)).run Tryz.prog w=.ok () (w.setRow b (fT f).toArray):=by
 have h1:(fT f).length=256:=by simp[fT]
 have h2:=aCr (P:=Tryz.prog) b e (fT f) 0 l.toArray w h (by simp[hl,h1]) (fun v hv=>by obtain⟨c,_,rfl⟩:=dU.1 hv;rfl);rw[h2]
 congr 2
def qS (k c:Nat):Nat:=if c<k then(kN c).toNat else 0
theorem aQ2 (k c:Nat):qS (k+1) c=if c=k then(kN k).toNat else qS k c:=by
 unfold qS
 by_cases h:c=k
 ·subst h;simp
 ·rw[if_neg h]
  by_cases h2:c<k
  ·rw[if_pos h2,if_pos (by omega)]
  ·rw[if_neg h2,if_neg (by omega)]
theorem aQ3 (w:World):
  Calls Tryz.prog 130 #[.func (.func 131) #[] #[]] w fun e w'=>e=.returned (.agg (fT (fun c=>(kN c).toNat)).toArray)/\Below w.heap.size w w':=by
 go_enter Tryz.func130,Tryz.ntmps130;go_wp2_with fail
 go_loopg [3,4] 256 (fun gh _s3 s4 wr=>∃k:Nat,k<=256/\gh=256-k/\s4=.int .i64 k/\Arr wr w.heap.size 177 (fT (qS k))/\Below w.heap.size w wr)
 case atStart=>
  refine⟨0,aU _,rfl,rfl,?_,(aB _ _).alloc (aA _) _⟩;rw[aAs,show qS 0=fun _=>0 from by funext c;simp[qS]];exact Arr.new w _ _
 case round=>
 obtain⟨k,hk,hg,rfl,harr,hbel⟩:=hrel;have HG:=hid hg;clear hg
 by_cases hlt:k<256
 ·have t1:decide ((k:Int)<256)=true:=decide_eq_true (by omega);have c1:=harr.cell (EZ (qS k) k hlt);have f1:=harr.free k;go_wp2_with fail;refine(aQz k hlt _).mono ?_;rintro e w1 ⟨rfl,rfl⟩;have hk2:(k:Int)<256:=by omega
  go_wp2_with fail;have hg:=HG.out
  go_roundg (256-(k+1))
  case measure=>omega
  case rel=>
   refine⟨k+1,by omega,rfl,by go_num,?_,hbel.setCell (p:=⟨w.heap.size,k,none⟩) (aA _) _⟩;have:=harr.set k (.int .u32 ((kN k).toNat:Int));rwa[aQ0 _ (qS (k+1)) _ _ (aQ2 k)] at this
 ·have hke:k=256:=by omega
  subst hke;have t1:decide ((256:Int)<256)=false:=by decide
  have hfin:fT (qS 256)=fT (fun c=>(kN c).toNat):=by
   unfold fT;apply List.map_congr_left;intro c hc;rw[List.mem_range] at hc;unfold qS;rw[if_pos hc]
  rw[hfin] at harr;clear hfin;go_wp2_with fail;refine wp_load_row 177 (.tmp 2) rfl w.heap.size rfl _ _ (0,0) (.array 256 34) harr aAu rfl (aAt _) ?_;have hst:=aAv harr (by simp[fT]) (fun c=>(kN c).toNat);go_wp2_with fail;have harr2:Arr (wr.setRow w.heap.size (fT (fun c=>(kN c).toNat)).toArray) w.heap.size 177 (fT (fun c=>(kN c).toNat)):=GR wr w.heap.size _ _ 177 (0,0) harr;refine gJ (tR rfl _ _ w.heap.size _ _ (0,0) (.array 256 34) rfl harr2 aAu rfl (aAt _)) rfl ?_;exact⟨rfl,zB hbel _ (aA _) _⟩
theorem aQ4 (c:BitVec 32) (s:ByteArray) (w:World) (hs:s.size<=140737488355328):
  Calls Tryz.prog 64 #[.int .u32 (c.toNat:Int),.string s] w fun e w'=>e=.returned (.int .u32 ((~~~ kQ (~~~ c) s.data.toList).toNat:Int))/\Below w.heap.size w w':=by
 have HL:=hid (show s.data.toList.length=s.size by simp);have x1:=aAr c;obtain⟨C,hC⟩:∃C,C=c.toNat:=⟨_,rfl⟩;obtain⟨D,hD⟩:∃D,D=(~~~ c).toNat:=⟨_,rfl⟩;rw[<-hC] at x1 ⊢;rw[<-hD] at x1;have HD:=hid hD;obtain⟨cc,hcc⟩:∃cc,cc= ~~~ c:=⟨_,rfl⟩;rw[<-hcc] at HD ⊢;clear hC hD hcc;go_enter Tryz.func64,Tryz.ntmps64;go_wp2_with fail;refine(aQ3 _).mono ?_;rintro e w1 ⟨rfl,hb1⟩;have ha:Arr (w1.alloc (.cells Tryz.zeroCells177 177)) w1.heap.size 177 (fT (fun _=>0)):=by rw[aAs];exact Arr.new w1 _ _
 have hst:=aAv ha (by simp[fT]) (fun c=>(kN c).toNat);have ha2:Arr ((w1.alloc (.cells Tryz.zeroCells177 177)).setRow w1.heap.size (fT (fun c=>(kN c).toNat)).toArray) w1.heap.size 177 (fT (fun c=>(kN c).toNat)):=GR (w1.alloc (.cells Tryz.zeroCells177 177)) w1.heap.size _ _ 177 (0,0) ha;have hb2:Below w.heap.size w ((w1.alloc (.cells Tryz.zeroCells177 177)).setRow w1.heap.size (fT (fun c=>(kN c).toNat)).toArray):=zB (hb1.alloc hb1.size _) _ hb1.size _;go_wp2_with fail
 generalize (w1.alloc (.cells Tryz.zeroCells177 177)).setRow w1.heap.size (fT (fun c=>(kN c).toNat)).toArray=w2 at*
 have HG0:=hid (fun c (hc:c<256)=>ha2.cell (EZ (fun c=>(kN c).toNat) c hc));clear hst ha ha2;go_wp2_with fail
 go_loopg [0,6,12] s.size (fun g s0 _s6 s12 wr=>∃k X:Nat,k<=s.size/\g=s.size-k/\s12=.int .i64 (k:Int)/\s0=.int .u32 (X:Int)/\Hid (X=(kQ cc (s.data.toList.take k)).toNat)/\wr=w2)
 case atStart=>exact⟨0,D,aU _,rfl,rfl,rfl,HD,rfl⟩
 case round=>
  obtain⟨k,X,hk,hg,rfl,rfl,HX,rfl⟩:=hrel;have HG:=hid hg;clear hg x1
  by_cases hlt:k<s.size
  ·have t1:decide ((k:Int)<(s.size:Int))=true:=decide_eq_true (by omega);have hb:=s[k].toNat_lt;have HS:=hid (WF cc s.data.toList k s[k] (eW s k hlt));obtain⟨x,hx⟩:∃x,x=kQ cc (s.data.toList.take k):=⟨_,rfl⟩;rw[<-hx] at HX HS;have hX:=HX.out;have hstep:=aIv x s[k].toNat hb;have e1:=aKn x;have e2:=aKp x;have hq256:(x>>>24).toNat<256:=by
    have:(x>>>24).toNat=x.toNat/16777216:=by simp[Nat.shiftRight_eq_div_pow]
    have:=x.isLt;omega
   obtain⟨y,hy⟩:∃y,y=x<<<8:=⟨_,rfl⟩;obtain⟨Y,hY⟩:∃Y,Y=y.toNat:=⟨_,rfl⟩;obtain⟨Q,hQ⟩:∃Q,Q=(x>>>24).toNat:=⟨_,rfl⟩;rw[<-hX] at e1 e2;rw[<-hy,<-hY] at e1;rw[<-hQ] at e2 hq256;rw[<-hy,<-hQ] at hstep;have e3:(Q:Int)%256=(Q:Int):=by omega
   have e6:(X:Int)/16777216=(Q:Int):=by omega
   clear e2;have e4:=u8_xor_nat Q s[k].toNat hq256 hb;obtain⟨R,hR⟩:∃R,R=Q^^^s[k].toNat:=⟨_,rfl⟩;have hR256:R<256:=by rw[hR];exact Nat.xor_lt_two_pow (n:=8) hq256 hb
   rw[<-hR] at e4 hstep;have c1:=HG0.out R hR256;have hR2:(R:Int)<256:=by omega
   obtain⟨t,ht⟩:∃t,t=kN R:=⟨_,rfl⟩;have e5:=DW y t;rw[<-ht] at c1 hstep;obtain⟨T,hT⟩:∃T,T=t.toNat:=⟨_,rfl⟩;obtain⟨z,hz⟩:∃z,z=y^^^t:=⟨_,rfl⟩;obtain⟨Z,hZ⟩:∃Z,Z=z.toNat:=⟨_,rfl⟩;rw[<-hT] at c1;rw[<-hY,<-hT,<-hz,<-hZ] at e5;have HZ:=hid (show Z=(kQ cc (s.data.toList.take (k+1))).toNat by rw[HS.out,hstep,hZ,hz]);have e1':(X:Int)*256%4294967296=(Y:Int):=by rw[<-e1,vP]
   clear hx hX hstep hy hY hQ hR ht hT hz hZ HS;go_wp2_with fail;have hg:=HG.out
   go_roundg (s.size-(k+1))
   case measure=>omega
   case rel=>exact⟨k+1,Z,by omega,rfl,by go_num,rfl,HZ,rfl⟩
  ·have t1:decide ((k:Int)<(s.size:Int))=false:=decide_eq_false (by omega);obtain⟨x,hx⟩:∃x,x=kQ cc (s.data.toList.take k):=⟨_,rfl⟩;have hx2:=HX.out;rw[<-hx] at hx2;have x2:=aAr x;rw[<-hx2] at x2;obtain⟨Z,hZ⟩:∃Z,Z=(~~~ x).toNat:=⟨_,rfl⟩;rw[<-hZ] at x2;have HF:=hid (show((Z:Nat):Int)=((~~~ kQ cc s.data.toList).toNat:Int) by rw[hZ,hx,cS (by rw[HL.out];omega)]);clear hx hx2 hZ;go_wp2_with fail;go_ret;exact⟨fX HF.out,hb2⟩
theorem FA (s:ByteArray) (w:World) (hs:s.size<=140737488355328):
  Calls Tryz.prog 20 #[.string s] w fun e w'=>e=.returned (.int .u32 ((fG s.data.toList).toNat:Int))/\Below w.heap.size w w':=by
 have h0:=aQ4 (0#32) s w hs;have e0:(((0#32:BitVec 32).toNat:Nat):Int)=0:=rfl;have e1:(~~~ kQ (~~~ (0#32)) s.data.toList)=fG s.data.toList:=rfl;rw[e0,e1] at h0;go_enter Tryz.func20,Tryz.ntmps20;go_wp2_with fail;refine h0.mono ?_;rintro e w1 ⟨rfl,hb⟩;go_wp2_with fail;go_ret;exact⟨rfl,hb⟩
end
end Go.Proofs.YtiifmcicleljjaaGreatDoor
