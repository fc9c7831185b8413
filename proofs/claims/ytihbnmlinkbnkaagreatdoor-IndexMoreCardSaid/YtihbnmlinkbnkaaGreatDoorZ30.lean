/-
  Texts put together (part 30): the walks and the plain laws on which the statement stands.
-/
import Derived.Test.YtihbnmlinkbnkaaGreatDoorZ24
import Derived.Test.YtihbnmlinkbnkaaGreatDoorZ27
set_option maxRecDepth 100000
set_option maxHeartbeats 12800000
set_option linter.unusedVariables false
set_option linter.unusedSimpArgs false
open Go.Proofs.Tryz
open Go.Proofs.Tryz renaming prog->pG
open Go.Addr renaming add->gP
open Go.Instr renaming sliceAt->vN
open Go.IntKind renaming i64->aJ,wrap_i64->aM
open Go.RowKit.Below renaming refl->aH
open Go.Value renaming func->lK,int->bQ
open List renaming drop_eq_getElem_cons->pF,getD_eq_getElem?_getD->bV,getElem?_append_left->nE,getElem?_eq_getElem->aN,getElem?_eq_none->fZ,getElem?_map->eQ,length_append->aL,length_map->aS,length_set->nW,length_take->aQ,map_append->dY,take_add_one->cG,take_append_drop->kH,take_of_length_le->cD
open List.Perm renaming refl->GZ
open Nat renaming le_of_lt->nG,le_refl->aD,le_trans->aR,min_eq_left->jF,zero_add->iP,zero_le->aO
open Option.some renaming inj->cC
namespace Go.Proofs.YtihbnmlinkbnkaaGreatDoor
section
open Go.RowKit Go Go.Shelf
theorem aZr:(pG.info? 304).map (·.size)=some 2:=by kernel_rfl
theorem gO.take {w:World} {g:Nat} {l:List (Int×Int)} {R:List Value} (h:gO w g l R) (m:Nat):gO w g (l.take m) (prC ((l.drop m).map pr)++R):=by
 unfold gO at h ⊢;rw[<-List.append_assoc,<-aFg,<-dY,kH];exact h
theorem KQ.tree {p b:Nat} {w w':World} {l:List Value} (d:Arr w b 304 l) (h:w.grownBy w' (some b)):KQ p w w':=⟨h.size,fun k o A _ F=>by
 refine(h.block k (Array.getElem?_eq_some_iff.1 A).1 (fun e=>?_)).trans A;obtain rfl:=cC e;unfold Arr at d;rw[A] at d;exact F _ _ (cC d)⟩
theorem gO.grown {w w':World} {g z:Nat} {l:List (Int×Int)} {R:List Value} (h:gO w g l R) (d:w.grownBy w' (some z)) (A:g≠z):gO w' g l R:=Arr.grown h d (fun e=>A (cC e))
def Fst (L:List (Int×Int)) (i m k f:Nat):Prop:=(f=i\/(0<f/\f<m/\(f-1)/2=i/\ahd (L.getD f (0,0)) (L.getD i (0,0))))/\(∀j,0<j->j<m->(j-1)/2=i->j<k->¬ahd (L.getD j (0,0)) (L.getD f (0,0)))
theorem Fst.start (L:List (Int×Int)) (i m:Nat):Fst L i m (2*i+1) i:=⟨.inl rfl,fun j d _ A F=>by omega⟩
theorem Fst.yes {L:List (Int×Int)} {i m k f:Nat} (h:Fst L i m k f) (A:k<m) (I:2*i+1<=k) (J:k<=2*i+2) (d:ahd (L.getD k (0,0)) (L.getD f (0,0))):Fst L i m (k+1) k:=by
 refine⟨.inr ⟨by omega,A,by omega,?_⟩,fun j F G H M=>?_⟩
 ·rcases h.1 with rfl|⟨_,_,_,O⟩
  ·exact d
  ·unfold ahd at*;omega
 ·by_cases e:j=k
  ·subst e;unfold ahd;omega
  ·exact ML (TR d) (h.2 j F G H (by omega))
theorem Fst.no {L:List (Int×Int)} {i m k f:Nat} (h:Fst L i m k f) (d:¬ahd (L.getD k (0,0)) (L.getD f (0,0))):Fst L i m (k+1) f:=
 ⟨h.1,fun j A F G H=>by
  by_cases e:j=k
  ·subst e;exact d
  ·exact h.2 j A F G (by omega)⟩
theorem Fst.all {L:List (Int×Int)} {i m k f:Nat} (h:Fst L i m k f) (G:¬(k<=2*i+2/\k<m)):∀j,0<j->j<m->(j-1)/2=i->¬ahd (L.getD j (0,0)) (L.getD f (0,0)):=
 fun j d A F=>h.2 j d A F (by omega)
structure uY (p g z2 z3 m cap:Nat) (y:Int×Int) (L:List (Int×Int)) (R:List Value) (w W:World):Prop where
 box:Arr W p 308 [.slice (some ⟨g,0,none⟩) m cap,rU]
 row:gO W g L R
 res:Arr W z2 304 [.int .i64 0,.int .i64 0]
 top:Arr W z3 304 [.int .i64 y.1,.int .i64 y.2]
 bel:Below p w W
 kq:KQ p w W
theorem uY.below {p g A F m cap:Nat} {y:Int×Int} {L:List (Int×Int)} {R:List Value} {w W G:World} (h:uY p g A F m cap y L R w W) (d:Below W.heap.size W G):uY p g A F m cap y L R w G:=
 ⟨h.box.below d h.box.lt,Arr.below h.row d (Arr.lt h.row),h.res.below d h.res.lt,h.top.below d h.top.lt,h.bel.trans (d.mono (nG h.box.lt)),h.kq.trans (KQ.below d)⟩
theorem uY.put {p g A F m cap:Nat} {y:Int×Int} {L:List (Int×Int)} {R:List Value} {w W G:World} (h:uY p g A F m cap y L R w W) (d:W.grownBy G (some g)) (M:g≠A) (O:g≠F) (U:p<g) {H:List (Int×Int)} (I:gO G g H R):uY p g A F m cap y H R w G:=
 ⟨h.box.grown d (by simp;omega),I,h.res.grown d (by simp;omega),h.top.grown d (by simp;omega),h.bel.grown d (nG h.box.lt) (fun k J=>by obtain rfl:=cC J;omega),h.kq.trans (KQ.row h.row d)⟩
theorem aZs (p B:Nat) (l:List (Int×Int)) (w:World) (h:QU w p B l) (hh:oG l) (hp:p<B) (G:0<l.length) (hl:l.length<=1000000):
  Calls pG 247 #[.pointer (some ⟨p,0,none⟩)] w fun e w'=>e=.returned (.agg #[.int .i64 (l.getD 0 (0,0)).1,.int .i64 (l.getD 0 (0,0)).2])/\(∃l',QU w' p B l'/\oG l'/\(l.getD 0 (0,0)::l').Perm l)/\Below p w w'/\KQ p w w':=by
 obtain⟨v,hA,e8⟩:=h;obtain⟨g,cap,R,rfl,j2,hR,hc,hm,e9⟩:=aGz e8 G;obtain⟨m,c7⟩:∃m,l.length=m+1:=⟨l.length-1,by omega⟩;have HD:=hid (tX.start hh G);have a6:=hid (aZh G);obtain⟨N,hN⟩:∃N,N=l.length:=⟨_,rfl⟩;have c8:=hid (hN.trans c7);have c9:=hid (show N<=1000000 by omega);have f0:N=m+1:=hN.trans c7;have f1:l.length-1=m:=by omega
 rw[f1] at HD a6;have d2:((l.set 0 (l.getD m (0,0))).take m).length=m:=by rw[aQ,nW];omega
 have a1:=(gO.cells hR G);have b5:=(gO.cells hR (show m<l.length by omega));have d3:=fun(W:World) (hW:gO W g l R)=>(gO.put hW G (l.getD m (0,0)))
 rw[Nat.zero_mul,iP] at a1;obtain⟨y,hy⟩:∃y,y=l.getD 0 (0,0):=⟨_,rfl⟩;obtain⟨U,f2⟩:∃y,y=l.getD m (0,0):=⟨_,rfl⟩;rw[<-hy] at a1 a6 ⊢;rw[<-f2] at b5 HD d2 a6 d3;obtain⟨L3,d4⟩:∃L,L=(l.set 0 U).take m:=⟨_,rfl⟩;rw[<-d4] at HD d2 a6;obtain⟨R3,d5⟩:∃R3,R3=prC (((l.set 0 U).drop m).map pr)++R:=⟨_,rfl⟩;have j3:=hid (fun(W:World) (hW:gO W g (l.set 0 U) R)=>show gO W g L3 R3 by rw[d4,d5];exact hW.take m);have j4:=hid d3;have j5:=hid (show ∀L:List (Int×Int),L.length=m->(prC (L.map pr)++R3).length=cap*2 from fun L hL=>by
  rw[<-e9,d5,aL,aL,aL,xZ,xZ,xZ,List.length_drop,nW];omega)
 have j6:=hid hm;have b6:p<w.heap.size:=hA.lt;have a2:g<w.heap.size:=Arr.lt hR;rw[<-hN] at hA hc;have j7:=hid d2
 --the world in which the result's box lies
 have b7:=Arr.new w 304 [.int .i64 0,.int .i64 0];have a7:=hA.alloc (.cells #[.int .i64 0,.int .i64 0] 304);have f5:=Arr.alloc hR (.cells #[.int .i64 0,.int .i64 0] 304);have a3:=bD (aH _ w) (.cells #[.int .i64 0,.int .i64 0] 304);have d6:(w.alloc (.cells #[.int .i64 0,.int .i64 0] 304)).heap.size=w.heap.size+1:=by simp
 change Arr (w.alloc (.cells #[.int .i64 0,.int .i64 0] 304)) _ _ _ at b7;clear hy f2 d4 d5 e9 hN c7 f1 d3 hm e8 hh G hA;go_enter func247,ntmps247;go_upto_region 1 with fail;obtain⟨A,b8⟩:∃z,z=w.heap.size:=⟨_,rfl⟩;generalize w.alloc (.cells #[.int .i64 0,.int .i64 0] 304)=W0 at*
 rw[<-b8] at b7 d6 b6 a2 a3 ⊢;have k6:=hid b8;have c0:=a7.cell (i:=0) rfl;have f6:=(a3.cell (p:=⟨g,0,none⟩) a2).trans a1.1;have f7:=(a3.cell (p:=⟨g,1,none⟩) a2).trans a1.2;have v1:(0:Int)<(N:Int):=by omega
 have v2:0<N:=by omega
 have m1:aJ.wrap ((N:Int)-1)=(m:Int):=by have:=c9.out;rw[aM];omega
 have m2:(N:Int)-1=(m:Int):=by omega
 have m3:aJ.wrap (m:Int)=(m:Int):=by have:=c9.out;rw[aM];omega
 have k7:=hid f0;have j8:g≠p:=by omega
 have f8:KQ p w W0:=KQ.below (b8▸a3);have f9:=a3.mono (nG b6);clear b8;have e0:=(a7.alloc (.cells #[.int .i64 0,.int .i64 0] 304)).cell (i:=0) rfl;have e1:=((bD (aH _ W0) (.cells #[.int .i64 0,.int .i64 0] 304)).cell (p:=⟨g,0,none⟩) (by show g<W0.heap.size;omega)).trans f6;have e2:=((bD (aH _ W0) (.cells #[.int .i64 0,.int .i64 0] 304)).cell (p:=⟨g,1,none⟩) (by show g<W0.heap.size;omega)).trans f7;have e3:=(a7.alloc (.cells #[.int .i64 y.1,.int .i64 y.2] 304)).cell (i:=0) rfl;clear f0 hR
 go_cut [3,4] (fun c3 c4 wx=>∃z3,c3=.pointer (some ⟨z3,0,none⟩)/\A<z3/\c4=.int .i64 (m:Int)/\uY p g A z3 N cap y l R w wx/\Below A w wx)
 case first=>
  go_region
  all_goals
   go_wp2_with fail;go_meet;rw[<-d6];refine⟨_,rfl,by omega,rfl,⟨a7.alloc _,Arr.alloc f5 _,b7.alloc _,Arr.new W0 _ _,?_,?_⟩,?_⟩
   ·exact(f9.alloc (by omega) _).drew
   ·exact f8.trans (KQ.below (bD (aH _ W0) _).drew)
   ·exact(a3.alloc (by omega) _).drew
 case rest=>
  obtain⟨z3,rfl,k8,rfl,a5,a8⟩:=hcut;clear e0 e1 e2 e3 f6 f7 a7 f5 a3 b7 f8 f9 c0 d6 m1 m2;have c0:=a5.box.cell (i:=0) rfl;have c1:=(a8.cell (p:=⟨g,m*2,none⟩) a2).trans b5.1;have c2:=(a8.cell (p:=⟨g,m*2+1,none⟩) a2).trans b5.2;have g0:=(a8.cell (p:=⟨g,0,none⟩) a2).trans a1.1;have g1:=(a8.cell (p:=⟨g,1,none⟩) a2).trans a1.2;have f3:=Arr.free a5.row 0;have f4:=Arr.free a5.row 1;clear a1 b5;have v3:(m:Int)<(N:Int):=by have:=c8.out;omega
  have v4:(0:Int)<=(m:Int):=by omega
  go_wp2_with fail
  go_region
  have d7:=j4.out _ a5.row;rw[Nat.zero_mul,iP] at d7;have M:uY p g A z3 N cap y (l.set 0 U) R w ((wc.setCell ⟨g,0,none⟩ (.int .i64 U.1)).setCell ⟨g,1,none⟩ (.int .i64 U.2)).drew:=
   a5.put (qP (eU (gD _ g 0 _) (gD _ g 1 _))) (by omega) (by omega) (by omega) d7
  generalize ((wc.setCell ⟨g,0,none⟩ (.int .i64 U.1)).setCell ⟨g,1,none⟩ (.int .i64 U.2)).drew=W2 at*
  have d0:=M.box.cell (i:=0) rfl;have fd:=M.box.free 0;have j9:m<=cap:=by have:=c8.out;omega
  have v5:(m:Int)<=(cap:Int):=by omega
  clear d7 a5 a8 c0 c1 c2 g0 g1 f3 f4 v3;go_wp2_with fail;have g3:uY p g A z3 m cap y L3 R3 w (W2.setCell ⟨p,0,none⟩ (.slice (some ⟨g,0,none⟩) m cap)):=
   ⟨M.box.set 0 _,Arr.other (j3.out _ M.row) ⟨p,0,none⟩ (fun e=>j8 e.symm) _,M.res.other ⟨p,0,none⟩ (by simp;omega) _,M.top.other ⟨p,0,none⟩ (by simp;omega) _,M.bel.setCell (p:=⟨p,0,none⟩) (aD _) _,M.kq.trans (KQ.box _)⟩
  generalize W2.setCell ⟨p,0,none⟩ (.slice (some ⟨g,0,none⟩) m cap)=W3 at*
  clear d0 fd M;have k9:m<=1000000:=by have:=c8.out;have:=c9.out;omega
  go_loopg [5,6,7] m (fun gm s5 _s6 _s7 wr=>∃(i:Nat) (L:List (Int×Int)),gm=m-i/\s5=.int .i64 (i:Int)/\(m=0\/i<m)/\i<=m/\L.length=m/\tX L i/\L.Perm L3/\uY p g A z3 m cap y L R3 w wr)
  case atStart=>exact⟨0,L3,by omega,rfl,by omega,by omega,j7.out,HD.out,GZ _,g3⟩
  case round=>
   clear g3;obtain⟨i,L,V,rfl,g4,l1,hL,g5,g6,hW⟩:=hrel;have HG:=hid V;have k0:=hid g4;have H:=hid hL;have g7:=hid g5;have g8:=hid g6;obtain⟨wo,rfl⟩:∃wo,wo=wr:=⟨_,rfl⟩;obtain⟨J,hJ⟩:∃J,J=2*i:=⟨_,rfl⟩;obtain⟨J1,g9⟩:∃J1,J1=2*i+1:=⟨_,rfl⟩;obtain⟨F,i0⟩:∃F,F=2*i+2:=⟨_,rfl⟩;have m1:aJ.wrap (2*(i:Int))=(J:Int):=by rw[aM];omega
   have m2:2*(i:Int)=(J:Int):=by omega
   have m3:aJ.wrap ((J:Int)+1)=(J1:Int):=by rw[aM];omega
   have m4:(J:Int)+1=(J1:Int):=by omega
   have m5:aJ.wrap ((J:Int)+2)=(F:Int):=by rw[aM];omega
   have m6:(J:Int)+2=(F:Int):=by omega
   have HJ:=hid hJ;have b9:=hid g9;have c5:=hid i0;clear V g4 hL g5 g6 hJ g9 i0;go_wp2_with fail
   go_loopg [6,7] 2 (fun gm s6 s7 wx=>∃f k:Nat,s6=.int .i64 (f:Int)/\s7=.int .i64 (k:Int)/\J1<=k/\k<=F+1/\gm=F+1-k/\Hid (Fst L i m k f)/\Below wo.heap.size wo wx)
   case atStart=>exact⟨i,J1,rfl,rfl,aD _,by have:=b9.out;have:=c5.out;omega,by have:=b9.out;have:=c5.out;omega,hid (by rw[b9.out];exact Fst.start _ _ _),aH _ _⟩
   case round=>
    obtain⟨f,k,rfl,rfl,l2,l3,V,HF,d8⟩:=hrel;have i1:=hid V;clear V;have d:=hW.below d8;obtain⟨T,hT⟩:∃T:Bool,T=(decide (k<=F)&&decide (k<m)):=⟨_,rfl⟩;have HT:=hid hT;clear hT;go_upto_region 7 with fail
    go_cut [54] (fun k1 wy=>k1=.bool T/\wy=wr)
    case first=>
     by_cases g1:k<=F
     ·have u1:decide ((k:Int)<=(F:Int))=true:=aG (by omega)
      by_cases g2:k<m
      ·have u2:decide ((k:Int)<(m:Int))=true:=aG (by omega);have Z:=hid (show T=true by rw[HT.out,aG g1,aG g2];rfl);go_wp2_with fail;go_meet;exact⟨by rw[Z.out],rfl⟩
      ·have u2:decide ((k:Int)<(m:Int))=false:=aE (by omega);have Z:=hid (show T=false by rw[HT.out,aG g1,aE g2];rfl);go_wp2_with fail;go_meet;exact⟨by rw[Z.out],rfl⟩
     ·have u1:decide ((k:Int)<=(F:Int))=false:=aE (by omega);have Z:=hid (show T=false by rw[HT.out,aE g1];rfl);go_wp2_with fail;go_meet;exact⟨by rw[Z.out],rfl⟩
    case rest=>
     obtain⟨rfl,rfl⟩:=hcut
     cases T with
     |true=>
      have i2:=HT.out;rw[eq_comm,Bool.and_eq_true,decide_eq_true_eq,decide_eq_true_eq] at i2;obtain⟨l4,i3⟩:=i2;have a9:f<m:=by
       rcases HF.out.1 with h|h
       ·have:=k0.out;omega
       ·exact h.2.1
      have i4:k<L.length:=by rw[H.out];exact i3
      have a0:f<L.length:=by rw[H.out];exact a9
      obtain⟨b0,b1⟩:=d.row.cells i4;obtain⟨b2,b3⟩:=d.row.cells a0;obtain⟨I,a4⟩:∃y,y=L.getD k (0,0):=⟨_,rfl⟩;obtain⟨O,d9⟩:∃y,y=L.getD f (0,0):=⟨_,rfl⟩;rw[<-a4] at b0 b1;rw[<-d9] at b2 b3;have i5:=hid a4;have i6:=hid d9;have d0:=d.box.cell (i:=0) rfl;have d1:=d.box.cell (i:=1) rfl;have q1:(k:Int)<(m:Int):=by omega
      have q2:(f:Int)<(m:Int):=by omega
      have q3:(0:Int)<=(k:Int):=by omega
      have q4:(0:Int)<=(f:Int):=by omega
      have k2:wc.drew.cell? ⟨p,0,none⟩=some (.slice (some ⟨g,0,none⟩) m cap)/\wc.drew.cell? ⟨p,1,none⟩=some rU/\wc.drew.cell? ⟨g,k*2,none⟩=some (.int .i64 I.1)/\wc.drew.cell? ⟨g,k*2+1,none⟩=some (.int .i64 I.2)/\wc.drew.cell? ⟨g,f*2,none⟩=some (.int .i64 O.1)/\wc.drew.cell? ⟨g,f*2+1,none⟩=some (.int .i64 O.2)/\Below wc.heap.size wc wc.drew:=⟨d0,d1,b0,b1,b2,b3,(aH _ _).drew⟩;obtain⟨T2,e4⟩:∃T,T=decide (ahd I O):=⟨_,rfl⟩
      have i7:∀W,Calls pG 245 #[.agg #[.int .i64 I.1,.int .i64 I.2],.agg #[.int .i64 O.1,.int .i64 O.2]] W fun e w'=>e=.returned (.bool T2)/\Below W.heap.size W w':=fun W=>by
       rw[e4];exact aGw I.1 I.2 O.1 O.2 W
      have Z:=hid e4;clear i4 a0 a4 d9 e4 d0 d1 b0 b1 b2 b3;go_wp2_with fail
      go_region_held3 (fun w'=>w'.cell? ⟨p,0,none⟩=some (.slice (some ⟨g,0,none⟩) m cap)/\w'.cell? ⟨p,1,none⟩=some rU/\w'.cell? ⟨g,k*2,none⟩=some (.int .i64 I.1)/\w'.cell? ⟨g,k*2+1,none⟩=some (.int .i64 I.2)/\w'.cell? ⟨g,f*2,none⟩=some (.int .i64 O.1)/\w'.cell? ⟨g,f*2+1,none⟩=some (.int .i64 O.2)/\Below wc.heap.size wc w')
       (first
        |with_reducible assumption
        |with_reducible exact aG0 (by assumption) (by assumption))
       (first
        |(go_at_call 245;refine(i7 _).mono ?_;rintro e w6 ⟨rfl,i8⟩))
      all_goals
       have i9:Below wo.heap.size wo w6:=d8.trans (((aH _ wc).drew.trans i8).mono d8.size);clear k2 i8 d i7
       cases T2 with
       |true=>
        have e5:=hid (of_decide_eq_true Z.out.symm);go_wp2_with fail;have V:=i1.out
        go_roundg (F+1-(k+1))
        case measure=>omega
        case rel=>exact⟨k,k+1,rfl,by go_num,by omega,by omega,rfl,hid (HF.out.yes i3 (by have:=b9.out;omega) (by have:=c5.out;omega) (by rw[<-i5.out,<-i6.out];exact e5.out)),i9⟩
       |false=>
        have e5:=hid (of_decide_eq_false Z.out.symm);go_wp2_with fail;have V:=i1.out
        go_roundg (F+1-(k+1))
        case measure=>omega
        case rel=>exact⟨f,k+1,rfl,by go_num,by omega,by omega,rfl,hid (HF.out.no (by rw[<-i5.out,<-i6.out];exact e5.out)),i9⟩
     |false=>
      have j0:=hid (HF.out.all (fun⟨h1,h2⟩=>by
       have:=HT.out;rw[aG (show k<=F by rw[c5.out];exact h1),aG h2] at this;exact Bool.noConfusion this))
      by_cases e6:f=i
      ·subst e6;have x0:=d.top.cell (i:=0) rfl;have x1:=d.top.cell (i:=1) rfl;have r0:=d.res.cell (i:=0) rfl;have r1:=d.res.cell (i:=1) rfl;have r2:=d.res.free 0;have r3:=d.res.free 1;go_wp2_with fail;refine bodyPost_ret (results_cell_row rfl _ _ A _ _ (0,0) _ rfl ((d.res.set 0 _).set 1 _) underlying304 rfl aZr) rfl ?_;have ho:=TS (d.row.grown (eU (gD _ A 0 (.int .i64 y.1)) (gD _ A 1 (.int .i64 y.2))) (by omega)) j2 (by rw[H.out];exact j9) j6.out (j5.out L H.out);rw[H.out] at ho
       exact⟨rfl,⟨L,⟨_,d.box.grown (eU (gD _ A 0 _) (gD _ A 1 _)) (by simp;omega),ho⟩,g7.out.stop (fun j G h1 h2=>j0.out j G (by rw[<-H.out];exact h1) h2),(List.Perm.cons y g8.out).trans a6.out⟩,(d.bel.setCell (p:=⟨A,0,none⟩) (nG b6) _).setCell (p:=⟨A,1,none⟩) (nG b6) _,d.kq.trans (KQ.tree d.res (eU (gD _ A 0 _) (gD _ A 1 _)))⟩
      ·have u1:((f:Int)==(i:Int))=false:=by rw[cB];omega
       have u2:decide ((f:Int)=(i:Int))=false:=aE (by omega);have b4:0<f/\f<m/\(f-1)/2=i/\ahd (L.getD f (0,0)) (L.getD i (0,0)):=HF.out.1.resolve_left e6;have a9:=b4.2.1;have k3:i<f:=by omega
       have c6:i<L.length:=by rw[H.out];omega
       have a0:f<L.length:=by rw[H.out];exact a9
       obtain⟨b0,b1⟩:=d.row.cells c6;obtain⟨b2,b3⟩:=d.row.cells a0;have k4:=hid (g7.out.step b4.1 a0 b4.2.2.1 b4.2.2.2 (fun j G h1 h2=>j0.out j G (by rw[<-H.out];exact h1) h2));have j1:=hid (fun(W:World) (hW:gO W g L R3)=>gO.swap hW c6 a0);have l5:=hid c6;have k5:=hid a0;obtain⟨I,a4⟩:∃y,y=L.getD i (0,0):=⟨_,rfl⟩;obtain⟨yf,e7⟩:∃y,y=L.getD f (0,0):=⟨_,rfl⟩;rw[<-a4,<-e7] at j1;rw[<-a4] at b0 b1;rw[<-e7] at b2 b3;have d0:=d.box.cell (i:=0) rfl;have q1:(i:Int)<(m:Int):=by omega
       have q2:(f:Int)<(m:Int):=by omega
       have q3:(0:Int)<=(i:Int):=by omega
       have q4:(0:Int)<=(f:Int):=by omega
       have q5:i<m:=by omega
       have l6:=Arr.free d.row (i*2);have l7:=Arr.free d.row (i*2+1);have l8:=Arr.free d.row (f*2);have l9:=Arr.free d.row (f*2+1);clear b4 c6 a0 a4 e7 e6;go_wp2_with fail
       go_region
       all_goals
        go_wp2_with fail;have V:=HG.out
        go_roundg (m-f)
        case measure=>omega
        case rel=>
         refine⟨f,pR L i f,rfl,rfl,.inr a9,nG a9,(CN _ _ _).trans H.out,k4.out,(aGv k3 k5.out).trans g8.out,?_⟩;exact d.put (qP (eU (eU (eU (gD _ g (i*2) _) (gD _ g (i*2+1) _)) (gD _ g (f*2) _)) (gD _ g (f*2+1) _))) (by omega) (by omega) (by omega) (j1.out _ d.row)
theorem QU.below {w w':World} {p B:Nat} {l:List (Int×Int)} (h:QU w p B l) (d:Below w.heap.size w w'):QU w' p B l:=by
 obtain⟨v,A,F⟩:=h;exact⟨v,A.below d A.lt,F.below d (aD _)⟩
theorem QU.grown {w w':World} {p B b:Nat} {l:List (Int×Int)} {F:List Value} (h:QU w p B l) (G:Arr w b 3 F) (d:w.grownBy w' (some b)) (I:b≠p):QU w' p B l:=by
 obtain⟨v,H,A⟩:=h;refine⟨v,H.grown d (by simp;omega),A.kept d ?_⟩;exact .inr (MG G A (by decide)).symm
def QR (w:World) (p:Nat) (r:cE):Prop:=∃l,QU w p (p+1) l/\oG l/\l.Perm (rT r)
theorem QR.below {w w':World} {p:Nat} {r:cE} (h:QR w p r) (d:Below w.heap.size w w'):QR w' p r:=by
 obtain⟨l,A,F,G⟩:=h;exact⟨l,A.below d,F,G⟩
theorem QR.grown {w w':World} {p b:Nat} {r:cE} {d:List Value} (h:QR w p r) (A:Arr w b 3 d) (F:w.grownBy w' (some b)) (G:b≠p):QR w' p r:=by
 obtain⟨l,H,I,J⟩:=h;exact⟨l,H.grown A F G,I,J⟩
theorem aG3 (r:cE):(rT r).length=r.length:=by simp[rT]
theorem aG4 (p:Nat) (r:cE) (x:Int) (n:Nat) (T:HT) (A:T.root=n) (w:World) (h:QR w p r) (F:p+1<=w.heap.size) (G:r.length<=1000000):
  Calls pG 246 #[.pointer (some ⟨p,0,none⟩),.agg #[.int .i64 x,.int .i64 (n:Int)]] w fun e w'=>e=.returned (.tuple #[])/\QR w' p (r++[(x,T)])/\Below p w w'/\KQ p w w':=by
 obtain⟨l,H,I,d⟩:=h;refine(aZq p (p+1) l (x,(n:Int)) w H I (by omega) F (by rw[d.length_eq,aG3];exact G)).mono ?_;rintro e w' ⟨J,⟨L,M,O,U⟩,V,Z⟩;refine⟨J,⟨L,M,O,U.trans ?_⟩,V,Z⟩;have e2:rT (r++[(x,T)])=rT r++[(x,(n:Int))]:=by unfold rT;rw[dY];simp[A]
 rw[e2];exact d.append_right _
theorem aG5 (p:Nat) (r:cE) (w:World) (h:QR w p r) (d:r≠[]) (H:r.Pairwise (fun p q=>p.2.root<q.2.root)) (hl:r.length<=1000000):
  Calls pG 247 #[.pointer (some ⟨p,0,none⟩)] w fun e w'=>e=.returned (.agg #[.int .i64 (cA r).1.1,.int .i64 ((cA r).1.2.root:Int)])/\QR w' p (cA r).2/\Below p w w'/\KQ p w w':=by
 obtain⟨l,I,A,F⟩:=h;have J:l.length=r.length:=by rw[F.length_eq,aG3]
 refine(aZs p (p+1) l w I A (by omega) (by rw[J];exact List.length_pos_iff.2 d) (by omega)).mono ?_;rintro e w' ⟨G,⟨L,M,O,U⟩,V,Z⟩;obtain⟨e1,e2⟩:=aZu A F d H U;rw[e1] at G;exact⟨G,⟨L,M,O,e2⟩,V,Z⟩
def nO (w:World) (B:Nat) (v:Value) (l:List Int):Prop:=∃b R,v=.slice (some ⟨b,0,none⟩) l.length l.length/\B<=b/\Arr w b 3 (l.map (bQ .i64)++R)
theorem nO.rd {w:World} {B:Nat} {v:Value} {l:List Int} (h:nO w B v l) (F:l.length<=1000000):RdI w v l:=by
 obtain⟨b,R,rfl,G,A⟩:=h;refine⟨_,_,rfl,aD _,by unfold maxLen;omega,.inr ⟨b,0,rfl,A.lt,fun j d=>?_⟩⟩;rw[iP];exact A.cell (by rw[nE d,aN d,bV,aN d];rfl)
theorem nO.below {w w':World} {B:Nat} {v:Value} {l:List Int} (h:nO w B v l) (A:Below w.heap.size w w'):nO w' B v l:=by
 obtain⟨b,R,e,F,d⟩:=h;exact⟨b,R,e,F,d.below A d.lt⟩
theorem nO.base {w:World} {B B':Nat} {v:Value} {l:List Int} (h:nO w B v l) (d:B'<=B):nO w B' v l:=by
 obtain⟨b,R,e,A,F⟩:=h;exact⟨b,R,e,aR d A,F⟩
theorem aZv (n m:Nat) (f:Nat->Int) (h:n<=m):tab m f=tab n f++(tab m f).drop n:=by
 rw[show tab n f=(tab m f).take n by
  unfold tab;rw[<-List.map_take,List.take_range,jF h],kH]
theorem aZw {n:Nat} {f:Nat->Int} {l:List Int} (A:l.length=n) (h:∀j,j<n->f j=l.getD j 0):tab n f=l.map (bQ .i64):=by
 apply List.ext_getElem?;intro j
 by_cases d:j<n
 ·rw[lM n f j d,eQ,aN (by omega),h j d,bV,aN (by omega)];rfl
 ·rw[fZ (by simp[tab];omega),fZ (by simp;omega)]
theorem aZx (v:Value) (F:List Int) (w:World) (hr:RdI w v F) (h2:2<=F.length) (i9:F.length<=258) (h1:∀x∈F,1<=x) (hs:F.sum<28657):
  Calls pG 202 #[v] w fun e w'=>∃v',e=.returned v'/\nO w' w.heap.size v' (nK F)/\Below w.heap.size w w':=by
 have d8:=hid (aFn F h1);have j1:=hid hs;obtain⟨a,ca,rfl,j2,j3,hA⟩:=hr.open;unfold maxLen at j3;obtain⟨b,off,rfl,hb,hc⟩:=hA (by omega);have HC:=hid hc;have c0:QR (w.alloc (.cells #[.slice none 0 0,rU] 308)) w.heap.size []:=
  ⟨[],⟨.slice none 0 0,Arr.new w _ _,OwP.nil _ _ _⟩,fun j h0 hj=>by simp at hj,GZ _⟩
 have c4:=bD (aH _ w) (.cells #[.slice none 0 0,rU] 308);have d9:(w.alloc (.cells #[.slice none 0 0,rU] 308)).heap.size=w.heap.size+1:=by simp
 have s1:(store ⟨w.heap.size,1,none⟩ (lK (.func 245) #[] #[])).run pG (w.alloc (.cells #[.slice none 0 0,.nilFunc] 308))=.ok () (w.alloc (.cells #[.slice none 0 0,lK (.func 245) #[] #[]] 308)):=by
  rw[run_store _ _ _ _ _ rfl];simp[World.setCell_alloc_new]
 clear hA hc hr h1 hs;go_enter func202,ntmps202;go_wp2_with fail;clear s1;generalize w.alloc (.cells #[.slice none 0 0,rU] 308)=W0 at*
 obtain⟨p,hp⟩:∃p,p=w.heap.size:=⟨_,rfl⟩;rw[<-hp] at c0 c4 d9 hb ⊢;have e0:=hid hp;clear hp
 go_loopg [4,5,15] F.length (fun g _s4 _s5 j4 wr=>∃k:Nat,k<=F.length/\g=F.length-k/\j4=.int .i64 (k:Int)/\QR wr p (bS (F.take k) 0)/\Below p w wr/\p+1<=wr.heap.size)
 case atStart=>exact⟨0,aO _,rfl,rfl,c0,c4,by omega⟩
 case round=>
  clear c0 c4 d9;obtain⟨k,hk,hg,rfl,hQ,H,a0⟩:=hrel;have HG:=hid hg;clear hg;have a2:(bS (F.take k) 0).length=k:=by show((F.take k).zipIdx.map _).length=k;rw[aS,List.length_zipIdx,aQ];omega
  by_cases a4:k<F.length
  ·have u1:decide ((k:Int)<(F.length:Int))=true:=aG (by omega);obtain⟨x,hx⟩:=eG a4;have c1:=(H.cell (p:=⟨b,off+k,none⟩) hb).trans (HC.out k x hx);have HT:=hid (aFo hx);have c5:=aG4 p (bS (F.take k) 0) x k (.leaf k) rfl wr hQ a0 (by omega);rw[<-HT.out] at c5;clear hx a2;go_wp2_with fail;refine c5.mono ?_;rintro e w2 ⟨rfl,b3,b4,a5⟩;clear c5;go_wp2_with fail;have hg:=HG.out
   go_roundg (F.length-(k+1))
   case measure=>omega
   case rel=>exact⟨k+1,by omega,rfl,by go_num,b3,H.trans b4,aR a0 a5.1⟩
  ·have u1:decide ((k:Int)<(F.length:Int))=false:=aE (by omega);have e3:k=F.length:=by omega
   rw[e3,List.take_length] at hQ;obtain⟨J,rfl⟩:∃J,J=wr:=⟨_,rfl⟩;obtain⟨n,hn⟩:∃n,n=F.length:=⟨_,rfl⟩;have HN:=hid hn;obtain⟨N2,e4⟩:∃N2,N2=2*n:=⟨_,rfl⟩;obtain⟨M,hM⟩:∃M,M=2*n-1:=⟨_,rfl⟩;have HM:=hid hM;have o5:=hid e4;have o6:2<=n:=by omega
   have o7:n<=258:=by omega
   rw[<-hn] at j2 u1 ⊢;have m1:aJ.wrap (2*(n:Int))=(N2:Int):=by rw[aM];omega
   have m2:2*(n:Int)=(N2:Int):=by omega
   have m3:aJ.wrap ((N2:Int)-1)=(M:Int):=by rw[aM];omega
   have m4:(N2:Int)-1=(M:Int):=by omega
   have o8:M<=1000:=by omega
   have o9:¬k<n:=by omega
   clear e3 a2 h2 i9 hn e4 hM a4 hk;go_wp2_with (at_make;refine mkA jL rfl _ _ rfl M rfl rfl ?_ ?_;omega);have c6:Arr (J.alloc (.cells (gW (.int .i64 0) M) 3)) J.heap.size 3 (tab M (kQ F 0)):=by
    have:=Arr.made J 3 (.int .i64 0) M;rw[JB] at this;exact this
   have e5:=hQ.below (bD (aH _ J) (.cells (gW (.int .i64 0) M) 3));have a6:=H.alloc (o:=.cells (gW (.int .i64 0) M) 3) (by omega);have e6:(J.alloc (.cells (gW (.int .i64 0) M) 3)).heap.size=J.heap.size+1:=by simp
   generalize J.alloc (.cells (gW (.int .i64 0) M) 3)=W1 at*
   obtain⟨V,e7⟩:∃V,V=J.heap.size:=⟨_,rfl⟩;rw[<-e7] at c6 e6 a0 ⊢;have b5:V≠p:=by omega
   have e8:p+1<=W1.heap.size:=by omega
   clear hQ H e7 e6
   go_loopg [7,8,9] n (fun g s7 _s8 _s9 wr=>∃t m:Nat,Hid (m=n+t)/\t<n/\g=n-t/\s7=.int .i64 (m:Int)/\QR wr p (bS F t)/\Arr wr V 3 (tab M (kQ F t))/\Below p w wr/\p+1<=wr.heap.size)
   case atStart=>exact⟨0,n,hid (by omega),by omega,by omega,rfl,e5,c6,a6,e8⟩
   case round=>
    clear e5 c6 a6 e8;obtain⟨t,m,c7,p0,hg,rfl,hQ,G,H,a0⟩:=hrel;have j5:=hid hg;clear hg;have b6:=c7.out;have hN:=HN.out;have hM:=HM.out;have a2:=tS F t (by omega)
    by_cases a4:t+1<n
    ·have v1:decide ((m:Int)<(M:Int))=true:=aG (by omega);have j6:m<M:=by omega
     have a7:=mT.all F t (by omega);obtain⟨A,L,s,a8,e9,ea,eb,es,_,_⟩:=uL (F.length+t) (bS F t) (by omega);have c8:bS F t≠[]:=by intro e;rw[e] at a2;simp at a2;omega
     have b7:=zK (bS F t) c8;have c9:(cA (bS F t)).2≠[]:=by intro e;rw[e] at b7;have:=b7.2.1;simp at this;omega
     have j7:=d8.out t (by omega) A (a8.mem_iff.1 (by simp));have j8:=d8.out t (by omega) L (a8.mem_iff.1 (by simp));have f0:=a7.lt A (a8.mem_iff.1 (by simp)) _ (HT.root_mem _);have f1:=a7.lt L (a8.mem_iff.1 (by simp)) _ (HT.root_mem _);have b8:=aG5 p (bS F t) wr hQ c8 a7.sorted (by omega);have f2:(cA (bS F t)).2.length<=1000000:=by have:=b7.2.1;omega
     have b9:=fun W h=>aG5 p (cA (bS F t)).2 W h c9 (aZm a7.sorted) f2
     have d0:=fun W h1 h2=>aG4 p (cA (cA (bS F t)).2).2 (A.1+L.1) m (.node (F.length+t) A.2 L.2) (by show F.length+t=m;omega) W h1 h2 (by have:=(zK _ c9).2.1;omega)
     have j9:=hid (show(cA (cA (bS F t)).2).2++[(A.1+L.1,.node (F.length+t) A.2 L.2)]=bS F (t+1) by rw[es];exact e9.symm);have d1:=hid (show ∀x,kQ F (t+1) x=if x=L.2.root then(m:Int) else if x=A.2.root then(m:Int) else kQ F t x from fun x=>by rw[<-ea,<-eb,b6,hN];rfl);rw[ea] at b8;rw[eb] at b9;rw[j9.out] at d0;obtain⟨I,f4⟩:∃r,r=A.2.root:=⟨_,rfl⟩;obtain⟨O,f5⟩:∃r,r=L.2.root:=⟨_,rfl⟩;rw[<-f4] at b8 f0 d1;rw[<-f5] at b9 f1 d1;have k0:I<M:=by omega
     have f6:O<M:=by omega
     have k1:(A.1+L.1)<=100000/\0<=A.1+L.1:=by have:=j1.out;omega
     obtain⟨S,hS⟩:∃S,S=A.1+L.1:=⟨_,rfl⟩;rw[<-hS] at d0 k1;have mS:A.1+L.1=S:=hS.symm;have k2:aJ.wrap S=S:=by rw[aM];omega
     have p1:aJ.wrap (A.1+L.1)=S:=by rw[mS,k2]
     clear hS;clear a7 a8 e9 ea eb es c8 b7 c9 j7 j8 f0 f1 f4 f5 f2 a2 b6 hN hM hQ;go_wp2_with fail;refine b8.mono ?_;rintro e w2 ⟨rfl,b3,b4,a5⟩;have G:=a5.arr G b5 (by decide);have H:=H.trans b4;have a0:=aR a0 a5.1;clear b8 b4 a5;go_wp2_with fail;refine(b9 _ b3).mono ?_;rintro e Z ⟨rfl,f7,f8,d2⟩;have G:=d2.arr G b5 (by decide);have H:=H.trans f8;have a0:=aR a0 d2.1;clear b9 f8 d2 b3;go_wp2_with fail
     have a9:Arr ((Z.alloc (.cells #[.int .i64 A.1,.int .i64 (I:Int)] 304)).alloc (.cells #[.int .i64 L.1,.int .i64 (O:Int)] 304)) Z.heap.size 304 [.int .i64 A.1,.int .i64 (I:Int)]:=(Arr.new Z _ [.int .i64 A.1,.int .i64 (I:Int)]).alloc _;have b0:Arr ((Z.alloc (.cells #[.int .i64 A.1,.int .i64 (I:Int)] 304)).alloc (.cells #[.int .i64 L.1,.int .i64 (O:Int)] 304)) (Z.heap.size+1) 304 [.int .i64 L.1,.int .i64 (O:Int)]:=by
      rw[show Z.heap.size+1=(Z.alloc (.cells #[.int .i64 A.1,.int .i64 (I:Int)] 304)).heap.size by simp];exact Arr.new _ _ _
     have b1:Below Z.heap.size Z ((Z.alloc (.cells #[.int .i64 A.1,.int .i64 (I:Int)] 304)).alloc (.cells #[.int .i64 L.1,.int .i64 (O:Int)] 304)):=bD (bD (aH _ _) _) _;generalize (Z.alloc (.cells #[.int .i64 A.1,.int .i64 (I:Int)] 304)).alloc (.cells #[.int .i64 L.1,.int .i64 (O:Int)] 304)=w4 at*
     have f9:V<Z.heap.size:=G.lt;have G:=G.below b1 G.lt;have g0:=f7.below b1;have H:=H.trans (b1.mono (by omega));have k3:=aR a0 b1.size;obtain⟨za,d3⟩:∃z,z=Z.heap.size:=⟨_,rfl⟩;have p2:V<za:=by rw[d3];exact f9
     rw[<-d3] at a9 b0 ⊢;have k4:=a9.cell (i:=1) rfl;have k5:=b0.cell (i:=1) rfl;have k6:=G.cell (lM M _ I k0);have k7:=G.cell (lM M _ O f6);have k8:=G.free I;have k9:=G.free O;have a1:=G.set I (.int .i64 (m:Int));rw[uE M (kQ F t) (fun x=>if x=I then(m:Int) else kQ F t x) I m (fun _ _=>rfl)] at a1;have l1:=a1.cell (lM M _ O f6);have l2:=a1.free O;have i1:(I:Int)<(M:Int):=by omega
     have i2:(O:Int)<(M:Int):=by omega
     have i3:(0:Int)<=(I:Int):=by omega
     have i4:(0:Int)<=(O:Int):=by omega
     clear d3 b1 f7 f9
     go_region
     have l3:Arr ((w4.setCell ⟨V,I,none⟩ (.int .i64 (m:Int))).setCell ⟨V,O,none⟩ (.int .i64 (m:Int))).drew V 3 (tab M (kQ F (t+1))):=by
      have:=a1.set O (.int .i64 (m:Int));rw[uE M _ (kQ F (t+1)) O m (fun d _=>d1.out d)] at this;exact this
     have a3:w4.grownBy ((w4.setCell ⟨V,I,none⟩ (.int .i64 (m:Int))).setCell ⟨V,O,none⟩ (.int .i64 (m:Int))).drew (some V):=qP (eU (gD _ V I _) (gD _ V O _));have l4:=g0.grown G a3 b5;have a9:=a9.grown a3 (by simp;omega);have b0:=b0.grown a3 (by simp;omega);have H:=H.grown a3 (by omega) (fun k hk=>by obtain rfl:=cC hk;omega);have g1:=aR k3 a3.size;generalize ((w4.setCell ⟨V,I,none⟩ (.int .i64 (m:Int))).setCell ⟨V,O,none⟩ (.int .i64 (m:Int))).drew=w5 at*
     clear a1 k6 k7 l1 k8 k9 l2 g0 G k4 k5 a3;have p3:=a9.cell (i:=0) rfl;have p4:=b0.cell (i:=0) rfl;go_wp2_with fail;refine(d0 _ l4 g1).mono ?_;rintro e w6 ⟨rfl,l5,l6,g2⟩;have l7:=g2.arr l3 b5 (by decide);go_wp2_with fail;have hg:=j5.out;have b6:=c7.out
     go_roundg (n-(t+1))
     case measure=>omega
     case rel=>exact⟨t+1,m+1,hid (by omega),a4,rfl,by go_num,l5,l7,H.trans l6,aR g1 g2.1⟩
    ·have v1:decide ((m:Int)<(M:Int))=false:=aE (by omega);have j6:¬m<M:=by omega
     have g3:t=F.length-1:=by omega
     rw[g3] at G;have d4:=hid (aZt F (by omega));have g4:2<=F.length:=by omega
     have g5:=hid (fun(D:Nat->Int) h0 hD=>aTc F g4 (D:=D) h0 hD);have g6:(nK F).length=n:=by rw[show(nK F).length=F.length from wD _ _];omega
     have g7:=hid g6;have d5:=hid (show M-1=2*F.length-2 by omega);obtain⟨U,g8⟩:∃U,U=kQ F (F.length-1):=⟨_,rfl⟩;rw[<-g8] at G d4 g5;obtain⟨j0,g9⟩:∃j0,j0=M-2:=⟨_,rfl⟩;have m5:aJ.wrap ((M:Int)-2)=(j0:Int):=by rw[aM];omega
     have m6:(M:Int)-2=(j0:Int):=by omega
     have i0:=hid (show j0+2=M by omega);have l8:=hid (show p<=wr.heap.size by omega);clear g4 b6 hN hM a2 a4 g3 g6 g8 g9 c7 hQ;obtain⟨J,rfl⟩:∃J,J=wr:=⟨_,rfl⟩;go_wp2_with (at_make;refine mkA jL rfl _ _ rfl M rfl rfl ?_ ?_;omega);have d6:Arr (J.alloc (.cells (gW (.int .i64 0) M) 3)) J.heap.size 3 (tab M (fun _=>0)):=by
      have:=Arr.made J 3 (.int .i64 0) M;rw[JB] at this;exact this
     have a1:=G.alloc (.cells (gW (.int .i64 0) M) 3);have a6:=H.alloc (o:=.cells (gW (.int .i64 0) M) 3) (by omega);have l9:=G.lt;generalize J.alloc (.cells (gW (.int .i64 0) M) 3)=W2 at*
     obtain⟨bd,i5⟩:∃bd,bd=J.heap.size:=⟨_,rfl⟩;rw[<-i5] at d6 l9 ⊢;have p5:p<bd:=by omega
     clear G H i5 l8
     go_loopg [11] (M-1) (fun g m0 wr=>∃(j:Nat) (q:Int) (D:Nat->Int),Hid (q=(j:Int)-1)/\j+1<=M/\g=j/\m0=.int .i64 q/\Hid (zV M U j D)/\Arr wr bd 3 (tab M D)/\Arr wr V 3 (tab M U)/\Below p w wr)
     case atStart=>exact⟨M-1,(j0:Int),fun _=>0,hid (by have:=i0.out;omega),by have:=i0.out;omega,rfl,rfl,hid (zV.start M U),d6,a1,a6⟩
     case round=>
      clear d6 a1 a6;obtain⟨j,q,D,HQ,p6,hg,rfl,HD,b2,G,H⟩:=hrel;have m7:=hid hg;clear hg
      by_cases g9:0<j
      ·obtain⟨y,hy⟩:∃y,j=y+1:=⟨j-1,by omega⟩;have hq:=HQ.out;obtain rfl:q=(y:Int):=by omega
       subst hy;have m8:=d5.out;obtain⟨u,hu,m9,p7⟩:=d4.out y (by omega);have d7:u<M:=by omega
       have i6:y<M:=by omega
       have r1:decide ((y:Int)>=0)=true:=aG (by omega);have r2:decide (0<=(y:Int))=true:=aG (by omega);have c1:=G.cell (lM M U y i6);rw[hu] at c1;have c2:=b2.cell (lM M D u d7);have c3:=b2.cell (lM M D y i6);have f3:=b2.free y;have o0:=HD.out.bd u (by omega) d7;have i7:=hid (HD.out.step (by omega) hu m9 d7 (fun x p8 p9=>by
        obtain⟨u2,e1,e2,_⟩:=d4.out x (by omega);rw[e1];omega))
       obtain⟨Du,i8⟩:∃x,x=D u:=⟨_,rfl⟩;rw[<-i8] at c2 o0 i7;have n1:aJ.wrap (Du+1)=Du+1:=by rw[aM];omega
       have n2:aJ.wrap ((y:Int)-1)=(y:Int)-1:=by rw[aM];omega
       have i1:(y:Int)<(M:Int):=by omega
       have i2:(u:Int)<(M:Int):=by omega
       have i3:(0:Int)<=(u:Int):=by omega
       have i4:(0:Int)<=(y:Int):=by omega
       clear hu i8 hq m8;go_wp2_with fail;have hg:=m7.out
       go_roundg y
       case measure=>omega
       case rel=>
        refine⟨y,_,_,hid rfl,by omega,rfl,by go_num,i7,?_,?_,?_⟩
        ·have:=b2.set y (.int .i64 (Du+1));rw[uE M D (fun d=>if d=y then Du+1 else D d) y (Du+1) (fun _ _=>rfl)] at this;exact this
        ·exact G.other ⟨bd,y,none⟩ (by simp;omega) _
        ·exact H.setCell (p:=⟨bd,y,none⟩) (by show p<=bd;omega) _
      ·have hq:=HQ.out;have r1:decide (q>=0)=false:=aE (by omega);have r2:decide (0<=q)=false:=aE (by omega);have r3:¬0<=q:=by omega
       obtain rfl:j=0:=by omega
       have o1:n<=M:=by omega
       have i1:(n:Int)<=(M:Int):=by omega
       have o2:=hid o1;clear hq;go_wp2_with fail;go_ret;have o3:=g5.out D (by rw[<-d5.out];exact HD.out.top) (fun x hx=>HD.out.down x (aO _) (by rw[d5.out];exact hx));have o4:=aZw (f:=D) g7.out (fun j hj=>o3 j (by rw[<-HN.out];exact hj));refine⟨_,rfl,⟨bd,(tab M D).drop n,by rw[g7.out];rfl,by rw[<-e0.out];omega,?_⟩,by rw[<-e0.out];exact H⟩;rw[<-o4,<-aZv n M D o2.out];exact b2
theorem Ow.openA {w:World} {B e:Nat} {v:Value} {d:List Value} (h:Ow w B e v d) (O:0<d.length):∃g cap R,v=.slice (some ⟨g,0,none⟩) d.length cap/\B<=g/\Arr w g e (d++R)/\d.length<=cap/\cap<=maxLen/\(d++R).length=cap:=by
 obtain⟨U,h⟩:=h;rcases h with⟨rfl,V⟩|⟨g,cap,A,rfl,F,G,H,I,J,L⟩
 ·omega
 ·rw[Nat.mul_one] at J L;have M:d++A.toList.drop d.length=A.toList:=by grind [kH,Ow,Arr]
  refine⟨g,cap,A.toList.drop d.length,rfl,F,?_,H,I,?_⟩
  ·unfold Arr;rw[M,Array.toArray_toList];exact G
  grind
theorem aZy {w:World} {g cap e:Nat} {d R:List Value} (h:Arr w g e (d++R)) (A:d.length<=cap) (F:cap<=maxLen):Rd w (.slice (some ⟨g,0,none⟩) d.length cap) d.length d:=
 ⟨_,_,rfl,A,F,.inr ⟨g,0,rfl,h.lt,fun j G=>by
  rw[iP];exact h.cell (by grind)⟩⟩
theorem TT {w:World} {g cap n:Nat} {l:List Int} {R:List Value} (h:Arr w g 3 (l.map (bQ .i64)++R)) (d:l.length=n) (A:n<=cap) (F:cap<=maxLen):RdI w (.slice (some ⟨g,0,none⟩) n cap) l:=by
 subst d;have:=aZy (cap:=cap) h (by simpa using A) F
 grind [RdI,Arr]
def sY (f:Int->Int) (l:List Int) (k:Nat):List Int:=(l.take k).map f++l.drop k
theorem aZz (f:Int->Int) (l:List Int) (k:Nat):(sY f l k).length=l.length:=by unfold sY;simp;omega
theorem aZ0 {f:Int->Int} {l:List Int} {k:Nat} {x:Int} (h:l[k]? =some x):(sY f l k)[k]? =some x:=by grind [sY]
theorem aZ1 {f:Int->Int} {l:List Int} {k:Nat} {x:Int} (h:l[k]? =some x):sY f l (k+1)=(sY f l k).set k (f x):=by
 have d:=(List.getElem?_eq_some_iff.1 h).1;unfold sY;rw[List.set_append_right _ _ (by simp;omega),aS,aQ,jF (by omega),Nat.sub_self,cG,h,pF d,List.set_cons_zero];simp
theorem aZ2 (f:Int->Int) (l:List Int) (k:Nat) (h:l.length<=k):sY f l k=l.map f:=by grind [sY,cD,List.drop_eq_nil_of_le]
theorem aZ3 (v:Value) (l:List Int) (w:World) (H:RdI w v l) (h2:2<=l.length) (a7:l.length<=258) (I:∀x∈l,0<=x/\x<=20000) (O:l.sum<=20000):
  Calls pG 135 #[v,.int .i64 20] w fun e w'=>∃v',e=.returned (.tuple #[v',.int .i64 0])/\nO w' w.heap.size v' (qX l)/\Below w.heap.size w w':=by
 have U:=hid (RP h2 a7 (fun x A=>(I x A).1) O);have a8:=hid (LB l (fun x A=>(I x A).1));have HS:=hid O;have a1:=aGx v l w H (by omega) (by omega);have hw:=aYr v l w H (fun x A=>by have:=I x A;omega);obtain⟨a,ca,rfl,b7,b8,hA⟩:=H.open;have t1:decide ((l.length:Int)<2)=false:=aE (by omega);have t2:decide ((l.length:Int)>258)=false:=aE (by omega);have t3:decide (258<(l.length:Int))=false:=aE (by omega);clear hA H O I;go_enter func135,ntmps135;go_wp2_with fail;refine hw.mono ?_;rintro e w' ⟨rfl,rfl⟩;go_wp2_with fail;refine a1.mono ?_
 rintro e w1 ⟨v1,rfl,ho,a2⟩;obtain⟨g,cap,R,rfl,a9,F,a3,a4,b0⟩:=Ow.openA ho (by rw[aS];omega);rw[aS] at a3 ⊢;have a5:=hid a4;unfold maxLen at a4;clear hw a1 ho b0;go_wp2_with fail
 go_loopg [7,8,37] l.length (fun gg _s7 _s8 b1 wr=>∃k:Nat,k<=l.length/\gg=l.length-k/\b1=.int .i64 (k:Int)/\Arr wr g 3 ((sY (fun x=>max x 1) l k).map (bQ .i64)++R)/\Below w'.heap.size w' wr)
 case atStart=>exact⟨0,aO _,rfl,rfl,F,a2⟩
 case round=>
  clear F a2;obtain⟨k,hk,V,rfl,F,J⟩:=hrel;have HG:=hid V;clear V;have L:=aZz (fun x=>max x 1) l k
  by_cases Z:k<l.length
  ·have u1:decide ((k:Int)<(l.length:Int))=true:=aG (by omega);obtain⟨x,A⟩:=eG Z;have c1:=F.cell (i:=k) (v:=.int .i64 x) (by rw[nE (by rw[aS,L];exact Z),eQ,aZ0 A];rfl);have f1:=F.free k;obtain⟨M,hM⟩:∃M,max x 1=M:=⟨_,rfl⟩;have a5:(if x<1 then 1 else x)=M:=by rw[<-hM];split<;>omega
   have HT:=hid (show(sY (fun x=>max x 1) l (k+1)).map (bQ .i64)++R=((sY (fun x=>max x 1) l k).map (bQ .i64)++R).set k (.int .i64 M) by
    rw[List.set_append_left _ _ (by rw[aS,L];exact Z),aZ1 A,List.map_set,<-hM])
   clear A L;go_wp2_with fail;have V:=HG.out
   go_roundg (l.length-(k+1))
   case measure=>omega
   case rel=>exact⟨k+1,by omega,rfl,by go_num,by rw[HT.out];exact F.set k _,J.setCell (p:=⟨g,k,none⟩) a9 _⟩
  ·have u1:decide ((k:Int)<(l.length:Int))=false:=aE (by omega);rw[aZ2 _ _ _ (by omega)] at F;have b2:=J.size;have G:=aZx (.slice (some ⟨g,0,none⟩) l.length cap) (l.map (fun x=>max x 1)) wr (TT F (by rw[aS]) a3 a5.out) (by rw[aS];omega) (by rw[aS];omega) (fun x A=>by
    obtain⟨y,_,rfl⟩:=List.mem_map.1 A;omega) (by have:=a8.out;have:=HS.out;omega)
   have b3:nK (l.map (fun x=>max x 1))=qX l:=rfl;rw[b3] at G;clear L F;go_wp2_with fail;refine G.mono ?_;rintro e w5 ⟨v9,rfl,a0,a6⟩;have b4:=aW J a6;have b5:=a0.base b2;have b6:=aF3 v9 (qX l) w5 (a0.rd (by rw[U.out.2];omega)) (by rw[U.out.2];omega);have HB:=hid (fun x A=>(U.out.1.2.2 x A).2);clear G J a6 a0;go_wp2_with fail
   go_loopg [9,10,11,56] 0 (fun g s9 _s10 _s11 _s56 wx=>g=0/\s9=v9/\wx=w5)
   case atStart=>exact⟨rfl,rfl,rfl⟩
   case round=>
    obtain⟨_,rfl,rfl⟩:=hrel;go_wp2_with fail;refine b6.mono ?_;rintro e w6 ⟨d,rfl,G,_,rfl⟩;have b9:=HB.out d G;have v1:decide (d>20)=false:=aE (by omega);have v2:decide (20<d)=false:=aE (by omega);go_wp2_with fail
    go_ret2
    exact⟨_,rfl,b5,b4⟩
end
section
open Go.RowKit Go Go.Shelf
attribute [local go_sem] Oper.semAt_some
def chV (b off n i:Nat):Value:=.slice (some ⟨b,off+10*i,none⟩) (min 10 (n-10*i)) (min 10 (n-10*i))
def chL (b off n:Nat):List Value:=(List.range ((n+9)/10)).map (chV b off n)
theorem FS (b off n:Nat):(chL b off n).length=(n+9)/10:=by simp[chL]
theorem aHc {b off n i:Nat} (h:i<(n+9)/10):(chL b off n)[i]? =some (chV b off n i):=by simp[chL,h]
theorem aZ8 {b off n i:Nat} (h:i<(n+9)/10):(chL b off n).take (i+1)=(chL b off n).take i++[chV b off n i]:=by rw[cG,aHc h];rfl
def KpA (d:Nat) (A B:World):Prop:=A.heap.size<=B.heap.size/\∀k o,(k=d\/k=d+1)->A.heap[k]? =some o->o.isCells=true->B.heap[k]? =some o
theorem KpA.trans {d:Nat} {A B C:World} (h:KpA d A B) (k:KpA d B C):KpA d A C:=by grind [KpA]
theorem KpA.put {d B:Nat} (_:d+1<B) (W:World) (l:Nat) (o A:Obj) (G:B<=l) (_:W.heap[l]? =some o) (_:o.isCells=false) (_:o.isWalk=false):KpA d W (W.putObj l A):=
 ⟨by simp,fun k q H F _=>by rw[World.putObj_heap_other (by omega)];exact F⟩
theorem aZ9 {B:Nat} {J:List Value->World->Prop} (h:AbidesFrom B J) {s:List Value} {A:World} (d:J s A) (k:Nat):J s (A.drewN k):=
 h s A _ none d ⟨rfl,rfl,rfl,aD _,fun _ _ _=>rfl⟩ (fun r e=>by cases e)
theorem bAa {b off n i:Nat} (h:i<(n+9)/10):(chL b off n).take i++chV b off n i::(chL b off n).drop (i+1)=chL b off n:=by grind [kH,chL,pF,FS,chV]
theorem KpA.arr {d b e:Nat} {A B:World} {l:List Value} (h:KpA d A B) (F:Arr A b e l) (G:b=d\/b=d+1):Arr B b e l:=h.2 b _ G F rfl
theorem bAb (n:Nat) (hn:1<=n) (A b off cap N:Nat) (a9:N<=cap) (hm:N<=1000000) (w:World) (F:Arr w A 26 [.slice (some ⟨b,off,none⟩) N cap]) (G:Arr w (A+1) 3 [.int .i64 10]):
  TU n pG 205 #[.pointer (some ⟨A,0,none⟩),.pointer (some ⟨A+1,0,none⟩)] (fun x=>#[x]) A (KpA A) (chL b off N) w:=by
 intro l J W O hJ _ hY H;have F:=F.below O F.lt;have G:=G.below O G.lt;refine callsIn_of_wp func205 rfl trivial ?_ rfl;simp only[ntmps205,List.size_toArray,List.length_cons,List.length_nil,Nat.reduceAdd,Nat.reduceSub,Array.replicate_succ,Array.replicate_zero,List.push_toArray,List.append_toArray,List.nil_append,List.cons_append];have HY:=hid hY;have HJ:=hid hJ;clear O hJ hY
 gi_wp2_with fail
 gi_loopg [4,5] ((N+9)/10) (fun g s4 _s5 wr=>∃k i:Nat,Hid (i=10*k)/\k<=(N+9)/10/\g=(N+9)/10-k/\s4=.int .i64 (i:Int)/\J ((chL b off N).take k) wr/\W.heap.size<=wr.heap.size/\Arr wr A 26 [.slice (some ⟨b,off,none⟩) N cap]/\Arr wr (A+1) 3 [.int .i64 10])
 case atStart=>exact⟨0,0,hid rfl,aO _,rfl,rfl,H,aD _,F,G⟩
 case round=>
  clear H F G;obtain⟨k,i,HI,hk,U,rfl,L,a3,F,G⟩:=hrel;have HG:=hid U;clear U;have hi:=HI.out;have c0:=F.cell (i:=0) rfl;have c1:=G.cell (i:=0) rfl
  by_cases b0:i<N
  ·have u1:decide ((i:Int)<(N:Int))=true:=aG (by omega);obtain⟨d,V⟩:∃d,d=N-i:=⟨_,rfl⟩;obtain⟨e,he⟩:∃e,e=min 10 d:=⟨_,rfl⟩;obtain⟨h,hh⟩:∃h,h=i+e:=⟨_,rfl⟩;have m1:min (10:Int) (d:Int)=(e:Int):=by omega
   have m2:(if(d:Int)<10 then(d:Int) else 10)=(e:Int):=by split<;>omega
   have m3:(if(10:Int)<(d:Int) then 10 else(d:Int))=(e:Int):=by split<;>omega
   have m4:aJ.wrap ((i:Int)+(e:Int))=(h:Int):=by rw[aM];omega
   have m5:(i:Int)+(e:Int)=(h:Int):=by omega
   have m6:aJ.wrap ((i:Int)+10)=(i:Int)+10:=by rw[aM];omega
   have b1:∀W,(vN 26 (.slice (some ⟨b,off,none⟩) N cap) (some (.int .i64 (i:Int))) none none).run pG W=.ok (.slice (some ⟨b,off+i,none⟩) d (cap-i)) W:=fun W=>by
    have k1:(0:Int)<=(i:Int):=by omega
    have k2:(i:Int)<=(N:Int):=by omega
    have M:i<=N:=by omega
    have I:¬cap=i:=by omega
    subst V
    by_cases H:i=0
    ·subst H;simp[go_sem,I,gP]
    ·simp[go_sem,M,I,gP,H]
   have b2:∀W,(vN 26 (.slice (some ⟨b,off,none⟩) N cap) (some (.int .i64 (i:Int))) (some (.int .i64 (h:Int))) (some (.int .i64 (h:Int)))).run pG W=.ok (.slice (some ⟨b,off+i,none⟩) e e) W:=fun W=>by
    have k1:(0:Int)<=(i:Int):=by omega
    have k2:i<=h:=by omega
    have M:h<=cap:=by omega
    have I:¬h=i:=by omega
    have k5:h-i=e:=by omega
    by_cases H:i=0
    ·subst H;simp[go_sem,M,I,k5,gP]
    ·simp[go_sem,k2,M,I,k5,gP,H]
   have hx:Value.slice (some ⟨b,off+i,none⟩) e e=chV b off N k:=by unfold chV;rw[<-hi,<-V,<-he]
   have HK:=hid (show k<(N+9)/10 by omega);have HX:=hid hx;clear V he hh hi hx
   gi_wp2_with fail
   gi_quiet (fail)
   have a0:Arr (wr.drewN nq) A 26 [.slice (some ⟨b,off,none⟩) N cap]:=F;have a4:Arr (wr.drewN nq) (A+1) 3 [.int .i64 10]:=G;have a1:=aZ9 HJ.out L nq;have a5:W.heap.size<=(wr.drewN nq).heap.size:=a3;generalize wr.drewN nq=W2 at*
   obtain⟨fn,tmps,assign,body,hy,hR⟩:=HY.out _ (chV b off N k) W2 a1 ⟨_,bAa HK.out⟩;rw[<-HX.out] at hy;rw[<-aZ8 HK.out] at hR;have d0:=a0.cell (i:=0) rfl;clear c0 c1 F G L a1
   gi_wp2_with fail
   refine hR.mono ?_;rintro e2 W3 ⟨rfl,a6,Z⟩
   ·have a7:=Z.arr a0 (.inl rfl);have a2:=Z.arr a4 (.inr rfl);have d1:=a2.cell (i:=0) rfl;have a8:=aR a5 Z.1
    gi_wp2_with fail
    have U:=HG.out;have hi:=HI.out
    gi_roundg ((N+9)/10-(k+1))
    case measure=>omega
    case rel=>exact⟨k+1,i+10,hid (by omega),by omega,rfl,by go_num,a6,a8,a7,a2⟩
  ·have u1:decide ((i:Int)<(N:Int))=false:=aE (by omega);rw[cD (by rw[FS];omega)] at L;clear hi
   gi_wp2_with fail
   refine⟨rfl,_,results_none rfl _ _ _,⟨_,rfl⟩,L⟩
end
end Go.Proofs.YtihbnmlinkbnkaaGreatDoor
