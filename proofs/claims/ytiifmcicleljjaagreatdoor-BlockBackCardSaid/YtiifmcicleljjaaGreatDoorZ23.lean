/-
  Texts put together (part 23): the walks and the plain laws on which the statement stands.
-/
import Derived.Test.YtiifmcicleljjaaGreatDoorZ17
set_option maxRecDepth 100000
set_option maxHeartbeats 12800000
open Go renaming bodyPost_ret->gJ,results_cell_row->tR
open Go.RowKit.Below renaming refl->aB
open Go.Value renaming slice->lK
open List renaming length_map->bJ,length_take->aX,take_of_length_le->cS
open Nat renaming le_refl->aA,le_succ->pI,lt_succ_self->sG,zero_le->aU
namespace Go.Proofs.YtiifmcicleljjaaGreatDoor
open Go.RowKit Go Go.Shelf
theorem aBs (v:Value) (raw:List Int) (most:Int) (w:World) (hr:RdI w v raw) (hx:∀x∈raw,-9223372036854775808<=x/\x<=9223372036854775807) (hl:most<=1000000):
  Calls Tryz.prog 18 #[v,.int .i64 most] w fun e w'=>e=.returned (.agg #[.string (mkS (aD (jO (raw.take most.toNat)))),.int .i64 ((jO (raw.take most.toNat)).length:Int)])/\Below w.heap.size w w':=by
 have HX:=hid hx;have hres:=Arr.new w 29 [.string ⟨#[]⟩,.int .i64 0];have HS1:=hid (show(w.alloc (.cells #[.string ⟨#[]⟩,.int .i64 0] 29)).heap.size=w.heap.size+1 by simp);have HB1:=hid (bD (aB w.heap.size w) (.cells #[.string ⟨#[]⟩,.int .i64 0] 29));change Arr (w.alloc (.cells #[.string ⟨#[]⟩,.int .i64 0] 29)) _ _ _ at hres;obtain⟨a,ca,rfl,hca,hma,hA⟩:=hr.open;unfold maxLen at hma;have HA:=hid (fun h=>hA h);clear hr hA hx;go_enter Tryz.func18,Tryz.ntmps18;go_wp2_with fail;generalize (w.alloc (.cells #[.string ⟨#[]⟩,.int .i64 0] 29))=w1 at*
 go_loopg [5,6] raw.length (fun g s5 s6 wr=>∃(k:Nat) (v5:Value),v5=s5/\k<=raw.length/\k<=most.toNat/\g=raw.length-k/\s6=.int .i64 (k:Int)/\OwI wr (w.heap.size+1) v5 (bI (jO (raw.take k)))/\Below (w.heap.size+1) w1 wr)
 case atStart=>exact⟨0,_,rfl,aU _,aU _,rfl,rfl,OwI.nil _ _,aB _ _⟩
 case round=>
  obtain⟨k,s5,rfl,hk,hkm,hg,rfl,hown,hbel⟩:=hrel;have HG:=hid hg;clear hg;have hlen:(bI (jO (raw.take k))).length=k:=aPu raw k hk;have hbs:w.heap.size+1<=wr.heap.size:=by have:=hbel.size;have:=HS1.out;omega
  by_cases hlt:k<raw.length
  ·have u1:decide ((k:Int)<(raw.length:Int))=true:=decide_eq_true (by omega)
   by_cases hm:(k:Int)<most
   ·have u2:decide ((k:Int)<most)=true:=decide_eq_true hm;obtain⟨b,off,rfl,hb,hc⟩:=HA.out (by omega);obtain⟨x,hxx⟩:=dH hlt;have c1:=(hbel.cell (p:=⟨b,off+k,none⟩) (by show b<w.heap.size+1;omega)).trans ((HB1.out.cell (p:=⟨b,off+k,none⟩) hb).trans (hc k x hxx));obtain⟨x1,x2⟩:=HX.out x (List.mem_of_getElem? hxx);have HT:=hid (aPt hxx);have HP:=hid (fun W=>aPr x 2 W x1 x2 (by decide) (by decide));have HL:=hid hlen;clear hc hxx hlen;go_wp2_with fail;refine(HP.out _).mono ?_;rintro e w2 ⟨rfl,rfl⟩
    go_wp2_with (at_builtin;refine eN rfl _ _ rfl (w.heap.size+1) _ _ rfl (OwI.alloc hown _) wr.heap.size (gA x 2) rfl ?_ ?_ ?_ ?_;(exact bS _ _ _);(rw[HL.out];omega);(simp;omega);intro v' w3 r1 r2 r3);have hg:=HG.out
    go_roundg (raw.length-(k+1))
    case measure=>omega
    case rel=>exact⟨k+1,_,rfl,by omega,by omega,rfl,by go_num,by rw[HT.out];exact r1,(hbel.alloc (by omega) _).trans r2⟩
   ·have u2:decide ((k:Int)<most)=false:=decide_eq_false hm;have hE:raw.take most.toNat=raw.take k:=by rw[show most.toNat=k by omega]
    have hof:=uG s5 (jO (raw.take k)) wr (OwI.rd hown) (by unfold jO;rw[bJ,aX];omega);obtain⟨S,hS⟩:∃S,S=mkS (aD (jO (raw.take k))):=⟨_,rfl⟩;obtain⟨L,hL⟩:∃L,L=((jO (raw.take k)).length:Int):=⟨_,rfl⟩;rw[<-hS,<-hL] at hof;rw[<-hE] at hS hL;have HSS:=hid hS;have HLL:=hid hL;obtain⟨A,n,c,e5⟩:∃A n c,s5=lK A n c:=by
     obtain⟨A,c,e,-⟩:=(OwI.rd hown).open;exact⟨A,_,c,e⟩
    subst e5;clear hE hS hL hown hlen;go_wp2_with fail;refine hof.mono ?_;rintro e w4 ⟨rfl,hb4⟩;have hres4:=(hres.below hbel (sG _)).below hb4 (by omega);have hBB:=hid (HB1.out.trans ((hbel.mono (pI _)).trans (hb4.mono (by omega))));have r0:=hres4.free 0;have r1:=hres4.free 1;have r2:=hres4.cell (i:=0) rfl;have r3:=hres4.cell (i:=1) rfl;go_wp2_with fail;refine gJ (tR rfl _ _ w.heap.size _ _ (0,0) _ rfl ((hres4.set 0 _).set 1 _) Tryz.underlying29 rfl mF) rfl ?_
    exact⟨(by rw[HSS.out,HLL.out];first|done|rfl),(hBB.out.setCell (p:=⟨w.heap.size,0,none⟩) (aA _) _).setCell (p:=⟨w.heap.size,1,none⟩) (aA _) _⟩
  ·have u1:decide ((k:Int)<(raw.length:Int))=false:=decide_eq_false (by omega);have hE:raw.take most.toNat=raw.take k:=by rw[cS (by omega),cS (by omega)]
   have hof:=uG s5 (jO (raw.take k)) wr (OwI.rd hown) (by unfold jO;rw[bJ,aX];omega);obtain⟨S,hS⟩:∃S,S=mkS (aD (jO (raw.take k))):=⟨_,rfl⟩;obtain⟨L,hL⟩:∃L,L=((jO (raw.take k)).length:Int):=⟨_,rfl⟩;rw[<-hS,<-hL] at hof;rw[<-hE] at hS hL;have HSS:=hid hS;have HLL:=hid hL;obtain⟨A,n,c,e5⟩:∃A n c,s5=lK A n c:=by
    obtain⟨A,c,e,-⟩:=(OwI.rd hown).open;exact⟨A,_,c,e⟩
   subst e5;clear hE hS hL hown hlen;go_wp2_with fail;refine hof.mono ?_;rintro e w4 ⟨rfl,hb4⟩;have hres4:=(hres.below hbel (sG _)).below hb4 (by omega);have hBB:=hid (HB1.out.trans ((hbel.mono (pI _)).trans (hb4.mono (by omega))));have r0:=hres4.free 0;have r1:=hres4.free 1;have r2:=hres4.cell (i:=0) rfl;have r3:=hres4.cell (i:=1) rfl;go_wp2_with fail;refine gJ (tR rfl _ _ w.heap.size _ _ (0,0) _ rfl ((hres4.set 0 _).set 1 _) Tryz.underlying29 rfl mF) rfl ?_
   exact⟨(by rw[HSS.out,HLL.out];first|done|rfl),(hBB.out.setCell (p:=⟨w.heap.size,0,none⟩) (aA _) _).setCell (p:=⟨w.heap.size,1,none⟩) (aA _) _⟩
end Go.Proofs.YtiifmcicleljjaaGreatDoor
