/- The walks and the plain laws, part 14. -/
import Derived.Test.YtiifmcicleljjaaGreatDoorT10
set_option maxRecDepth 100000
set_option maxHeartbeats 12800000
set_option linter.unusedVariables false
open Go renaming grownBy_putObj'->mC,run_takeDeferred->sJ,wpAnyH_ready->fL,wpAnyH_take->aQ
open Go.Act renaming put->aJ
open Go.AllReadyH renaming cons->fA,nil->fM
open Go.IntKind renaming u64->fU,wrap_u64->gF
open Go.KeepsOthers renaming drew->aC3,setCell->iH
open Go.RowKit.Below renaming refl->aB
open List renaming getD_eq_getElem?_getD->aV,getElem?_cons_succ->aS,getElem?_cons_zero->aP,getElem?_eq_getElem->aN,getElem?_map->dY,getElem?_toArray->aR,getElem_mem->gT,map_append->fI,mem_of_getElem?->cH,nil_append->iG,setIfInBounds_toArray->aK,set_cons_succ->aG,set_cons_zero->aH,take_length->kE
open Nat renaming le_refl->aA,le_trans->aW,lt_of_lt_of_le->dR,pow_le_pow_right->jC
open Option.some renaming injEq->iP
open Or renaming inl->aT
namespace Go.Proofs.YtiifmcicleljjaaGreatDoor
section
open Go.RowKit Go Go.Shelf
attribute [local go_sem] Oper.semAt_some
theorem aAg:∀(l:List Int) (a:Int),a<=l.foldl max a/\(∀x∈l,x<=l.foldl max a)/\(l.foldl max a=a\/l.foldl max a∈l)
 |[],a=>⟨by simp,fun x d=>by simp at d,.inl rfl⟩
 |y::l,a=>by
  obtain⟨E,z,A⟩:=aAg l (max a y);rw[List.foldl_cons];refine⟨by omega,fun x d=>?_,?_⟩
  ·rcases List.mem_cons.1 d with rfl|d
   ·omega
   ·exact z x d
  ·rcases A with h|h
   ·rw[h];rcases Int.le_total a y with q|q
    ·rw[Int.max_eq_right q];exact .inr (List.mem_cons_self ..)
    ·rw[Int.max_eq_left q];exact .inl rfl
   ·exact .inr (List.mem_cons_of_mem _ h)
theorem aAh {l:List Int} (h:fY l):kF l∈l/\∀x∈l,x<=kF l:=by
 obtain⟨E,d,A⟩:=aAg l 0;refine⟨?_,d⟩;rcases A with q|q
 ·exfalso;have z:0<l.length:=by have:=h.1;omega
  have F:=h.2.2 _ (gT z);have:=d _ (gT z);omega
 ·exact q
theorem aQc {l:List Int} {n:Nat} (h:0<bU l n):((n:Nat):Int)∈l:=by
 unfold bU at h;obtain⟨x,d,z⟩:=List.countP_pos_iff.1 h;have:x=(n:Int):=by simpa using z
 rw[<-this];exact d
theorem MR {l:List Int} {n:Nat} (h:((n:Nat):Int)∈l):0<bU l n:=by
 unfold bU;exact List.countP_pos_iff.2 ⟨_,h,by simp⟩
def xB (l:List Int) (s:List UInt8) (a:Nat) (S:List Nat):Prop:=∀n∈S,aO s.length (a:Int) n=0/\∀i,i<l.length->bG l i=n->¬gZ l s a i
theorem MS {l:List Int} {n k:Nat}:n∈iY l k↔n<k/\0<bU l n:=by
 unfold iY;rw[List.mem_filter,List.mem_range,decide_eq_true_eq];omega
theorem aQd {l:List Int} {s:List UInt8} {a n:Nat} (z:bL l=0) (F:0<bU l n) (h:xB l s a (iY l n)) (d:aO s.length (a:Int) n≠0):aO s.length (a:Int) n=2/\bZ l s (a:Int)=(0,0,2):=by
 have A:=eH z;have G:8*(s.length:Int)-(n:Int)<(a:Int):=by
  unfold aO at d;rw[if_neg (by omega)] at d;split at d
  ·assumption
  ·exact absurd rfl d
 refine⟨by unfold aO;rw[if_neg (by omega),if_pos G],?_⟩;rw[uD z,if_pos]
 ·have:=(aAh A.1).2 _ (aQc F);omega
 ·intro i hi E;have H:=jG A.1 hi
  by_cases I:bG l i<n
  ·have J:((bG l i:Nat):Int)∈l:=cH H.2.2;exact(h (bG l i) (MS.2 ⟨I,MR J⟩)).2 i hi rfl E
  ·have:=E.1;omega
theorem aQe {l:List Int} {s:List UInt8} {a:Nat} (A:bL l=0) (h:xB l s a (iY l 21)):bZ l s (a:Int)=(0,0,3):=by
 have d:=eH A;obtain⟨z,J⟩:=aAh d.1;have E:=d.1.2.2 _ z;rw[uD A,if_neg]
 ·obtain⟨M,F⟩:∃M:Nat,kF l=(M:Int):=⟨(kF l).toNat,by omega⟩;rw[F] at z E ⊢;have:=fQ (h M (MS.2 ⟨by omega,MR z⟩)).1;omega
 ·intro i hi G;have H:=jG d.1 hi;have I:((bG l i:Nat):Int)∈l:=cH H.2.2;exact(h (bG l i) (MS.2 ⟨by omega,MR I⟩)).2 i hi rfl G
theorem aQf {l:List Int} {s:List UInt8} {a n k y:Nat} (z:bL l=0) (A:aO s.length (a:Int) n=0) (E:(lR l n l.length)[k]? =some y) (F:aE s (a:Int) n=fC l n+k):bZ l s (a:Int)=((y:Int),(a:Int)+(n:Int),0):=by
 have J:=eH z;obtain⟨G,H,I⟩:=PF l n l.length (aA _) k y E;have d:bG l y=n:=by unfold bG;rw[H];rfl
 have:=uB z G ((KP (by rw[d];exact A)).2 (by rw[d,F];unfold fO;rw[d,I]));rw[this,d]
theorem aQg (l:List Int) (s:List UInt8) (a:Nat):xB l s a []:=fun n d=>by simp at d
theorem aQh {l:List Int} {s:List UInt8} {a n:Nat} {S:List Nat} (E:fY l) (h:xB l s a S) (z:aO s.length (a:Int) n=0) (F:¬(fC l n<=aE s (a:Int) n/\aE s (a:Int) n<fC l n+bU l n)):xB l s a (S++[n]):=fun m d=>by
 rcases List.mem_append.1 d with d|d
 ·exact h m d
 ·obtain rfl:=List.mem_singleton.1 d;refine⟨z,fun i hi A G=>F ?_⟩;have:=(KP (by rw[A];exact z)).1 G;have H:=BM E hi;rw[A] at this H;omega
theorem aQi (w:World) (t1 d z A E:TypeId) (v1 v2 v3 v4 v5:Value):∀W,W=((((w.alloc (.cells #[v1] t1)).alloc (.cells #[v2] d)).alloc (.cells #[v3] z)).alloc (.cells #[v4] A)).alloc (.cells #[v5] E)->
  (Arr W w.heap.size t1 [v1]/\Arr W (w.heap.size+1) d [v2]/\Arr W (w.heap.size+2) z [v3]/\Arr W (w.heap.size+3) A [v4]/\Arr W (w.heap.size+4) E [v5])/\Below w.heap.size w W/\W.heap.size=w.heap.size+5:=by
 rintro W rfl;have J:=Arr.new w t1 [v1];have F:=Arr.new (w.alloc (.cells #[v1] t1)) d [v2];have G:=Arr.new ((w.alloc (.cells #[v1] t1)).alloc (.cells #[v2] d)) z [v3];have H:=Arr.new (((w.alloc (.cells #[v1] t1)).alloc (.cells #[v2] d)).alloc (.cells #[v3] z)) A [v4];have I:=Arr.new ((((w.alloc (.cells #[v1] t1)).alloc (.cells #[v2] d)).alloc (.cells #[v3] z)).alloc (.cells #[v4] A)) E [v5];have e:∀(W:World) (o:Obj),(W.alloc o).heap.size=W.heap.size+1:=fun W o=>by simp
 rw[e] at F;rw[e,e] at G;rw[e,e,e] at H;rw[e,e,e,e] at I;refine⟨⟨(((J.alloc _).alloc _).alloc _).alloc _,((F.alloc _).alloc _).alloc _,(G.alloc _).alloc _,H.alloc _,I⟩,?_,by simp⟩;exact(((((aB _ w).alloc (aA _) _).alloc (by simp) _).alloc (by simp;omega) _).alloc (by simp;omega) _).alloc (by simp;omega) _
theorem MT {W w:World} {z:Nat} {t1 d A:TypeId} {E F G:Value} (H:Arr W (z+1+1) t1 [E]) (I:Arr W (z+1+1+1) d [F]) (J:Arr W (z+1+1+1+1) A [G]) (L:Below z w W) (v1 v2 v3:Value):
  Arr (((W.setCell ⟨z+1+1,0,none⟩ v1).setCell ⟨z+1+1+1,0,none⟩ v2).setCell ⟨z+1+1+1+1,0,none⟩ v3) (z+1+1) t1 [v1]/\
  Arr (((W.setCell ⟨z+1+1,0,none⟩ v1).setCell ⟨z+1+1+1,0,none⟩ v2).setCell ⟨z+1+1+1+1,0,none⟩ v3) (z+1+1+1) d [v2]/\
  Arr (((W.setCell ⟨z+1+1,0,none⟩ v1).setCell ⟨z+1+1+1,0,none⟩ v2).setCell ⟨z+1+1+1+1,0,none⟩ v3) (z+1+1+1+1) A [v3]/\
  Below z w (((W.setCell ⟨z+1+1,0,none⟩ v1).setCell ⟨z+1+1+1,0,none⟩ v2).setCell ⟨z+1+1+1+1,0,none⟩ v3):=
 ⟨((H.set 0 v1).other _ (by show _≠_;simp only[ne_eq];omega) v2).other _ (by show _≠_;simp only[ne_eq];omega) v3,((I.other _ (by show _≠_;simp only[ne_eq];omega) v1).set 0 v2).other _ (by show _≠_;simp only[ne_eq];omega) v3,((J.other _ (by show _≠_;simp only[ne_eq];omega) v1).other _ (by show _≠_;simp only[ne_eq];omega) v2).set 0 v3,
  ((L.setCell (p:=⟨z+1+1,0,none⟩) (by show z<=z+1+1;omega) _).setCell (p:=⟨z+1+1+1,0,none⟩) (by show z<=z+1+1+1;omega) _).setCell (p:=⟨z+1+1+1+1,0,none⟩) (by show z<=z+1+1+1+1;omega) _⟩
theorem aQj (n:Nat) (hn:3<=n) (v:Value) (l:List Int) (s:ByteArray) (a:Nat) (w:World) (hr:RdI w v l) (hE:bL l=0) (hs:s.size<=1000000) (ha:a<=100000000):
  CallsIn Fence.wide n Tryz.prog 165 #[v,.string s,.int .i64 (a:Int)] w fun e w'=>e=.returned (.tuple #[.int .i64 (bZ l s.data.toList (a:Int)).1,.int .i64 (bZ l s.data.toList (a:Int)).2.1,.int .i64 (bZ l s.data.toList (a:Int)).2.2])/\Below w.heap.size w w':=by
 have h1:1<=n:=by omega
 obtain⟨ad,O,rfl,i4,e0,hA⟩:=hr.open;unfold maxLen at e0;have a5:=eH hE;have HO:=hid a5.1;have e1:=hid (fun k (hk:k<=20)=>DJ (i:=0) a5.1 a5.2 hk);have e2:=a5.1.2.1;have i5:=a5.1.1;have HE:=hid hE;have HL:=hid (show s.data.toList.length=s.size by simp);obtain⟨I,J,rfl,c0,c1⟩:=hA (by omega);have e3:=hid c1;refine callsIn_of_wp_marks Tryz.func165 rfl trivial ?_ rfl;simp only[Tryz.ntmps165,List.size_toArray,List.length_cons,List.length_nil,Nat.reduceAdd,Nat.reduceSub,Array.replicate_succ,Array.replicate_zero,List.push_toArray,List.append_toArray,iG,List.cons_append]
 clear c1 hA a5
 gi_wp2_with fail
 obtain⟨⟨Y,Z,H,d,G⟩,b4,e9⟩:=aQi w 9 3 3 3 30 (.string s) (.int .i64 (a:Int)) (.int .i64 0) (.int .i64 0) (.int .i64 0) _ rfl;generalize ((((w.alloc (.cells #[.string s] 9)).alloc (.cells #[.int .i64 (a:Int)] 3)).alloc (.cells #[.int .i64 0] 3)).alloc (.cells #[.int .i64 0] 3)).alloc (.cells #[.int .i64 0] 30)=w0 at*
 refine⟨trivial,(callsIn_wide.2 (zS _ l _ (hr.below b4))).mono ?_⟩;rintro e w1 ⟨rfl,a3⟩;rw[hE];obtain⟨z,hz⟩:∃z,z=w.heap.size:=⟨_,rfl⟩;have f0:=a3.size;have Y:=Y.below a3 (by omega);have Z:=Z.below a3 (by omega);have H:=H.below a3 (by omega);have d:=d.below a3 (by omega);have G:=G.below a3 (by omega);have c2:Below w.heap.size w w1:=b4.trans (a3.mono (by omega));clear b4 a3 hr hE
 gi_wp2_with fail
 refine⟨trivial,(aAa (n-1) I J l.length O _).mono ?_⟩;rintro e w' ⟨rfl,rfl⟩;have g9:=Arr.new w1 27 [.slice (some ⟨I,J,none⟩) l.length O];have Y:=Y.alloc (.cells #[.slice (some ⟨I,J,none⟩) l.length O] 27);have Z:=Z.alloc (.cells #[.slice (some ⟨I,J,none⟩) l.length O] 27);have H:=H.alloc (.cells #[.slice (some ⟨I,J,none⟩) l.length O] 27);have d:=d.alloc (.cells #[.slice (some ⟨I,J,none⟩) l.length O] 27);have G:=G.alloc (.cells #[.slice (some ⟨I,J,none⟩) l.length O] 27);have b5:=c2.alloc (o:=.cells #[.slice (some ⟨I,J,none⟩) l.length O] 27) (by omega)
 have f1:(w1.alloc (.cells #[.slice (some ⟨I,J,none⟩) l.length O] 27)).heap.size=w1.heap.size+1:=by simp
 have f2:∀i x,l[i]? =some x->(w1.alloc (.cells #[.slice (some ⟨I,J,none⟩) l.length O] 27)).cell? ⟨I,J+i,none⟩=some (.int .i64 x):=fun i x hi=>(b5.cell (p:=⟨I,J+i,none⟩) c0).trans (e3.out i x hi)
 obtain⟨Bs,c3⟩:∃Bs,Bs=w1.heap.size:=⟨_,rfl⟩
 gi_wp2_with fail
 change Arr (w1.alloc (.cells #[.slice (some ⟨I,J,none⟩) l.length O] 27)) _ _ _ at g9;generalize w1.alloc (.cells #[.slice (some ⟨I,J,none⟩) l.length O] 27)=w3 at*
 rw[<-c3] at g9 f1 f0 ⊢;rw[<-hz] at Y Z H d G e9 b5 c0 ⊢;have HZ:=hid hz;clear c3 hz c2;refine ZX (w0:=w3) (Kp:=dP (some (z+1+1))) (Pre:=xA l) (encs:=tI l) h1 (gf:=198) (lb:=#[.pointer (some ⟨Bs,0,none⟩)]) rfl (enters_of Tryz.func198 (by kernel_rfl) rfl)
  (aAb (n-1) (by omega) Bs (z+1+1) I J O l HE.out w3 g9 f2 (by omega) (by omega) (by omega) (by omega)) (aB _ _) (fun _=>rfl)
  (fun h k=>h.trans k) (fun _ _ h=>h.some _) aAc
  (fun a6 W=>(Hid (xB l s.data.toList a (a6.map (·.1)))/\Arr W z 9 [.string s]/\Arr W (z+1) 3 [.int .i64 (a:Int)]/\Arr W (z+1+1) 3 [.int .i64 0]/\Arr W (z+1+1+1) 3 [.int .i64 0]/\Arr W (z+1+1+1+1) 30 [.int .i64 0])/\Below z w W)
  (fun c _ W=>(c=.ret/\∃r1 r2 r3,Hid (bZ l s.data.toList (a:Int)=(r1,r2,r3))/\Arr W (z+1+1) 3 [.int .i64 r1]/\Arr W (z+1+1+1) 3 [.int .i64 r2]/\Arr W (z+1+1+1+1) 30 [.int .i64 r3])/\Below z w W)
  (fun a6 A B ⟨⟨h,k1,k2,k3,k4,k5⟩,k6⟩ a0=>⟨⟨h,k1.below a0 (by omega),k2.below a0 (by omega),k3.below a0 (by omega),k4.below a0 (by omega),k5.below a0 (by omega)⟩,k6.trans (a0.mono (by omega))⟩)
  (fun c a6 A B ⟨⟨h,r1,r2,r3,h',k1,k2,k3⟩,k6⟩ a0=>⟨⟨h,r1,r2,r3,h',k1.below a0 (by omega),k2.below a0 (by omega),k3.below a0 (by omega)⟩,k6.trans (a0.mono (by omega))⟩)
  ⟨⟨hid (aQg _ _ _),Y,Z,H,d,G⟩,b5⟩
  (fun x a' W=>∃sb,w3.heap.size<=sb/\Arr W sb 203 [.int .i64 (x.1:Int),.int .u64 (fC l x.1:Int),x.2]/\a'={tmps:=#[.slice (some ⟨I,J,none⟩) l.length O,.string s,.int .i64 (a:Int),undef,.pointer (some ⟨z,0,none⟩),.pointer (some ⟨z+1,0,none⟩),.pointer (some ⟨z+1+1,0,none⟩),.pointer (some ⟨z+1+1+1,0,none⟩),.pointer (some ⟨z+1+1+1+1,0,none⟩),.int .i64 0,.pointer (some ⟨sb,0,none⟩),undef,undef,.slice (some ⟨I,J,none⟩) l.length O,.int .i64 0,.int .i64 0,.bool false,undef,.slice (some ⟨I,J,none⟩) l.length O,.func (.func 198) #[] #[.pointer (some ⟨Bs,0,none⟩)],.agg #[.int .i64 (x.1:Int),.int .u64 (fC l x.1:Int),x.2],undef,undef,undef,undef,undef,undef,undef,undef,undef,undef,undef,undef,undef,undef,undef,undef,undef,undef,undef,undef,undef,undef,undef,undef,undef,undef,undef,undef,undef,undef],defers:=[]})
  (fun x a' A A' ⟨sb,k1,k2,k3⟩ hk=>⟨sb,k1,hk.arr k2 (by simp),k3⟩) ?assign ?body ?done ?stop
 case assign=>
  rintro l0 B a6 ⟨m,u⟩ W K hI hB f3 f4 T;obtain⟨a',b6,a8,_,_,_⟩:=(OwI.rd f4.2.2.2.2).open;dsimp only at a8;subst a8;unfold tI
  gi_wp2
  exact T _ _ (bD (aB _ _) _) ⟨W.heap.size,by omega,Arr.new W _ [_,_,_],rfl⟩
 case body=>
  rintro l0 B a6 ⟨m,u⟩ a' W ⟨⟨b0,Y,Z,H,d,G⟩,a4⟩ hB f3 ⟨_,⟨f5,b7⟩,c4,b8,ho⟩ ⟨sb,i6,hS,rfl⟩;dsimp only at f5 b7 c4 b8 ho hS ⊢;obtain⟨C,hC⟩:∃C,C=bU l m:=⟨_,rfl⟩;have c5:(lI l m l.length).length=C:=by rw[ET l m _ (aA _),kE,hC]
  have c6:(lR l m l.length).length=C:=by rw[BO l m _ (aA _),kE,hC]
  have i7:C<=258:=by rw[hC];unfold bU;exact aW List.countP_le_length e2
  have f9:fC l m<=1048576:=by
   have:=e1.out m b7;unfold iW at this;omega
  obtain⟨a',b6,a8,h4,h5,h6⟩:=(OwI.rd ho).open;rw[c5] at a8 h4 h6;obtain⟨bu,ou,rfl,i8,c7⟩:=h6 (by omega);subst a8;have a2:=aQd (s:=s.data.toList) (a:=a) HE.out (by omega:0<bU l m);rw[<-b8] at a2;have a2:=a2 b0.out;have a1:=fun k y=>aQf (s:=s.data.toList) (a:=a) (n:=m) (k:=k) (y:=y) HE.out
  have U:=aQh (s:=s.data.toList) (a:=a) (n:=m) HO.out b0.out;rw[HL.out] at a2 a1 U;have a7:=fun W=>sT s (a:Int) m W hs (by omega) (by omega) (by omega)
  have c8:=iA s.data.toList (a:Int) m;have g0:aE s.data.toList (a:Int) m<1048576:=dR c8 (aW (jC (by decide) b7) (by decide));obtain⟨E,c9⟩:∃E,E=aO s.size (a:Int) m:=⟨_,rfl⟩;obtain⟨V,hV⟩:∃V,V=aE s.data.toList (a:Int) m:=⟨_,rfl⟩;obtain⟨F,hF⟩:∃F,F=fC l m:=⟨_,rfl⟩;rw[<-hF] at hS f9 U;rw[<-hF] at a1;rw[<-hC] at U;rw[<-c9] at a2 a1 U a7;rw[<-hV] at a1 U a7 g0;have d0:=hS.cell (i:=0) rfl;have d1:=hS.cell (i:=1) rfl;have d2:=hS.cell (i:=2) rfl;have e4:=Y.cell (i:=0) rfl;have e5:=Z.cell (i:=0) rfl;have e6:=H.cell (i:=0) rfl
  have e7:=d.cell (i:=0) rfl;have e8:=G.cell (i:=0) rfl;have f6:=H.free 0;have f7:=d.free 0;have f8:=G.free 0;have b2:=hid (MT H d G a4);have g1:=hid c6;have g2:=hid c7;have g3:=hid ho;clear c8 hV c9 hF hC c5 c6 c7 c4 b8 ho
  by_cases d3:E=0
  ·subst d3;have a1:=fun k y=>a1 k y rfl
   have U:=U rfl;have m1:fU.wrap (C:Int)=(C:Int):=by rw[gF];omega
   have m2:(C:Int)%18446744073709551616=(C:Int):=by omega
   by_cases b3:F<=V/\V<F+C
   ·obtain⟨D,hD⟩:∃D,D=V-F:=⟨_,rfl⟩;have i0:D<C:=by omega
    obtain⟨y,hy⟩:∃y,(lR l m l.length)[D]? =some y:=⟨_,aN (by rw[g1.out];exact i0)⟩;have a9:=hid (a1 D y hy (by omega));have cu:W.cell? ⟨bu,ou+D,none⟩=some (.int .i64 (y:Int)):=g2.out D _ (by unfold lI;rw[dY,hy];rfl);have m3:fU.wrap ((V:Int)-(F:Int))=(D:Int):=by rw[gF];omega
    have m4:(V:Int)-(F:Int)=(D:Int):=by omega
    have m5:fU.wrap (D:Int)=(D:Int):=by rw[gF];omega
    have m6:IntKind.i64.wrap ((a:Int)+(m:Int))=(a:Int)+(m:Int):=by rw[IntKind.wrap_i64];omega
    have t1:decide ((D:Int)<(C:Int))=true:=decide_eq_true (by omega);have q1:(D:Int)<(C:Int):=by omega
    clear a2 a1 U b3 hD hy
    gi_wp2_with fail
    refine⟨trivial,fun _=>by omega,((callsIn_wide.2 (a7 _)).inRound l0).mono ?_⟩;rintro e L ⟨rfl,rfl⟩
    gi_wp2_with fail
    refine aAf (by omega) (fun w'=>w'.cell? ⟨sb,0,none⟩=some (.int .i64 (m:Int))/\w'.cell? ⟨sb,2,none⟩=some (.slice (some ⟨bu,ou,none⟩) C b6)/\w'.cell? ⟨bu,ou+D,none⟩=some (.int .i64 (y:Int))/\w'.cell? ⟨z+1,0,none⟩=some (.int .i64 (a:Int))) (by kernel_rfl) (fun⟨_,_,h⟩=>(h:False).elim) (by kernel_rfl) ?_;have d4:L.drew.cell? ⟨sb,0,none⟩=some (.int .i64 (m:Int))/\L.drew.cell? ⟨sb,2,none⟩=some (.slice (some ⟨bu,ou,none⟩) C b6)/\L.drew.cell? ⟨bu,ou+D,none⟩=some (.int .i64 (y:Int))/\L.drew.cell? ⟨z+1,0,none⟩=some (.int .i64 (a:Int)):=⟨d0,d2,cu,e5⟩
    refine aQ (i:=0) (oi:=?oi0) (v:=?v0) ?hi0 (by kernel_rfl) (by kernel_rfl) (by kernel_rfl) ?hq0 ?hy0 (by assumption) ?_
    case hi0=>(simp only[aR,aP];rfl)
    case hq0=>exact fun _ _ _ h=>h
    case hy0=>(refine aT ⟨by rfl,?_⟩;intro w' M;(try dsimp only at M);(try go_simp);try with_reducible rfl)
    try simp only[aJ,aK,aH,aG]
    refine aQ (i:=1) (oi:=?oi1) (v:=?v1) ?hi1 (by kernel_rfl) (by kernel_rfl) (by kernel_rfl) ?hq1 ?hy1 (by assumption) ?_
    case hi1=>(simp only[aR,aS,aP];rfl)
    case hq1=>exact fun _ _ _ h=>h
    case hy1=>(refine aT ⟨by rfl,?_⟩;intro w' M;(try dsimp only at M);(try go_simp);try with_reducible rfl)
    try simp only[aJ,aK,aH,aG]
    refine aQ (i:=2) (oi:=?oi2) (v:=?v2) ?hi2 (by kernel_rfl) (by kernel_rfl) (by kernel_rfl) ?hq2 ?hy2 (by assumption) ?_
    case hi2=>(simp only[aR,aS,aP];rfl)
    case hq2=>exact fun _ _ _ h=>h
    case hy2=>(refine aT ⟨by rfl,?_⟩;intro w' M;(try dsimp only at M);(try go_simp);try with_reducible rfl)
    try simp only[aJ,aK,aH,aG]
    refine aQ (i:=3) (oi:=?oi3) (v:=?v3) ?hi3 (by kernel_rfl) (by kernel_rfl) (by kernel_rfl) ?hq3 ?hy3 (by assumption) ?_
    case hi3=>(simp only[aR,aS,aP];rfl)
    case hq3=>exact fun _ _ _ h=>h
    case hy3=>(refine aT ⟨by rfl,?_⟩;intro w' M;(try dsimp only at M);(try go_simp);try with_reducible rfl)
    try simp only[aJ,aK,aH,aG]
    refine aQ (i:=4) (oi:=?oi4) (v:=?v4) ?hi4 (by kernel_rfl) (by kernel_rfl) (by kernel_rfl) ?hq4 ?hy4 (by assumption) ?_
    case hi4=>(simp only[aR,aS,aP];rfl)
    case hq4=>exact fun _ _ _ h=>h
    case hy4=>(refine aT ⟨by rfl,?_⟩;intro w' M;(try dsimp only at M);(try go_simp);try with_reducible rfl)
    try simp only[aJ,aK,aH,aG]
    refine aQ (i:=5) (oi:=?oi5) (v:=?v5) ?hi5 (by kernel_rfl) (by kernel_rfl) (by kernel_rfl) ?hq5 ?hy5 (by assumption) ?_
    case hi5=>(simp only[aR,aS,aP];rfl)
    case hq5=>exact fun _ _ _ h=>h
    case hy5=>(refine aT ⟨by rfl,?_⟩;intro w' M;(try dsimp only at M);(try go_simp);try with_reducible rfl)
    try simp only[aJ,aK,aH,aG]
    refine aQ (i:=6) (oi:=?oi6) (v:=?v6) ?hi6 (by kernel_rfl) (by kernel_rfl) (by kernel_rfl) ?hq6 ?hy6 (by assumption) ?_
    case hi6=>(simp only[aR,aS,aP];rfl)
    case hq6=>exact fun _ _ _ h=>h
    case hy6=>(refine aT ⟨by rfl,?_⟩;intro w' M;(try dsimp only at M);(try go_simp);try with_reducible rfl)
    try simp only[aJ,aK,aH,aG]
    refine aQ (i:=7) (oi:=?oi7) (v:=?v7) ?hi7 (by kernel_rfl) (by kernel_rfl) (by kernel_rfl) ?hq7 ?hy7 (by assumption) ?_
    case hi7=>(simp only[aR,aS,aP];rfl)
    case hq7=>exact fun _ _ _ h=>h
    case hy7=>(refine aT ⟨by rfl,?_⟩;intro w' M;(try dsimp only at M);(try go_simp);try with_reducible rfl)
    try simp only[aJ,aK,aH,aG]
    refine aQ (i:=8) (oi:=?oi8) (v:=?v8) ?hi8 (by kernel_rfl) (by kernel_rfl) (by kernel_rfl) ?hq8 ?hy8 (by assumption) ?_
    case hi8=>(simp only[aR,aS,aP];rfl)
    case hq8=>exact fun _ _ _ h=>h
    case hy8=>(refine aT ⟨by rfl,?_⟩;intro w' M;(try dsimp only at M);(try go_simp);try with_reducible rfl)
    try simp only[aJ,aK,aH,aG]
    have i9:w3.heap.size<=bu:=by have:=(Ow.lt g3.out bu rfl).1;omega
    have j0:L.drew.cell? ⟨z+1+1,0,none⟩=some (.int .i64 0):=e6;have j1:L.drew.frozen? ⟨z+1+1,0,none⟩=false:=f6;have G7:Arr (L.drew.setCell ⟨z+1+1,0,none⟩ (.int .i64 (y:Int))) (z+1+1+1) 3 [.int .i64 0]:=Arr.other (w:=L.drew) d _ (by show _≠_;simp only[ne_eq];omega) _;have j2:=G7.cell (i:=0) rfl;have j3:=G7.free 0;have G8:Arr ((L.drew.setCell ⟨z+1+1,0,none⟩ (.int .i64 (y:Int))).setCell ⟨z+1+1+1,0,none⟩ (.int .i64 ((a:Int)+(m:Int)))) (z+1+1+1+1) 30 [.int .i64 0]:=(Arr.other (w:=L.drew) G _ (by show _≠_;simp only[ne_eq];omega) _).other _ (by show _≠_;simp only[ne_eq];omega) _
    have j4:=G8.cell (i:=0) rfl;have j5:=G8.free 0;have d5:=zU d4 (q:=⟨z+1+1,0,none⟩) (jW (by omega)) (jW (by omega)) (jW (by omega)) (jW (by omega)) (.int .i64 (y:Int));have i1:=zU d5 (q:=⟨z+1+1+1,0,none⟩) (jW (by omega)) (jW (by omega)) (jW (by omega)) (jW (by omega)) (.int .i64 ((a:Int)+(m:Int)));refine fL (rs:=[9]) (by kernel_rfl) (by simp) ?_;refine fA rfl (fun K T=>?_) fM;go_simp;refine T.out _ _ ?_ (fun _=>?_)
    ·exact zU d4 (jW (by omega)) (jW (by omega)) (jW (by omega)) (jW (by omega)) _
    try simp only[aJ,aK,aH,aG]
    refine fL (rs:=[10]) (by kernel_rfl) (by simp) ?_;refine fA rfl (fun K T=>?_) fM;go_simp;refine T.out _ _ ?_ (fun _=>?_)
    ·exact zU d5 (jW (by omega)) (jW (by omega)) (jW (by omega)) (jW (by omega)) _
    try simp only[aJ,aK,aH,aG]
    refine fL (rs:=[11]) (by kernel_rfl) (by simp) ?_;refine fA rfl (fun K T=>?_) fM;go_simp;refine T.out _ _ ?_ (fun _=>?_)
    ·exact zU i1 (jW (by omega)) (jW (by omega)) (jW (by omega)) (jW (by omega)) _
    try simp only[aJ,aK,aH,aG]
    refine wpAnyH_done (by kernel_rfl) ?_ _;obtain⟨s1,s2,s3,s4⟩:=MT (W:=L.drew) (w:=w) H d G a4.drew (.int .i64 (y:Int)) (.int .i64 ((a:Int)+(m:Int))) (.int .i64 0)
    gi_wp2_with fail
    exact⟨((aC3 L).trans (((iH L.drew _ _).trans (iH _ _ _)).trans (iH _ _ _))).from _,⟨rfl,_,_,_,a9,s1,s2,s3⟩,s4⟩
   ·have b9:=U b3;have d6:=hid b9
    by_cases j6:F<=V
    ·obtain⟨D,hD⟩:∃D,D=V-F:=⟨_,rfl⟩;have m3:fU.wrap ((V:Int)-(F:Int))=(D:Int):=by rw[gF];omega
     have m4:(V:Int)-(F:Int)=(D:Int):=by omega
     have m5:fU.wrap (D:Int)=(D:Int):=by rw[gF];omega
     have t1:decide ((D:Int)<(C:Int))=false:=decide_eq_false (by omega);have t2:decide (D<C)=false:=decide_eq_false (by omega);clear a2 a1 U b9 b3 hD
     gi_wp2_with fail
     refine⟨trivial,fun _=>by omega,((callsIn_wide.2 (a7 _)).inRound l0).mono ?_⟩;rintro e L ⟨rfl,rfl⟩
     gi_wp2_with fail
     exact⟨KeepsFrom.refl _ _,dP.refl _ _,⟨by rw[fI];exact d6,Y,Z,H,d,G⟩,a4⟩
    ·obtain⟨D,hD⟩:∃D,D=V+18446744073709551616-F:=⟨_,rfl⟩;have m3:fU.wrap ((V:Int)-(F:Int))=(D:Int):=by rw[gF];omega
     have j7:((V:Int)-(F:Int))%18446744073709551616=(D:Int):=by omega
     have t1:decide ((D:Int)<(C:Int))=false:=decide_eq_false (by omega);have t2:decide (D<C)=false:=decide_eq_false (by omega);clear a2 a1 U b9 b3 hD
     gi_wp2_with fail
     refine⟨trivial,fun _=>by omega,((callsIn_wide.2 (a7 _)).inRound l0).mono ?_⟩;rintro e L ⟨rfl,rfl⟩
     gi_wp2_with fail
     exact⟨KeepsFrom.refl _ _,dP.refl _ _,⟨by rw[fI];exact d6,Y,Z,H,d,G⟩,a4⟩
  ·obtain⟨i2,d7⟩:=a2 d3;subst i2;have a9:=hid d7;clear a2 a1 U d7
   gi_wp2_with fail
   refine⟨trivial,fun _=>by omega,((callsIn_wide.2 (a7 _)).inRound l0).mono ?_⟩;rintro e L ⟨rfl,rfl⟩
   gi_wp2_with fail
   exact⟨(((iH L _ _).trans (iH _ _ _)).trans (iH _ _ _)).from _,⟨rfl,0,0,2,a9,(b2.out _ _ _).1,(b2.out _ _ _).2.1,(b2.out _ _ _).2.2.1⟩,(b2.out _ _ _).2.2.2⟩
 case done=>
  rintro D xs W hD i3 ⟨⟨b0,Y,Z,H,d,G⟩,a4⟩ T;have d8:=b0.out;rw[i3] at d8;have a9:=hid (aQe HE.out d8);have e6:=H.cell (i:=0) rfl;have e7:=d.cell (i:=0) rfl;have e8:=G.cell (i:=0) rfl;have f6:=H.free 0;have f7:=d.free 0;have f8:=G.free 0
  gi_wp2_with fail
  obtain⟨q6,q7,q8,q9⟩:=MT H d G a4 (.int .i64 0) (.int .i64 0) (.int .i64 3);have d9:=((((iH W ⟨z+1+1,0,none⟩ (.int .i64 0)).trans (iH _ ⟨z+1+1+1,0,none⟩ (.int .i64 0))).trans (iH _ ⟨z+1+1+1+1,0,none⟩ (.int .i64 3))).same D _ T rfl);refine⟨by simp,.inl ⟨_,_,rfl,sJ d9,?_⟩⟩;have q6:=(q6.grown (mC _ D (.deferred none)) (by simp;omega)).cell (i:=0) rfl;have q7:=(q7.grown (mC _ D (.deferred none)) (by simp;omega)).cell (i:=0) rfl
  have q8:=(q8.grown (mC _ D (.deferred none)) (by simp;omega)).cell (i:=0) rfl;refine⟨.tuple #[.int .i64 0,.int .i64 0,.int .i64 3],?_,by rw[a9.out],?_⟩
  ·simp[results,Tryz.f165,go_sem,q6,q7,q8]
  ·rw[<-HZ.out];exact q9.trans (belowK_b (w:=w3) (by omega) _ D _ _ hD d9 rfl rfl)
 case stop=>
  rintro D c a6 W hD ⟨⟨rfl,r1,r2,r3,HR,H,d,G⟩,a4⟩ T
  gi_wp2_with fail
  refine⟨by simp,.inl ⟨_,_,rfl,sJ T,?_⟩⟩;have q6:=(H.grown (mC _ D (.deferred none)) (by simp;omega)).cell (i:=0) rfl;have q7:=(d.grown (mC _ D (.deferred none)) (by simp;omega)).cell (i:=0) rfl;have q8:=(G.grown (mC _ D (.deferred none)) (by simp;omega)).cell (i:=0) rfl;refine⟨.tuple #[.int .i64 r1,.int .i64 r2,.int .i64 r3],?_,by rw[HR.out],?_⟩
  ·simp[results,Tryz.f165,go_sem,q6,q7,q8]
  ·rw[<-HZ.out];exact a4.trans (belowK_b (w:=w3) (by omega) _ D _ _ hD T rfl rfl)
theorem aQk (v:Value) (l:List Int) (s:ByteArray) (a:Nat) (w:World) (d:RdI w v l) (z:bL l=0) (A:s.size<=1000000) (E:a<=100000000):
  Calls Tryz.prog 165 #[v,.string s,.int .i64 (a:Int)] w fun e w'=>e=.returned (.tuple #[.int .i64 (bZ l s.data.toList (a:Int)).1,.int .i64 (bZ l s.data.toList (a:Int)).2.1,.int .i64 (bZ l s.data.toList (a:Int)).2.2])/\Below w.heap.size w w':=
 callsIn_wide.1 (aQj 3 (aA _) v l s a w d z A E)
end
section
open Go.RowKit Go Go.Shelf
def pD (l z:List Int) (k d:Nat):Value×Value:=if d<k then(.string (mkS (aD (aY (fO l (z.getD d 0).toNat) (bG l (z.getD d 0).toNat)))),.int .i64 ((aY (fO l (z.getD d 0).toNat) (bG l (z.getD d 0).toNat)).length:Int)) else(.string ⟨#[]⟩,.int .i64 0)
theorem aSl {l z:List Int} {k n:Nat} {y W N:Nat} (A:z[k]? =some (y:Int)) (E:W=fO l y) (F:N=bG l y):((cD n (pD l z k)).set (k*2) (.string (mkS (aD (aY W N))))).set (k*2+1) (.int .i64 ((aY W N).length:Int))=cD n (pD l z (k+1)):=
 KG _ _ _ _ _ _ fun d _=>by
  unfold pD
  by_cases e:d=k
  ·subst e;rw[if_pos (by omega),if_pos rfl,aV,A];simp only[Option.getD_some,Int.toNat_natCast];rw[E,F]
  ·rw[if_neg e]
   by_cases h:d<k
   ·rw[if_pos h,if_pos (by omega)]
   ·rw[if_neg h,if_neg (by omega)]
def zZ (l d:List Int):List (List Bool):=d.map (fun s=>aY (fO l s.toNat) (bG l s.toNat))
theorem aSm (l d:List Int):(zZ l d).flatten=eR l d:=by unfold zZ eR;rw[List.flatMap_def]
theorem aSn {w:World} {b:Nat} {l d:List Int} (h:Arr w b 29 (cD d.length (pD l d d.length))) (H:d.length<=maxLen):qI w (.slice (some ⟨b,0,none⟩) d.length d.length) (zZ l d):=by
 have G:(zZ l d).length=d.length:=List.length_map ..;refine⟨some ⟨b,0,none⟩,d.length,by rw[G],by omega,H,fun _=>⟨b,0,rfl,h.lt,fun j m z=>?_⟩⟩;have A:j<d.length:=by rw[<-G];exact(List.getElem?_eq_some_iff.1 z).1
 have I:m=aY (fO l (d.getD j 0).toNat) (bG l (d.getD j 0).toNat):=by
  unfold zZ at z;rw[dY,aN A] at z;simp only[Option.map_some,iP] at z;rw[aV,aN A];exact z.symm
 have E:=h.cell (uR _ _ j A);have F:=h.cell (uS _ _ j A);unfold pD at E F;rw[if_pos A] at E F;rw[I,Nat.zero_add];exact⟨E,F⟩
theorem aSo (l z:List Int) (n:Nat):cD n (pD l z 0)=cD n (fun _=>(.string ⟨#[]⟩,.int .i64 0)):=rS fun d _=>by unfold pD;rw[if_neg (by omega)]
theorem aBj (v u:Value) (l d:List Int) (w:World) (hr:RdI w v l) (hu:RdI w u d) (V:bL l=0) (Y:∀x∈d,0<=x/\x<(l.length:Int)) (I:d.length<=10000):
  Calls Tryz.prog 36 #[v,u] w fun e w'=>e=.returned (.tuple #[eL (eR l d),.int .i64 0])/\Below w.heap.size w w':=by
 have E:=eH V;have b7:=hid (fun i (h:i<l.length)=>(jG E.1 h));have b8:=hid (fun i (h:i<l.length)=>(IG E.1 E.2 h));have c7:=E.1.2.1;have HS:=hid Y;have b9:=hid (rR E.1 d (fun x F=>Y x F));clear Y E;have Z:=Arr.new w 29 [.string ⟨#[]⟩,.int .i64 0];have c8:(w.alloc (.cells #[.string ⟨#[]⟩,.int .i64 0] 29)).heap.size=w.heap.size+1:=by simp
 have O:Below w.heap.size w (w.alloc (.cells #[.string ⟨#[]⟩,.int .i64 0] 29)):=bD (aB _ _) _;change Arr (w.alloc (.cells #[.string ⟨#[]⟩,.int .i64 0] 29)) _ _ _ at Z;go_enter Tryz.func36,Tryz.ntmps36;go_wp2_with fail;generalize w.alloc (.cells #[.string ⟨#[]⟩,.int .i64 0] 29)=w0 at*
 refine(aP8 _ l _ (hr.below O)).mono ?_;rintro e z ⟨uw,rfl,G,-,A⟩;obtain⟨bw,a7,rfl,a0⟩:=G V;rw[V];have a8:=(hu.below O).below A;have a9:=Z.below A (by omega);have b0:=O.trans (A.mono (by omega));have c9:=A.size;obtain⟨a,ca,rfl,d2,c0,hA⟩:=a8.open;unfold maxLen at c0;clear hu a8 hr Z O A G;go_wp2_with (at_make;refine mk2 Tryz.underlying67 JB rfl rfl _ _ rfl d.length rfl rfl ?_ ?_ ?_;(omega);(omega));have a1:=Arr.new z 29 (cD d.length (fun _=>(.string ⟨#[]⟩,.int .i64 0)));rw[<-aSo l d] at a1 ⊢
 have b2:Below z.heap.size z (z.alloc (.cells (cD d.length (pD l d 0)).toArray 29)):=bD (aB _ _) _;have d3:(z.alloc (.cells (cD d.length (pD l d 0)).toArray 29)).heap.size=z.heap.size+1:=by simp
 generalize z.alloc (.cells (cD d.length (pD l d 0)).toArray 29)=w2 at*
 go_wp2_with fail
 go_loopg [9,10,25,39] d.length (fun g _s9 _s10 c2 _s39 wr=>∃k:Nat,k<=d.length/\g=d.length-k/\c2=.int .i64 (k:Int)/\Arr wr z.heap.size 29 (cD d.length (pD l d k))/\Below z.heap.size z wr/\z.heap.size+1<=wr.heap.size)
 case atStart=>exact⟨0,Nat.zero_le _,rfl,rfl,a1,b2,by omega⟩
 case round=>
  clear a1 b2;obtain⟨k,hk,hg,rfl,hL,H,d4⟩:=hrel;have HG:=hid hg;clear hg
  by_cases a2:k<d.length
  ·have t1:decide ((k:Int)<(d.length:Int))=true:=decide_eq_true (by omega);obtain⟨b1,o1,rfl,A,b3⟩:=hA (by omega);obtain⟨x,F⟩:=dH a2;have c1:=((lP H).1 b1 (o1+k) A).trans (b3 k _ F);have c3:=HS.out x (cH F);obtain⟨y,rfl⟩:∃y:Nat,x=(y:Int):=⟨x.toNat,by omega⟩;have T:y<l.length:=by omega
   have a3:=a0.below H a0.lt;have d0:=a3.cell (uR _ _ y T);have d1:=a3.cell (uS _ _ y T);obtain⟨hy1,hy2,_⟩:=b7.out y T;have a4:=b8.out y T;unfold qP at d0 d1;obtain⟨n,I⟩:∃n,n=bG l y:=⟨_,rfl⟩;obtain⟨W,G⟩:∃W,W=fO l y:=⟨_,rfl⟩;have HT:=hid (aSl (n:=d.length) F G I);rw[<-I,<-G] at d0 d1 a4;rw[<-I] at hy1 hy2;have c4:W<18446744073709551616:=dR a4 (aW (jC (by decide) hy2) (by decide));have u1:decide ((y:Int)<0)=false:=decide_eq_false (by omega);have u2:decide ((y:Int)>=(l.length:Int))=false:=decide_eq_false (by omega)
   have u3:decide ((l.length:Int)<=(y:Int))=false:=decide_eq_false (by omega);have u4:decide (l.length<=y)=false:=decide_eq_false (by omega);have q1:(k:Int)<(d.length:Int):=by omega
   have q2:(y:Int)<(l.length:Int):=by omega
   have U:=fun W'=>uH [] W n W' c4 (by omega) (by decide)
   unfold eL at U;simp only[iG] at U;obtain⟨M,hM⟩:∃M,M=aY W n:=⟨_,rfl⟩;simp only[<-hM] at U;rw[<-hM] at HT;clear hM;clear I G F b3 hA c3 a4 a3;go_wp2_with fail
   go_region_with (go_at_call 75;(refine(U _).mono ?_;rintro e w3 ⟨rfl,a5⟩;have J:Arr w3 z.heap.size 29 (cD d.length (pD l d k)):=Arr.below (w:=wr.drew) hL a5 (by show z.heap.size<wr.heap.size;omega);have e0:=J.cell (uR _ _ k a2);have e1:=J.cell (uS _ _ k a2);have f0:=J.free (k*2);have f1:=J.free (k*2+1)))
   all_goals go_wp2_with fail
   all_goals
    have hg:=HG.out
    go_roundg (d.length-(k+1))
    case measure=>omega
    case rel=>
     have d5:wr.heap.size<=w3.heap.size:=a5.size;have a7:Below z.heap.size z w3:=H.drew.trans (a5.mono (by show z.heap.size<=wr.heap.size;omega));exact⟨k+1,by omega,rfl,by go_num,by rw[<-HT.out];exact(J.set _ _).set _ _,(a7.setCell (p:=⟨z.heap.size,k*2,none⟩) (aA _) _).setCell (p:=⟨z.heap.size,k*2+1,none⟩) (aA _) _,by simp;omega⟩
  ·have t1:decide ((k:Int)<(d.length:Int))=false:=decide_eq_false (by omega);have c5:k=d.length:=by omega
   subst c5;have b4:=aSn hL (by simp only[maxLen];omega);have b5:=hid (aSm l d);go_wp2_with fail;refine(CF _ _ _ b4 (by rw[b5.out];have:=b9.out;omega)).mono ?_;rintro e w6 ⟨rfl,a6⟩;rw[b5.out];unfold eL;have L:=(a9.below H (by omega)).below a6 (by omega);have c6:Below w.heap.size w w6:=(b0.trans (H.mono (by omega))).trans (a6.mono (by omega));have d0:=L.cell (i:=0) rfl;have d1:=L.cell (i:=1) rfl;have f0:=L.free 0;have f1:=L.free 1;clear a9 a6 H b0 a0 hL b4;generalize b6:eR l d=m at*
   have HM:=hid b6;clear b6;go_wp2_with fail;have z0:Arr ((w6.setCell ⟨w.heap.size,0,none⟩ (.string (mkS (aD m)))).setCell ⟨w.heap.size,1,none⟩ (.int .i64 (m.length:Int))) w.heap.size 29 [.string (mkS (aD m)),.int .i64 (m.length:Int)]:=(L.set 0 _).set 1 _;refine bodyPost_ret (qH rfl _ _ w.heap.size _ _ (0,0) _ rfl z0 Tryz.underlying29 rfl mF) rfl ?_;exact⟨by rw[HM.out];rfl,(c6.setCell (p:=⟨w.heap.size,0,none⟩) (aA _) _).setCell (p:=⟨w.heap.size,1,none⟩) (aA _) _⟩
end
end Go.Proofs.YtiifmcicleljjaaGreatDoor
