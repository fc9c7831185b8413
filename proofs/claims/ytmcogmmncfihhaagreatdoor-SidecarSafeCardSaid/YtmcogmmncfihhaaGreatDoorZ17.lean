/-
  Texts put together (part 17): the walks and the plain laws on which the statement stands.
-/
import Derived.Test.YtmcogmmncfihhaaGreatDoorZ16
set_option maxRecDepth 100000
set_option maxHeartbeats 12800000
set_option linter.unusedVariables false
set_option linter.unusedSimpArgs false
open Array renaming replicate_succ->lL,replicate_zero->lM
open Go renaming grownBy_putObj'->mC,run_takeDeferred->sJ,wpAnyH_ready->fL,wpAnyH_take->aQ
open Go.Act renaming put->aJ
open Go.AllReadyH renaming cons->fA,nil->fM
open Go.Fence renaming wide->eA
open Go.IntKind renaming i64->aI,u64->fU,wrap_i64->aM,wrap_u64->gF
open Go.KeepsOthers renaming setCell->iH
open Go.Lib renaming byteCells->nS
open Go.Oper renaming semAt_some->rB
open Go.RowKit.Below renaming refl->aB
open List renaming append_toArray->lO,cons_append->gE,getD_eq_getElem?_getD->aV,getElem?_cons_succ->aS,getElem?_cons_zero->aP,getElem?_eq_getElem->aN,getElem?_toArray->aR,getElem_mem->gT,length_append->aL,length_cons->cR,length_nil->cX,map_append->fI,mem_of_getElem?->cH,nil_append->iG,push_toArray->lN,setIfInBounds_toArray->aK,set_cons_succ->aG,set_cons_zero->aH,size_toArray->mY,take_length->kE
open Nat renaming le_refl->aA,le_trans->aW,reduceAdd->lZ,reduceSub->mZ,zero_le->aU
open Or renaming inl->aT
namespace Go.Proofs.YtmcogmmncfihhaaGreatDoor
section
open Go.RowKit Go Go.Shelf
attribute [local go_sem] rB
theorem aAa (n:Nat) (b o len cap:Nat) (w:World):
  CallsIn eA n Tryz.prog 147 #[.slice (some ⟨b,o,none⟩) len cap] w fun e w'=>e=.returned (.func (.func 160) #[] #[.pointer (some ⟨w.heap.size,0,none⟩)])/\w'=w.alloc (.cells #[.slice (some ⟨b,o,none⟩) len cap] 57):=by
 refine callsIn_of_wp Tryz.func147 rfl trivial ?_ rfl;simp only[Tryz.ntmps147,mY,cR,cX,lZ,mZ,lL,lM,lN,lO,iG,gE]
 gi_wp2
 go_ret;exact⟨rfl,rfl⟩
theorem aAb (n:Nat) (hn:1<=n) (Bs bo b1 o1 ca:Nat) (ls:List Int) (hE:bL ls=0) (w:World) (hA:Arr w Bs 57 [.slice (some ⟨b1,o1,none⟩) ls.length ca]) (hc:∀i x,ls[i]? =some x->w.cell? ⟨b1,o1+i,none⟩=some (.int .i64 x)) (hb1:b1≠bo) (hBs:Bs≠bo) (hbo:bo<w.heap.size) (hb1W:b1<w.heap.size):
  ZW n Tryz.prog 160 #[.pointer (some ⟨Bs,0,none⟩)] (tI ls) (dP (some bo)) (xA ls) (fun xs=>xs.map (·.1)=iY ls 21) w:=fun l J Jx W hW hJ _ hY h0=>by
 have hs:=hW.size;exact aPy n hn l Bs bo b1 o1 ca ls hE J Jx W (hA.below hW hA.lt) (fun i x hi=>(hW.cell (p:=⟨b1,o1+i,none⟩) hb1W).trans (hc i x hi)) hb1 hBs (by omega) (by omega) hJ hY h0
theorem aAc {ls:List Int}:∀(B:Nat) (pre:List (Nat×Value)) (x:Nat×Value) (A A':World),xA ls B pre x A->dP none A A'->xA ls B pre x A':=fun _ _ _ _ _ ⟨h1,h2,h3,h4,h5⟩ hk=>⟨h1,h2,h3,h4,dP.ow hk h5 (fun _ _ e=>by cases e)⟩
theorem aAg:∀(l:List Int) (a:Int),a<=l.foldl max a/\(∀x∈l,x<=l.foldl max a)/\(l.foldl max a=a\/l.foldl max a∈l)
 |[],a=>⟨by simp,fun x hx=>by simp at hx,.inl rfl⟩
 |y::l,a=>by
  obtain⟨h1,h2,h3⟩:=aAg l (max a y);rw[List.foldl_cons];refine⟨by omega,fun x hx=>?_,?_⟩
  ·rcases List.mem_cons.1 hx with rfl|hx
   ·omega
   ·exact h2 x hx
  ·rcases h3 with h|h
   ·rw[h];rcases Int.le_total a y with q|q
    ·rw[Int.max_eq_right q];exact .inr (List.mem_cons_self ..)
    ·rw[Int.max_eq_left q];exact .inl rfl
   ·exact .inr (List.mem_cons_of_mem _ h)
theorem aAh {l:List Int} (h:fY l):kF l∈l/\∀x∈l,x<=kF l:=by
 obtain⟨h1,h2,h3⟩:=aAg l 0;refine⟨?_,h2⟩;rcases h3 with q|q
 ·exfalso;have hl:0<l.length:=by have:=h.1;omega
  have hx:=h.2.2 _ (gT hl);have:=h2 _ (gT hl);omega
 ·exact q
theorem aQc {l:List Int} {n:Nat} (h:0<bU l n):((n:Nat):Int)∈l:=by
 unfold bU at h;obtain⟨x,hx,he⟩:=List.countP_pos_iff.1 h;have:x=(n:Int):=by simpa using he
 rw[<-this];exact hx
theorem MR {l:List Int} {n:Nat} (h:((n:Nat):Int)∈l):0<bU l n:=by
 unfold bU;exact List.countP_pos_iff.2 ⟨_,h,by simp⟩
def xB (l:List Int) (s:List UInt8) (a:Nat) (S:List Nat):Prop:=∀n∈S,aO s.length (a:Int) n=0/\∀i,i<l.length->bG l i=n->¬gZ l s a i
theorem MS {l:List Int} {n k:Nat}:n∈iY l k↔n<k/\0<bU l n:=by
 unfold iY;rw[List.mem_filter,List.mem_range,decide_eq_true_eq];omega
theorem aQd {l:List Int} {s:List UInt8} {a n:Nat} (hc:bL l=0) (hn:0<bU l n) (h:xB l s a (iY l n)) (hE:aO s.length (a:Int) n≠0):aO s.length (a:Int) n=2/\bZ l s (a:Int)=(0,0,2):=by
 have hok:=eH hc;have hg:8*(s.length:Int)-(n:Int)<(a:Int):=by
  unfold aO at hE;rw[if_neg (by omega)] at hE;split at hE
  ·assumption
  ·exact absurd rfl hE
 refine⟨by unfold aO;rw[if_neg (by omega),if_pos hg],?_⟩;rw[uD hc,if_pos]
 ·have:=(aAh hok.1).2 _ (aQc hn);omega
 ·intro i hi hf;have hb:=jG hok.1 hi
  by_cases hlt:bG l i<n
  ·have hm:((bG l i:Nat):Int)∈l:=cH hb.2.2;exact(h (bG l i) (MS.2 ⟨hlt,MR hm⟩)).2 i hi rfl hf
  ·have:=hf.1;omega
theorem aQe {l:List Int} {s:List UInt8} {a:Nat} (hc:bL l=0) (h:xB l s a (iY l 21)):bZ l s (a:Int)=(0,0,3):=by
 have hok:=eH hc;obtain⟨hm1,hm2⟩:=aAh hok.1;have hmb:=hok.1.2.2 _ hm1;rw[uD hc,if_neg]
 ·obtain⟨M,hM⟩:∃M:Nat,kF l=(M:Int):=⟨(kF l).toNat,by omega⟩;rw[hM] at hm1 hmb ⊢;have:=fQ (h M (MS.2 ⟨by omega,MR hm1⟩)).1;omega
 ·intro i hi hf;have hb:=jG hok.1 hi;have hm:((bG l i:Nat):Int)∈l:=cH hb.2.2;exact(h (bG l i) (MS.2 ⟨by omega,MR hm⟩)).2 i hi rfl hf
theorem aQf {l:List Int} {s:List UInt8} {a n k y:Nat} (hc:bL l=0) (hE:aO s.length (a:Int) n=0) (hk:(lR l n l.length)[k]? =some y) (hv:aE s (a:Int) n=fC l n+k):bZ l s (a:Int)=((y:Int),(a:Int)+(n:Int),0):=by
 have hok:=eH hc;obtain⟨h1,h2,h3⟩:=PF l n l.length (aA _) k y hk;have hln:bG l y=n:=by unfold bG;rw[h2];rfl
 have:=uB hc h1 ((KP (by rw[hln];exact hE)).2 (by rw[hln,hv];unfold fO;rw[hln,h3]));rw[this,hln]
theorem aQg (l:List Int) (s:List UInt8) (a:Nat):xB l s a []:=fun n hn=>by simp at hn
theorem aQh {l:List Int} {s:List UInt8} {a n:Nat} {S:List Nat} (hok:fY l) (h:xB l s a S) (hE:aO s.length (a:Int) n=0) (hv:¬(fC l n<=aE s (a:Int) n/\aE s (a:Int) n<fC l n+bU l n)):xB l s a (S++[n]):=fun m hm=>by
 rcases List.mem_append.1 hm with hm|hm
 ·exact h m hm
 ·obtain rfl:=List.mem_singleton.1 hm;refine⟨hE,fun i hi hl hf=>hv ?_⟩;have:=(KP (by rw[hl];exact hE)).1 hf;have hb:=BM hok hi;rw[hl] at this hb;omega
theorem aQi (w:World) (t1 t2 t3 t4 t5:TypeId) (v1 v2 v3 v4 v5:Value):∀W,W=((((w.alloc (.cells #[v1] t1)).alloc (.cells #[v2] t2)).alloc (.cells #[v3] t3)).alloc (.cells #[v4] t4)).alloc (.cells #[v5] t5)->
  (Arr W w.heap.size t1 [v1]/\Arr W (w.heap.size+1) t2 [v2]/\Arr W (w.heap.size+2) t3 [v3]/\Arr W (w.heap.size+3) t4 [v4]/\Arr W (w.heap.size+4) t5 [v5])/\Below w.heap.size w W/\W.heap.size=w.heap.size+5:=by
 rintro W rfl;have a1:=Arr.new w t1 [v1];have a2:=Arr.new (w.alloc (.cells #[v1] t1)) t2 [v2];have a3:=Arr.new ((w.alloc (.cells #[v1] t1)).alloc (.cells #[v2] t2)) t3 [v3];have a4:=Arr.new (((w.alloc (.cells #[v1] t1)).alloc (.cells #[v2] t2)).alloc (.cells #[v3] t3)) t4 [v4];have a5:=Arr.new ((((w.alloc (.cells #[v1] t1)).alloc (.cells #[v2] t2)).alloc (.cells #[v3] t3)).alloc (.cells #[v4] t4)) t5 [v5];have e:∀(W:World) (o:Obj),(W.alloc o).heap.size=W.heap.size+1:=fun W o=>by simp
 rw[e] at a2;rw[e,e] at a3;rw[e,e,e] at a4;rw[e,e,e,e] at a5;refine⟨⟨(((a1.alloc _).alloc _).alloc _).alloc _,((a2.alloc _).alloc _).alloc _,(a3.alloc _).alloc _,a4.alloc _,a5⟩,?_,by simp⟩;exact(((((aB _ w).alloc (aA _) _).alloc (by simp) _).alloc (by simp;omega) _).alloc (by simp;omega) _).alloc (by simp;omega) _
theorem MT {W w:World} {z:Nat} {t1 t2 t3:TypeId} {u1 u2 u3:Value} (g6:Arr W (z+1+1) t1 [u1]) (g7:Arr W (z+1+1+1) t2 [u2]) (g8:Arr W (z+1+1+1+1) t3 [u3]) (hbel:Below z w W) (v1 v2 v3:Value):
  Arr (((W.setCell ⟨z+1+1,0,none⟩ v1).setCell ⟨z+1+1+1,0,none⟩ v2).setCell ⟨z+1+1+1+1,0,none⟩ v3) (z+1+1) t1 [v1]/\
  Arr (((W.setCell ⟨z+1+1,0,none⟩ v1).setCell ⟨z+1+1+1,0,none⟩ v2).setCell ⟨z+1+1+1+1,0,none⟩ v3) (z+1+1+1) t2 [v2]/\
  Arr (((W.setCell ⟨z+1+1,0,none⟩ v1).setCell ⟨z+1+1+1,0,none⟩ v2).setCell ⟨z+1+1+1+1,0,none⟩ v3) (z+1+1+1+1) t3 [v3]/\
  Below z w (((W.setCell ⟨z+1+1,0,none⟩ v1).setCell ⟨z+1+1+1,0,none⟩ v2).setCell ⟨z+1+1+1+1,0,none⟩ v3):=
 ⟨((g6.set 0 v1).other _ (by show _≠_;simp only[ne_eq];omega) v2).other _ (by show _≠_;simp only[ne_eq];omega) v3,((g7.other _ (by show _≠_;simp only[ne_eq];omega) v1).set 0 v2).other _ (by show _≠_;simp only[ne_eq];omega) v3,((g8.other _ (by show _≠_;simp only[ne_eq];omega) v1).other _ (by show _≠_;simp only[ne_eq];omega) v2).set 0 v3,
  ((hbel.setCell (p:=⟨z+1+1,0,none⟩) (by show z<=z+1+1;omega) _).setCell (p:=⟨z+1+1+1,0,none⟩) (by show z<=z+1+1+1;omega) _).setCell (p:=⟨z+1+1+1+1,0,none⟩) (by show z<=z+1+1+1+1;omega) _⟩
theorem aQj (n:Nat) (hn:3<=n) (v:Value) (l:List Int) (s:ByteArray) (a:Nat) (w:World) (hr:RdI w v l) (hE:bL l=0) (hs:s.size<=1000000) (ha:a<=100000000):
  CallsIn eA n Tryz.prog 122 #[v,.string s,.int .i64 (a:Int)] w fun e w'=>e=.returned (.tuple #[.int .i64 (bZ l s.data.toList (a:Int)).1,.int .i64 (bZ l s.data.toList (a:Int)).2.1,.int .i64 (bZ l s.data.toList (a:Int)).2.2])/\Below w.heap.size w w':=by
 have h1:1<=n:=by omega
 obtain⟨ad,ca,rfl,hca,hma,hA⟩:=hr.open;unfold maxLen at hma;have hok:=eH hE;have HO:=hid hok.1;have HNB:=hid (fun k (hk:k<=20)=>DJ (i:=0) hok.1 hok.2 hk);have hl2:=hok.1.2.1;have hl1:=hok.1.1;have HE:=hid hE;have HL:=hid (show s.data.toList.length=s.size by simp);obtain⟨b1,o1,rfl,hb1,hc1⟩:=hA (by omega);have HC1:=hid hc1;refine callsIn_of_wp_marks Tryz.func122 rfl trivial ?_ rfl
 simp only[Tryz.ntmps122,mY,cR,cX,lZ,mZ,lL,lM,lN,lO,iG,gE];clear hc1 hA hok
 gi_wp2_with fail
 obtain⟨⟨g4,g5,g6,g7,g8⟩,hB0,hz0⟩:=aQi w 9 3 3 3 27 (.string s) (.int .i64 (a:Int)) (.int .i64 0) (.int .i64 0) (.int .i64 0) _ rfl;generalize ((((w.alloc (.cells #[.string s] 9)).alloc (.cells #[.int .i64 (a:Int)] 3)).alloc (.cells #[.int .i64 0] 3)).alloc (.cells #[.int .i64 0] 3)).alloc (.cells #[.int .i64 0] 27)=w0 at*
 refine⟨trivial,(callsIn_wide.2 (zS _ l _ (hr.below hB0))).mono ?_⟩;rintro e w1 ⟨rfl,hb1'⟩;rw[hE];obtain⟨z,hz⟩:∃z,z=w.heap.size:=⟨_,rfl⟩;have hs1:=hb1'.size;have g4:=g4.below hb1' (by omega);have g5:=g5.below hb1' (by omega);have g6:=g6.below hb1' (by omega);have g7:=g7.below hb1' (by omega);have g8:=g8.below hb1' (by omega);have hB1:Below w.heap.size w w1:=hB0.trans (hb1'.mono (by omega));clear hB0 hb1' hr hE
 gi_wp2_with fail
 refine⟨trivial,(aAa (n-1) b1 o1 l.length ca _).mono ?_⟩;rintro e w' ⟨rfl,rfl⟩;have g9:=Arr.new w1 57 [.slice (some ⟨b1,o1,none⟩) l.length ca];have g4:=g4.alloc (.cells #[.slice (some ⟨b1,o1,none⟩) l.length ca] 57);have g5:=g5.alloc (.cells #[.slice (some ⟨b1,o1,none⟩) l.length ca] 57);have g6:=g6.alloc (.cells #[.slice (some ⟨b1,o1,none⟩) l.length ca] 57);have g7:=g7.alloc (.cells #[.slice (some ⟨b1,o1,none⟩) l.length ca] 57);have g8:=g8.alloc (.cells #[.slice (some ⟨b1,o1,none⟩) l.length ca] 57);have hB2:=hB1.alloc (o:=.cells #[.slice (some ⟨b1,o1,none⟩) l.length ca] 57) (by omega)
 have hz2:(w1.alloc (.cells #[.slice (some ⟨b1,o1,none⟩) l.length ca] 57)).heap.size=w1.heap.size+1:=by simp
 have hc3:∀i x,l[i]? =some x->(w1.alloc (.cells #[.slice (some ⟨b1,o1,none⟩) l.length ca] 57)).cell? ⟨b1,o1+i,none⟩=some (.int .i64 x):=fun i x hi=>(hB2.cell (p:=⟨b1,o1+i,none⟩) hb1).trans (HC1.out i x hi)
 obtain⟨Bs,hBs⟩:∃Bs,Bs=w1.heap.size:=⟨_,rfl⟩
 gi_wp2_with fail
 change Arr (w1.alloc (.cells #[.slice (some ⟨b1,o1,none⟩) l.length ca] 57)) _ _ _ at g9;generalize w1.alloc (.cells #[.slice (some ⟨b1,o1,none⟩) l.length ca] 57)=w3 at*
 rw[<-hBs] at g9 hz2 hs1 ⊢;rw[<-hz] at g4 g5 g6 g7 g8 hz0 hB2 hb1 ⊢;have HZ:=hid hz;clear hBs hz hB1;refine ZX (w0:=w3) (Kp:=dP (some (z+1+1))) (Pre:=xA l) (encs:=tI l) h1 (gf:=160) (lb:=#[.pointer (some ⟨Bs,0,none⟩)]) rfl (enters_of Tryz.func160 (by kernel_rfl) rfl)
  (aAb (n-1) (by omega) Bs (z+1+1) b1 o1 ca l HE.out w3 g9 hc3 (by omega) (by omega) (by omega) (by omega)) (aB _ _) (fun _=>rfl)
  (fun h k=>h.trans k) (fun _ _ h=>h.some _) aAc
  (fun pre W=>(Hid (xB l s.data.toList a (pre.map (·.1)))/\Arr W z 9 [.string s]/\Arr W (z+1) 3 [.int .i64 (a:Int)]/\Arr W (z+1+1) 3 [.int .i64 0]/\Arr W (z+1+1+1) 3 [.int .i64 0]/\Arr W (z+1+1+1+1) 27 [.int .i64 0])/\Below z w W)
  (fun c _ W=>(c=.ret/\∃r1 r2 r3,Hid (bZ l s.data.toList (a:Int)=(r1,r2,r3))/\Arr W (z+1+1) 3 [.int .i64 r1]/\Arr W (z+1+1+1) 3 [.int .i64 r2]/\Arr W (z+1+1+1+1) 27 [.int .i64 r3])/\Below z w W)
  (fun pre A B ⟨⟨h,k1,k2,k3,k4,k5⟩,k6⟩ hAB=>⟨⟨h,k1.below hAB (by omega),k2.below hAB (by omega),k3.below hAB (by omega),k4.below hAB (by omega),k5.below hAB (by omega)⟩,k6.trans (hAB.mono (by omega))⟩)
  (fun c pre A B ⟨⟨h,r1,r2,r3,h',k1,k2,k3⟩,k6⟩ hAB=>⟨⟨h,r1,r2,r3,h',k1.below hAB (by omega),k2.below hAB (by omega),k3.below hAB (by omega)⟩,k6.trans (hAB.mono (by omega))⟩)
  ⟨⟨hid (aQg _ _ _),g4,g5,g6,g7,g8⟩,hB2⟩
  (fun x a' W=>∃sb,w3.heap.size<=sb/\Arr W sb 244 [.int .i64 (x.1:Int),.int .u64 (fC l x.1:Int),x.2]/\a'={tmps:=#[.slice (some ⟨b1,o1,none⟩) l.length ca,.string s,.int .i64 (a:Int),undef,.pointer (some ⟨z,0,none⟩),.pointer (some ⟨z+1,0,none⟩),.pointer (some ⟨z+1+1,0,none⟩),.pointer (some ⟨z+1+1+1,0,none⟩),.pointer (some ⟨z+1+1+1+1,0,none⟩),.int .i64 0,.pointer (some ⟨sb,0,none⟩),undef,undef,.slice (some ⟨b1,o1,none⟩) l.length ca,.int .i64 0,.int .i64 0,.bool false,undef,.slice (some ⟨b1,o1,none⟩) l.length ca,.func (.func 160) #[] #[.pointer (some ⟨Bs,0,none⟩)],.agg #[.int .i64 (x.1:Int),.int .u64 (fC l x.1:Int),x.2],undef,undef,undef,undef,undef,undef,undef,undef,undef,undef,undef,undef,undef,undef,undef,undef,undef,undef,undef,undef,undef,undef,undef,undef,undef,undef,undef,undef,undef,undef],defers:=[]})
  (fun x a' A A' ⟨sb,k1,k2,k3⟩ hk=>⟨sb,k1,hk.arr k2 (by simp),k3⟩) ?assign ?body ?done ?stop
 case assign=>
  rintro l0 B pre ⟨m,u⟩ W K hI hB hBW hpre hK;obtain⟨a',ca',hua,_,_,_⟩:=(OwI.rd hpre.2.2.2.2).open;dsimp only at hua;subst hua;unfold tI
  gi_wp2
  exact hK _ _ (bD (aB _ _) _) ⟨W.heap.size,by omega,Arr.new W _ [_,_,_],rfl⟩
 case body=>
  rintro l0 B pre ⟨m,u⟩ a' W ⟨⟨HNF,g4,g5,g6,g7,g8⟩,hbel⟩ hB hBW ⟨_,⟨hx1,hx2⟩,hc0,hpm,ho⟩ ⟨sb,hsb,hS,rfl⟩;dsimp only at hx1 hx2 hc0 hpm ho hS ⊢;obtain⟨C,hC⟩:∃C,C=bU l m:=⟨_,rfl⟩;have hwl:(lI l m l.length).length=C:=by rw[ET l m _ (aA _),kE,hC]
  have hwl2:(lR l m l.length).length=C:=by rw[BO l m _ (aA _),kE,hC]
  have hCl:C<=258:=by rw[hC];unfold bU;exact aW List.countP_le_length hl2
  have hfb:fC l m<=1048576:=by
   have:=HNB.out m hx2;unfold iW at this;omega
  obtain⟨a',ca',hua,h4,h5,h6⟩:=(OwI.rd ho).open;rw[hwl] at hua h4 h6;obtain⟨bu,ou,rfl,hbu,hcu⟩:=h6 (by omega);subst hua;have hTS:=aQd (s:=s.data.toList) (a:=a) HE.out (by omega:0<bU l m);rw[<-hpm] at hTS;have hTS:=hTS HNF.out;have hTF:=fun k y=>aQf (s:=s.data.toList) (a:=a) (n:=m) (k:=k) (y:=y) HE.out
  have hNS:=aQh (s:=s.data.toList) (a:=a) (n:=m) HO.out HNF.out;rw[HL.out] at hTS hTF hNS;have hget:=fun W=>sT s (a:Int) m W hs (by omega) (by omega) (by omega)
  have hVb:=iA s.data.toList (a:Int) m;have hVb2:aE s.data.toList (a:Int) m<1048576:=Nat.lt_of_lt_of_le hVb (aW (Nat.pow_le_pow_right (by decide) hx2) (by decide));obtain⟨E,hEe⟩:∃E,E=aO s.size (a:Int) m:=⟨_,rfl⟩;obtain⟨V,hV⟩:∃V,V=aE s.data.toList (a:Int) m:=⟨_,rfl⟩;obtain⟨F,hF⟩:∃F,F=fC l m:=⟨_,rfl⟩;rw[<-hF] at hS hfb hNS;rw[<-hF] at hTF;rw[<-hC] at hNS;rw[<-hEe] at hTS hTF hNS hget;rw[<-hV] at hTF hNS hget hVb2;have d0:=hS.cell (i:=0) rfl;have d1:=hS.cell (i:=1) rfl;have d2:=hS.cell (i:=2) rfl;have e4:=g4.cell (i:=0) rfl;have e5:=g5.cell (i:=0) rfl
  have e6:=g6.cell (i:=0) rfl;have e7:=g7.cell (i:=0) rfl;have e8:=g8.cell (i:=0) rfl;have f6:=g6.free 0;have f7:=g7.free 0;have f8:=g8.free 0;have HSET:=hid (MT g6 g7 g8 hbel);have HWL:=hid hwl2;have HCU:=hid hcu;have hoK:=hid ho;clear hVb hV hEe hF hC hwl hwl2 hcu hc0 hpm ho
  by_cases hE0:E=0
  ·subst hE0;have hTF:=fun k y=>hTF k y rfl
   have hNS:=hNS rfl;have m1:fU.wrap (C:Int)=(C:Int):=by rw[gF];omega
   have m2:(C:Int)%18446744073709551616=(C:Int):=by omega
   by_cases hin:F<=V/\V<F+C
   ·obtain⟨D,hD⟩:∃D,D=V-F:=⟨_,rfl⟩;have hDC:D<C:=by omega
    obtain⟨y,hy⟩:∃y,(lR l m l.length)[D]? =some y:=⟨_,aN (by rw[HWL.out];exact hDC)⟩;have HRES:=hid (hTF D y hy (by omega));have cu:W.cell? ⟨bu,ou+D,none⟩=some (.int .i64 (y:Int)):=HCU.out D _ (by unfold lI;rw[List.getElem?_map,hy];rfl);have m3:fU.wrap ((V:Int)-(F:Int))=(D:Int):=by rw[gF];omega
    have m4:(V:Int)-(F:Int)=(D:Int):=by omega
    have m5:fU.wrap (D:Int)=(D:Int):=by rw[gF];omega
    have m6:aI.wrap ((a:Int)+(m:Int))=(a:Int)+(m:Int):=by rw[aM];omega
    have t1:decide ((D:Int)<(C:Int))=true:=decide_eq_true (by omega);have q1:(D:Int)<(C:Int):=by omega
    clear hTS hTF hNS hin hD hy
    gi_wp2_with fail
    refine⟨trivial,fun _=>by omega,((callsIn_wide.2 (hget _)).inRound l0).mono ?_⟩;rintro e W2 ⟨rfl,rfl⟩
    gi_wp2_with fail
    refine aAf (by omega) (fun w'=>w'.cell? ⟨sb,0,none⟩=some (.int .i64 (m:Int))/\w'.cell? ⟨sb,2,none⟩=some (.slice (some ⟨bu,ou,none⟩) C ca')/\w'.cell? ⟨bu,ou+D,none⟩=some (.int .i64 (y:Int))/\w'.cell? ⟨z+1,0,none⟩=some (.int .i64 (a:Int))) (by kernel_rfl) (fun⟨_,_,h⟩=>(h:False).elim) (by kernel_rfl) ?_;have hS0:W2.drew.cell? ⟨sb,0,none⟩=some (.int .i64 (m:Int))/\W2.drew.cell? ⟨sb,2,none⟩=some (.slice (some ⟨bu,ou,none⟩) C ca')/\W2.drew.cell? ⟨bu,ou+D,none⟩=some (.int .i64 (y:Int))/\W2.drew.cell? ⟨z+1,0,none⟩=some (.int .i64 (a:Int)):=⟨d0,d2,cu,e5⟩
    refine aQ (i:=0) (oi:=?oi0) (v:=?v0) ?hi0 (by kernel_rfl) (by kernel_rfl) (by kernel_rfl) ?hq0 ?hy0 (by assumption) ?_
    case hi0=>(simp only[aR,aP];rfl)
    case hq0=>exact fun _ _ _ h=>h
    case hy0=>(refine aT ⟨by rfl,?_⟩;intro w' hSw;(try dsimp only at hSw);(try go_simp);try with_reducible rfl)
    try simp only[aJ,aK,aH,aG]
    refine aQ (i:=1) (oi:=?oi1) (v:=?v1) ?hi1 (by kernel_rfl) (by kernel_rfl) (by kernel_rfl) ?hq1 ?hy1 (by assumption) ?_
    case hi1=>(simp only[aR,aS,aP];rfl)
    case hq1=>exact fun _ _ _ h=>h
    case hy1=>(refine aT ⟨by rfl,?_⟩;intro w' hSw;(try dsimp only at hSw);(try go_simp);try with_reducible rfl)
    try simp only[aJ,aK,aH,aG]
    refine aQ (i:=2) (oi:=?oi2) (v:=?v2) ?hi2 (by kernel_rfl) (by kernel_rfl) (by kernel_rfl) ?hq2 ?hy2 (by assumption) ?_
    case hi2=>(simp only[aR,aS,aP];rfl)
    case hq2=>exact fun _ _ _ h=>h
    case hy2=>(refine aT ⟨by rfl,?_⟩;intro w' hSw;(try dsimp only at hSw);(try go_simp);try with_reducible rfl)
    try simp only[aJ,aK,aH,aG]
    refine aQ (i:=3) (oi:=?oi3) (v:=?v3) ?hi3 (by kernel_rfl) (by kernel_rfl) (by kernel_rfl) ?hq3 ?hy3 (by assumption) ?_
    case hi3=>(simp only[aR,aS,aP];rfl)
    case hq3=>exact fun _ _ _ h=>h
    case hy3=>(refine aT ⟨by rfl,?_⟩;intro w' hSw;(try dsimp only at hSw);(try go_simp);try with_reducible rfl)
    try simp only[aJ,aK,aH,aG]
    refine aQ (i:=4) (oi:=?oi4) (v:=?v4) ?hi4 (by kernel_rfl) (by kernel_rfl) (by kernel_rfl) ?hq4 ?hy4 (by assumption) ?_
    case hi4=>(simp only[aR,aS,aP];rfl)
    case hq4=>exact fun _ _ _ h=>h
    case hy4=>(refine aT ⟨by rfl,?_⟩;intro w' hSw;(try dsimp only at hSw);(try go_simp);try with_reducible rfl)
    try simp only[aJ,aK,aH,aG]
    refine aQ (i:=5) (oi:=?oi5) (v:=?v5) ?hi5 (by kernel_rfl) (by kernel_rfl) (by kernel_rfl) ?hq5 ?hy5 (by assumption) ?_
    case hi5=>(simp only[aR,aS,aP];rfl)
    case hq5=>exact fun _ _ _ h=>h
    case hy5=>(refine aT ⟨by rfl,?_⟩;intro w' hSw;(try dsimp only at hSw);(try go_simp);try with_reducible rfl)
    try simp only[aJ,aK,aH,aG]
    refine aQ (i:=6) (oi:=?oi6) (v:=?v6) ?hi6 (by kernel_rfl) (by kernel_rfl) (by kernel_rfl) ?hq6 ?hy6 (by assumption) ?_
    case hi6=>(simp only[aR,aS,aP];rfl)
    case hq6=>exact fun _ _ _ h=>h
    case hy6=>(refine aT ⟨by rfl,?_⟩;intro w' hSw;(try dsimp only at hSw);(try go_simp);try with_reducible rfl)
    try simp only[aJ,aK,aH,aG]
    refine aQ (i:=7) (oi:=?oi7) (v:=?v7) ?hi7 (by kernel_rfl) (by kernel_rfl) (by kernel_rfl) ?hq7 ?hy7 (by assumption) ?_
    case hi7=>(simp only[aR,aS,aP];rfl)
    case hq7=>exact fun _ _ _ h=>h
    case hy7=>(refine aT ⟨by rfl,?_⟩;intro w' hSw;(try dsimp only at hSw);(try go_simp);try with_reducible rfl)
    try simp only[aJ,aK,aH,aG]
    refine aQ (i:=8) (oi:=?oi8) (v:=?v8) ?hi8 (by kernel_rfl) (by kernel_rfl) (by kernel_rfl) ?hq8 ?hy8 (by assumption) ?_
    case hi8=>(simp only[aR,aS,aP];rfl)
    case hq8=>exact fun _ _ _ h=>h
    case hy8=>(refine aT ⟨by rfl,?_⟩;intro w' hSw;(try dsimp only at hSw);(try go_simp);try with_reducible rfl)
    try simp only[aJ,aK,aH,aG]
    have hbuB:w3.heap.size<=bu:=by have:=(Ow.lt hoK.out bu rfl).1;omega
    have e6d:W2.drew.cell? ⟨z+1+1,0,none⟩=some (.int .i64 0):=e6;have f6d:W2.drew.frozen? ⟨z+1+1,0,none⟩=false:=f6;have G7:Arr (W2.drew.setCell ⟨z+1+1,0,none⟩ (.int .i64 (y:Int))) (z+1+1+1) 3 [.int .i64 0]:=Arr.other (w:=W2.drew) g7 _ (by show _≠_;simp only[ne_eq];omega) _;have e7d:=G7.cell (i:=0) rfl;have f7d:=G7.free 0;have G8:Arr ((W2.drew.setCell ⟨z+1+1,0,none⟩ (.int .i64 (y:Int))).setCell ⟨z+1+1+1,0,none⟩ (.int .i64 ((a:Int)+(m:Int)))) (z+1+1+1+1) 27 [.int .i64 0]:=(Arr.other (w:=W2.drew) g8 _ (by show _≠_;simp only[ne_eq];omega) _).other _ (by show _≠_;simp only[ne_eq];omega) _
    have e8d:=G8.cell (i:=0) rfl;have f8d:=G8.free 0;have hS1:=zU hS0 (q:=⟨z+1+1,0,none⟩) (jW (by omega)) (jW (by omega)) (jW (by omega)) (jW (by omega)) (.int .i64 (y:Int));have hS2:=zU hS1 (q:=⟨z+1+1+1,0,none⟩) (jW (by omega)) (jW (by omega)) (jW (by omega)) (jW (by omega)) (.int .i64 ((a:Int)+(m:Int)));refine fL (rs:=[9]) (by kernel_rfl) (by simp) ?_;refine fA rfl (fun K hK=>?_) fM;go_simp;refine hK.out _ _ ?_ (fun _=>?_)
    ·exact zU hS0 (jW (by omega)) (jW (by omega)) (jW (by omega)) (jW (by omega)) _
    try simp only[aJ,aK,aH,aG]
    refine fL (rs:=[10]) (by kernel_rfl) (by simp) ?_;refine fA rfl (fun K hK=>?_) fM;go_simp;refine hK.out _ _ ?_ (fun _=>?_)
    ·exact zU hS1 (jW (by omega)) (jW (by omega)) (jW (by omega)) (jW (by omega)) _
    try simp only[aJ,aK,aH,aG]
    refine fL (rs:=[11]) (by kernel_rfl) (by simp) ?_;refine fA rfl (fun K hK=>?_) fM;go_simp;refine hK.out _ _ ?_ (fun _=>?_)
    ·exact zU hS2 (jW (by omega)) (jW (by omega)) (jW (by omega)) (jW (by omega)) _
    try simp only[aJ,aK,aH,aG]
    refine wpAnyH_done (by kernel_rfl) ?_ _;obtain⟨s1,s2,s3,s4⟩:=MT (W:=W2.drew) (w:=w) g6 g7 g8 hbel.drew (.int .i64 (y:Int)) (.int .i64 ((a:Int)+(m:Int))) (.int .i64 0)
    gi_wp2_with fail
    exact⟨((KeepsOthers.drew W2).trans (((iH W2.drew _ _).trans (iH _ _ _)).trans (iH _ _ _))).from _,⟨rfl,_,_,_,HRES,s1,s2,s3⟩,s4⟩
   ·have hns:=hNS hin;have HNS:=hid hns
    by_cases hge:F<=V
    ·obtain⟨D,hD⟩:∃D,D=V-F:=⟨_,rfl⟩;have m3:fU.wrap ((V:Int)-(F:Int))=(D:Int):=by rw[gF];omega
     have m4:(V:Int)-(F:Int)=(D:Int):=by omega
     have m5:fU.wrap (D:Int)=(D:Int):=by rw[gF];omega
     have t1:decide ((D:Int)<(C:Int))=false:=decide_eq_false (by omega);have t2:decide (D<C)=false:=decide_eq_false (by omega);clear hTS hTF hNS hns hin hD
     gi_wp2_with fail
     refine⟨trivial,fun _=>by omega,((callsIn_wide.2 (hget _)).inRound l0).mono ?_⟩;rintro e W2 ⟨rfl,rfl⟩
     gi_wp2_with fail
     exact⟨KeepsFrom.refl _ _,dP.refl _ _,⟨by rw[fI];exact HNS,g4,g5,g6,g7,g8⟩,hbel⟩
    ·obtain⟨D,hD⟩:∃D,D=V+18446744073709551616-F:=⟨_,rfl⟩;have m3:fU.wrap ((V:Int)-(F:Int))=(D:Int):=by rw[gF];omega
     have m3':((V:Int)-(F:Int))%18446744073709551616=(D:Int):=by omega
     have t1:decide ((D:Int)<(C:Int))=false:=decide_eq_false (by omega);have t2:decide (D<C)=false:=decide_eq_false (by omega);clear hTS hTF hNS hns hin hD
     gi_wp2_with fail
     refine⟨trivial,fun _=>by omega,((callsIn_wide.2 (hget _)).inRound l0).mono ?_⟩;rintro e W2 ⟨rfl,rfl⟩
     gi_wp2_with fail
     exact⟨KeepsFrom.refl _ _,dP.refl _ _,⟨by rw[fI];exact HNS,g4,g5,g6,g7,g8⟩,hbel⟩
  ·obtain⟨hE2,hres⟩:=hTS hE0;subst hE2;have HRES:=hid hres;clear hTS hTF hNS hres
   gi_wp2_with fail
   refine⟨trivial,fun _=>by omega,((callsIn_wide.2 (hget _)).inRound l0).mono ?_⟩;rintro e W2 ⟨rfl,rfl⟩
   gi_wp2_with fail
   exact⟨(((iH W2 _ _).trans (iH _ _ _)).trans (iH _ _ _)).from _,⟨rfl,0,0,2,HRES,(HSET.out _ _ _).1,(HSET.out _ _ _).2.1,(HSET.out _ _ _).2.2.1⟩,(HSET.out _ _ _).2.2.2⟩
 case done=>
  rintro D xs W hD hfin ⟨⟨HNF,g4,g5,g6,g7,g8⟩,hbel⟩ hK;have hnf:=HNF.out;rw[hfin] at hnf;have HRES:=hid (aQe HE.out hnf);have e6:=g6.cell (i:=0) rfl;have e7:=g7.cell (i:=0) rfl;have e8:=g8.cell (i:=0) rfl;have f6:=g6.free 0;have f7:=g7.free 0;have f8:=g8.free 0
  gi_wp2_with fail
  obtain⟨q6,q7,q8,q9⟩:=MT g6 g7 g8 hbel (.int .i64 0) (.int .i64 0) (.int .i64 3);have hKd:=((((iH W ⟨z+1+1,0,none⟩ (.int .i64 0)).trans (iH _ ⟨z+1+1+1,0,none⟩ (.int .i64 0))).trans (iH _ ⟨z+1+1+1+1,0,none⟩ (.int .i64 3))).same D _ hK rfl);refine⟨by simp,.inl ⟨_,_,rfl,sJ hKd,?_⟩⟩;have q6:=(q6.grown (mC _ D (.deferred none)) (by simp;omega)).cell (i:=0) rfl;have q7:=(q7.grown (mC _ D (.deferred none)) (by simp;omega)).cell (i:=0) rfl
  have q8:=(q8.grown (mC _ D (.deferred none)) (by simp;omega)).cell (i:=0) rfl;refine⟨.tuple #[.int .i64 0,.int .i64 0,.int .i64 3],?_,by rw[HRES.out],?_⟩
  ·simp[results,Tryz.f122,go_sem,q6,q7,q8]
  ·rw[<-HZ.out];exact q9.trans (belowK_b (w:=w3) (by omega) _ D _ _ hD hKd rfl rfl)
 case stop=>
  rintro D c pre W hD ⟨⟨rfl,r1,r2,r3,HR,g6,g7,g8⟩,hbel⟩ hK
  gi_wp2_with fail
  refine⟨by simp,.inl ⟨_,_,rfl,sJ hK,?_⟩⟩;have q6:=(g6.grown (mC _ D (.deferred none)) (by simp;omega)).cell (i:=0) rfl;have q7:=(g7.grown (mC _ D (.deferred none)) (by simp;omega)).cell (i:=0) rfl;have q8:=(g8.grown (mC _ D (.deferred none)) (by simp;omega)).cell (i:=0) rfl;refine⟨.tuple #[.int .i64 r1,.int .i64 r2,.int .i64 r3],?_,by rw[HR.out],?_⟩
  ·simp[results,Tryz.f122,go_sem,q6,q7,q8]
  ·rw[<-HZ.out];exact hbel.trans (belowK_b (w:=w3) (by omega) _ D _ _ hD hK rfl rfl)
theorem aQk (v:Value) (l:List Int) (s:ByteArray) (a:Nat) (w:World) (hr:RdI w v l) (hE:bL l=0) (hs:s.size<=1000000) (ha:a<=100000000):
  Calls Tryz.prog 122 #[v,.string s,.int .i64 (a:Int)] w fun e w'=>e=.returned (.tuple #[.int .i64 (bZ l s.data.toList (a:Int)).1,.int .i64 (bZ l s.data.toList (a:Int)).2.1,.int .i64 (bZ l s.data.toList (a:Int)).2.2])/\Below w.heap.size w w':=
 callsIn_wide.1 (aQj 3 (aA _) v l s a w hr hE hs ha)
end
section
open Go.RowKit Go Go.Shelf
def EU (w w':World) (b:Nat) (s:ByteArray) (a:Nat) (vt vc co:Value) (T:List (List Int)) (ch:List Int) (fin:Int) (e:Ending):Prop:=
 ((gX s.data.toList (a:Int) T ch fin).2.2=0/\(∃v,e=.returned v/\OwI w' w.heap.size v (gX s.data.toList (a:Int) T ch fin).1)/\(∃p:Nat,(gX s.data.toList (a:Int) T ch fin).2.1=(p:Int)/\BRd w' b s p vt vc co)/\w.grownBy w' (some b))\/
 ((gX s.data.toList (a:Int) T ch fin).2.2≠0/\e=.panicked (oC (gX s.data.toList (a:Int) T ch fin).2.2)/\w.grownBy w' (some b))
theorem MU {w w':World} {b:Nat} {s:ByteArray} {a:Nat} {vt vc co:Value} {T:List (List Int)} {ch:List Int} {fin E:Int} (h:gX s.data.toList (a:Int) T ch fin=([],0,E)) (hE:E≠0) (hg:w.grownBy w' (some b)):EU w w' b s a vt vc co T ch fin (.panicked (oC E)):=
 .inr (by rw[h];exact⟨hE,rfl,hg⟩)
theorem aQl {w w':World} {b p:Nat} {s:ByteArray} {a:Nat} {vt vc co v:Value} {T:List (List Int)} {ch r:List Int} {fin:Int} (h:gX s.data.toList (a:Int) T ch fin=(r,(p:Int),0)) (ho:OwI w' w.heap.size v r) (hA:BRd w' b s p vt vc co) (hg:w.grownBy w' (some b)):EU w w' b s a vt vc co T ch fin (.returned v):=
 .inl (by rw[h];exact⟨rfl,⟨v,rfl,ho⟩,⟨p,rfl,hA⟩,hg⟩)
theorem gbK {A B C:World} {g:Option Nat} (h:A.grownBy B g) (k:Below A.heap.size B C):A.grownBy C g:=
 ⟨k.os.trans h.os,k.tape.trans h.tape,k.output.trans h.output,aW h.size k.size,fun i hi hne=>(k.block i hi).trans (h.block i hi hne)⟩
theorem aAj {w1 w2:World} {p1 p2 p3 p4:Addr} {v1 v2 v3 v4:Value} {B:Nat} {w0:World}
  (h:w1.cell? p1=some v1/\w1.cell? p2=some v2/\w1.cell? p3=some v3/\w1.cell? p4=some v4/\Below B w0 w1/\B<=w1.heap.size) (hb:Below w1.heap.size w1 w2):
  w2.cell? p1=some v1/\w2.cell? p2=some v2/\w2.cell? p3=some v3/\w2.cell? p4=some v4/\Below B w0 w2/\B<=w2.heap.size:=by
 obtain⟨h1,h2,h3,h4,h6,h7⟩:=h;have k:∀{p:Addr} {v:Value},w1.cell? p=some v->w2.cell? p=some v:=fun{p} {v} hp=>(hb.cell (World.block_lt_of_cell? w1 p hp)).trans hp
 exact⟨k h1,k h2,k h3,k h4,h6.trans (hb.mono h7),aW h7 hb.size⟩
theorem RdI.openG {w:World} {b:Nat} {v:Value} {l:List Int} (h:∀W,w.grownBy W (some b)->RdI W v l) (h0:0<l.length):
  ∃bb off cap,v=.slice (some ⟨bb,off,none⟩) l.length cap/\l.length<=cap/\cap<=maxLen/\∀W,w.grownBy W (some b)->∀j x,l[j]? =some x->W.cell? ⟨bb,off+j,none⟩=some (.int .i64 x):=by
 obtain⟨a,cap,rfl,h1,h2,h3⟩:=(h w (gbB (aB _ _))).open;obtain⟨bb,off,rfl,-,-⟩:=h3 h0;refine⟨bb,off,cap,rfl,h1,h2,fun W hW j x hx=>?_⟩;obtain⟨a',cap',he,-,-,h3⟩:=(h W hW).open;obtain⟨b',o',ha,-,hc⟩:=h3 h0
 injection he with he
 rw[ha] at he
 injection he with he
 injection he with he1 he2
 rw[he1,he2];exact hc j x hx
theorem RdL.openG {w:World} {b:Nat} {v:Value} {gs:List (List Int)} (h:∀W,w.grownBy W (some b)->RdL W v gs) (h0:0<gs.length):
  ∃bb off cap,v=.slice (some ⟨bb,off,none⟩) gs.length cap/\gs.length<=cap/\cap<=maxLen/\∀W,w.grownBy W (some b)->∀(j:Nat) (g:List Int),gs[j]? =some g->∃x,W.cell? ⟨bb,off+j,none⟩=some x/\RdI W x g:=by
 obtain⟨a,cap,rfl,h1,h2,h3⟩:=(h w (gbB (aB _ _))).open;obtain⟨bb,off,rfl,-,-⟩:=h3 h0;refine⟨bb,off,cap,rfl,h1,h2,fun W hW j x hx=>?_⟩;obtain⟨a',cap',he,-,-,h3⟩:=(h W hW).open;obtain⟨b',o',ha,-,hc⟩:=h3 h0
 injection he with he
 rw[ha] at he
 injection he with he
 injection he with he1 he2
 rw[he1,he2];exact hc j x hx
theorem aQm (b:Nat) (s:ByteArray) (a C:Nat) (vt vc:Value) (T:List (List Int)) (ch:List Int) (w:World) (hA:BRd w b s a vt vc (.int .i64 (C:Int))) (hs:s.size<=1000000) (ha:a<=80000000)
  (ht:∀W,w.grownBy W (some b)->RdL W vt T) (hc:∀W,w.grownBy W (some b)->RdI W vc ch) (hT:∀l∈T,bL l=0) (hch:∀x∈ch,0<=x/\x<(T.length:Int)) (hn0:0<ch.length) (hn:ch.length<=40000) (hT0:0<T.length) (hC1:2<=C) (hC2:C<=258):
  Calls Tryz.prog 114 #[.pointer (some ⟨b,0,none⟩)] w fun e w'=>EU w w' b s a vt vc (.int .i64 (C:Int)) T ch ((C:Int)-1) e:=by
 have HL:=hid (show s.data.toList.length=s.size by simp);have hgw:w.grownBy w (some b):=gbB (aB _ _);obtain⟨bt,ot,ct,rfl,hnt,hmt,hct⟩:=RdL.openG ht hT0;unfold maxLen at hmt;obtain⟨bc,oc,cc,rfl,hnc,hmc,hcc⟩:=RdI.openG hc hn0;unfold maxLen at hmc;have hbw:b<w.heap.size:=Arr.lt hA;obtain⟨N,hN⟩:∃N,N=ch.length:=⟨_,rfl⟩;obtain⟨M,hM⟩:∃M,M=T.length:=⟨_,rfl⟩;have m2:aI.wrap ((C:Int)-1)=(C:Int)-1:=by rw[aM];omega
 have HOF:=hid (fun k (r:List Int) (p E:Int) (b:Bool) (hk:k<=10*N) (h:bH s.data.toList (a:Int) T ch ((C:Int)-1) k=(r,p,E,b)) (hE:E≠0\/b=true)=>UL (by omega) h hE);have HEND:=hid (fun k (r:List Int) (p:Int) (hk:k=10*N) (h:bH s.data.toList (a:Int) T ch ((C:Int)-1) k=(r,p,0,false))=>show gX s.data.toList (a:Int) T ch ((C:Int)-1)=([],0,3) by
  unfold gX;rw[<-hN,<-hk,h];rfl)
 have HLEN:=hid (KS s.data.toList (a:Int) T ch ((C:Int)-1));have HGET:=hid (fun(i:Nat) (hi:i<N)=>show ∃(X:Nat) (l:List Int),ch[i]? =some (X:Int)/\T[X]? =some l/\X<M/\bL l=0/\∀W,w.grownBy W (some b)->W.cell? ⟨bc,oc+i,none⟩=some (.int .i64 (X:Int))/\∃x,W.cell? ⟨bt,ot+X,none⟩=some x/\RdI W x l by
  obtain⟨x,hx⟩:=dH (show i<ch.length by omega);have hxb:=hch x (cH hx);obtain⟨X,rfl⟩:∃X:Nat,x=(X:Int):=⟨x.toNat,by omega⟩;have hXT:X<T.length:=by omega
  have hl:T[X]? =some T[X]:=aN hXT;exact⟨X,_,hx,hl,by omega,hT _ (cH hl),fun W hW=>⟨hcc W hW i _ hx,hct W hW X _ hl⟩⟩)
 have HSTEP:=hid (fun(i j k p X:Nat) (l r:List Int) (hk:k=10*i+j) (hj:j<10) (hx:ch[i]? =some (X:Int)) (hl:T[X]? =some l) (h:bH s.data.toList (a:Int) T ch ((C:Int)-1) k=(r,(p:Int),0,false))=>
  show bH s.data.toList (a:Int) T ch ((C:Int)-1) (k+1)=
   if(bZ l s.data.toList (p:Int)).2.2≠0 then(r,(p:Int),(bZ l s.data.toList (p:Int)).2.2,false)
   else if(bZ l s.data.toList (p:Int)).1=(C:Int)-1 then
    if i+1<N then(r++[(bZ l s.data.toList (p:Int)).1],(bZ l s.data.toList (p:Int)).2.1,3,false)
    else(r++[(bZ l s.data.toList (p:Int)).1],(bZ l s.data.toList (p:Int)).2.1,0,true)
   else(r++[(bZ l s.data.toList (p:Int)).1],(bZ l s.data.toList (p:Int)).2.1,0,false) by
  rw[UJ (by rw[h]) (by rw[h]),h];have e1:ch.getD (k/10) 0=(X:Int):=by rw[show k/10=i by omega,aV,hx];rfl
  have e2:T.getD X []=l:=by rw[aV,hl];rfl
  rw[e1,Int.toNat_natCast,e2,hN,show k/10=i by omega])
 rw[<-hN] at hn hnc hn0;rw[<-hM] at hnt hT0;rw[<-hN,<-hM] at hA ⊢;have m3:aI.wrap ((N:Int)-1)=(N:Int)-1:=by rw[aM];omega
 clear ht hc hT hch hcc hct hM hN;have d3:=Arr.cell hA (i:=3) rfl;go_enter Tryz.func114,Tryz.ntmps114;go_wp2_with fail;clear d3
 go_loopg [2,3,4,5,6,7,13,18] N (fun g s2 _s3 _s4 _s5 _s6 _s7 s13 _s18 wr=>∃(i p k:Nat) (v:Value) (r:List Int),i<=N/\g=N-i/\v=s2/\s13=.int .i64 (i:Int)/\p<=80000000/\Hid (k=10*i)/\Hid (bH s.data.toList (a:Int) T ch ((C:Int)-1) k=(r,(p:Int),0,false))/\OwI wr w.heap.size v r/\BRd wr b s p (.slice (some ⟨bt,ot,none⟩) M ct) (.slice (some ⟨bc,oc,none⟩) N cc) (.int .i64 (C:Int))/\w.grownBy wr (some b))
 case atStart=>exact⟨0,a,0,_,[],aU _,rfl,rfl,rfl,ha,hid rfl,hid rfl,OwI.nil _ _,hA,hgw⟩
 case round=>
  clear hA hgw;obtain⟨i,p,k,v,r,hi,hg,rfl,rfl,hp,HK,HS,ho,hA,hgr⟩:=hrel;have HG:=hid hg;clear hg
  by_cases hlt:i<N
  ·have v1:decide ((i:Int)<(N:Int))=true:=decide_eq_true (by omega);obtain⟨X,l,hx,hl,hXM,hle,hcl⟩:=HGET.out i hlt;have c1:=(hcl wr hgr).1;have HX:=hid hx;have HLL:=hid hl;have HCL:=hid hcl;clear hx hl hcl;go_wp2_with fail;clear c1
   go_loopg [2,5,6,7,18] 10 (fun g s2 _s5 _s6 _s7 s18 wr=>∃(j p k:Nat) (v:Value) (r:List Int),j<=10/\g=10-j/\v=s2/\s18=.int .i64 (j:Int)/\p<=80000000/\Hid (k=10*i+j)/\Hid (bH s.data.toList (a:Int) T ch ((C:Int)-1) k=(r,(p:Int),0,false))/\OwI wr w.heap.size v r/\BRd wr b s p (.slice (some ⟨bt,ot,none⟩) M ct) (.slice (some ⟨bc,oc,none⟩) N cc) (.int .i64 (C:Int))/\w.grownBy wr (some b))
   case atStart=>exact⟨0,p,k,_,r,by omega,rfl,rfl,rfl,hp,hid HK.out,HS,ho,hA,hgr⟩
   case round=>
    clear hA hgr ho HK HS hp;obtain⟨j,p,k,v,r,hj,hg,rfl,rfl,hp,HK,HS,ho,hA,hgr⟩:=hrel;have HG2:=hid hg;clear hg
    by_cases hjl:j<10
    ·have v2:decide ((j:Int)<10)=true:=decide_eq_true (by omega);have hrl:r.length<=400000:=by
      have h1:=HLEN.out k;rw[HS.out] at h1;have h1:r.length<=k:=h1;have:=HK.out;omega
     obtain⟨x,c2,hxr⟩:=(HCL.out wr hgr).2;have hst:=HSTEP.out i j k p X l r HK.out hjl HX.out HLL.out HS.out;have hcall:=fun W (h:Below wr.heap.size wr W)=>aQk x l s p W (hxr.below h) hle hs (by omega)
     have hpl:=UM (l:=l) (s:=s.data.toList) (a:=p);rw[HL.out] at hpl;obtain⟨q1,q2,q3,hqq⟩:∃q1 q2 q3,bZ l s.data.toList (p:Int)=(q1,q2,q3):=⟨_,_,_,rfl⟩;rw[hqq] at hst hcall hpl;simp only at hst hcall hpl;obtain⟨ax,cx,rfl,_,_,_⟩:=hxr.open;have d0:=Arr.cell hA (i:=0) rfl;have d1:=Arr.cell hA (i:=1) rfl;have d2:=Arr.cell hA (i:=2) rfl;have HST:=hid hst;have HPL:=hid hpl;clear hqq hxr hst hpl;go_upto_region 6 with fail
     go_cut [5,6,7] (fun c5 c6 c7 wx=>c5=.int .i64 q1/\c6=.int .i64 q2/\c7=.int .i64 q3/\Below wr.heap.size wr wx)
     case first=>
      obtain⟨B3,hB3⟩:∃B3,B3=wr.heap.size:=⟨_,rfl⟩;rw[<-hB3] at hcall;have HB3:=hid hB3;have hcall:=fun W (h:W.cell? ⟨b,0,none⟩=some (.string s)/\W.cell? ⟨b,1,none⟩=some (.int .i64 (p:Int))/\W.cell? ⟨b,2,none⟩=some (.slice (some ⟨bt,ot,none⟩) M ct)/\W.cell? ⟨bt,ot+X,none⟩=some (.slice ax l.length cx)/\Below B3 wr W/\B3<=W.heap.size)=>hcall W h.2.2.2.2.1
      have hS0:=aAj (B:=B3) (w0:=wr) ⟨d0,d1,d2,c2,aB _ _,by omega⟩ (aB wr.heap.size wr).drew;clear hB3 d0 d1 d2 c2
      go_region_held3 (fun w'=>w'.cell? ⟨b,0,none⟩=some (.string s)/\w'.cell? ⟨b,1,none⟩=some (.int .i64 (p:Int))/\w'.cell? ⟨b,2,none⟩=some (.slice (some ⟨bt,ot,none⟩) M ct)/\w'.cell? ⟨bt,ot+X,none⟩=some (.slice ax l.length cx)/\Below B3 wr w'/\B3<=w'.heap.size)
       (first
        |with_reducible assumption
        |with_reducible exact aAj (by assumption) (by assumption))
       (first
        |(go_at_call 122;refine(hcall _ (by assumption)).mono ?_;rintro e w3 ⟨rfl,hb3⟩))
      have hS5:=(show w3.cell? ⟨b,0,none⟩=some (.string s)/\w3.cell? ⟨b,1,none⟩=some (.int .i64 (p:Int))/\w3.cell? ⟨b,2,none⟩=some (.slice (some ⟨bt,ot,none⟩) M ct)/\w3.cell? ⟨bt,ot+X,none⟩=some (.slice ax l.length cx)/\Below B3 wr w3/\B3<=w3.heap.size by assumption);go_wp2_with fail;go_meet;exact⟨rfl,rfl,rfl,by rw[<-HB3.out];exact hS5.2.2.2.2.1⟩
     case rest=>
      obtain⟨rfl,rfl,rfl,hbx⟩:=hcut;have hA:=Arr.below hA hbx (Arr.lt hA);have ho:=OwI.below ho hbx (aA _);have hgr:=gbT hgr (gbB hbx);clear hcall d0 d1 d2 c2;go_wp2_with fail;refine(ES b s p q2 q3 _ _ _ wc hA).mono ?_;rintro e w4 (⟨rfl,rfl,hA4,hg4⟩|⟨h0,rfl,rfl⟩)
      rotate_left
      ·have hst:=HST.out;rw[if_pos h0] at hst;have hR:=HOF.out (k+1) _ _ _ _ (by have:=HK.out;omega) hst (.inl h0);rw[if_pos h0] at hR;have HR:=hid hR;clear hst hR;go_wp2_with fail;exact⟨rfl,MU HR.out h0 hgr⟩
      have hst:=HST.out;rw[if_neg (fun k=>k rfl)] at hst;obtain⟨p1,p2,p3,p4⟩:=HPL.out rfl;obtain⟨pp,rfl⟩:∃pp:Nat,q2=(pp:Int):=⟨q2.toNat,by omega⟩;have hgr:=gbT hgr hg4;have ho:=Ow.kept ho hg4 (iL ho hbw);have hsz:=hgr.size;have hA4:BRd w4 b s pp (.slice (some ⟨bt,ot,none⟩) M ct) (.slice (some ⟨bc,oc,none⟩) N cc) (.int .i64 (C:Int)):=hA4;clear hA hg4 hbx
      by_cases hf:q1=(C:Int)-1
      ·rw[if_pos hf] at hst;have v3:(q1==(C:Int)-1)=true:=by rw[beq_iff_eq];exact hf
       by_cases hl2:i+1<N
       ·rw[if_pos hl2] at hst;have v4:((i:Int)==(N:Int)-1)=false:=by rw[beq_eq_false_iff_ne];omega
        have hR:=HOF.out (k+1) _ _ _ _ (by have:=HK.out;omega) hst (.inl (by decide));rw[if_pos (by decide)] at hR;have HR:=hid hR;have HF:=hid hf;clear hst hR hf hl2;go_wp2_with (at_builtin;refine eN rfl _ _ rfl w.heap.size _ _ rfl (OwI.alloc ho _) _ q1 rfl (bS _ _ _) ?_ ?_ ?_;(omega);(simp;omega);intro v5 w5 r1 r2 r3;have d4:=((Arr.alloc hA4 (.cells #[.int .i64 q1] 3)).below r2 hbw).cell (i:=4) rfl;have d3:=((Arr.alloc hA4 (.cells #[.int .i64 q1] 3)).below r2 hbw).cell (i:=3) rfl);refine(pU false 3 _ (by decide)).mono ?_;rintro e w6 (⟨h0,rfl,rfl⟩|⟨h0,rfl,rfl⟩)
        ·exact absurd h0 (by decide)
        go_wp2_with fail;exact⟨rfl,MU HR.out (by decide) (gbK (gbT hgr (gbB (bD (aB _ _) _))) r2)⟩
       ·rw[if_neg hl2] at hst;have v4:((i:Int)==(N:Int)-1)=true:=by rw[beq_iff_eq];omega
        have hR:=HOF.out (k+1) _ _ _ _ (by have:=HK.out;omega) hst (.inr rfl);rw[if_neg (fun k=>k rfl)] at hR;have HR:=hid hR;have HF:=hid hf;clear hst hR hf hl2;go_wp2_with (at_builtin;refine eN rfl _ _ rfl w.heap.size _ _ rfl (OwI.alloc ho _) _ q1 rfl (bS _ _ _) ?_ ?_ ?_;(omega);(simp;omega);intro v5 w5 r1 r2 r3;have d4:=((Arr.alloc hA4 (.cells #[.int .i64 q1] 3)).below r2 hbw).cell (i:=4) rfl;have d3:=((Arr.alloc hA4 (.cells #[.int .i64 q1] 3)).below r2 hbw).cell (i:=3) rfl);refine(pU true 3 _ (by decide)).mono ?_;rintro e w6 (⟨h0,rfl,rfl⟩|⟨h0,rfl,rfl⟩)
        rotate_left
        ·exact absurd h0 (by decide)
        go_wp2_with fail;go_ret;exact aQl HR.out r1 ((Arr.alloc hA4 _).below r2 hbw) (gbK (gbT hgr (gbB (bD (aB _ _) _))) r2)
      ·rw[if_neg hf] at hst;have v3:(q1==(C:Int)-1)=false:=by rw[beq_eq_false_iff_ne];exact hf
       have HS2:=hid hst;clear hst hf;go_wp2_with (at_builtin;refine eN rfl _ _ rfl w.heap.size _ _ rfl (OwI.alloc ho _) _ q1 rfl (bS _ _ _) ?_ ?_ ?_;(omega);(simp;omega);intro v5 w5 r1 r2 r3;have d4:=((Arr.alloc hA4 (.cells #[.int .i64 q1] 3)).below r2 hbw).cell (i:=4) rfl);have hg:=HG2.out
       go_roundg (10-(j+1))
       case measure=>omega
       case rel=>exact⟨j+1,pp,k+1,_,_,by omega,rfl,rfl,by go_num,by omega,hid (by have:=HK.out;omega),HS2,r1,(Arr.alloc hA4 _).below r2 hbw,gbK (gbT hgr (gbB (bD (aB _ _) _))) r2⟩
    ·have v2:decide ((j:Int)<10)=false:=decide_eq_false (by omega);go_wp2_with fail;have hg:=HG.out
     go_roundg (N-(i+1))
     case measure=>omega
     case rel=>exact⟨i+1,p,k,_,r,by omega,rfl,rfl,by go_num,hp,hid (by have:=HK.out;omega),HS,ho,hA,hgr⟩
  ·have v1:decide ((i:Int)<(N:Int))=false:=decide_eq_false (by omega);have hR:=HEND.out k _ _ (by have:=HK.out;omega) HS.out;have HR:=hid hR;clear hR;go_wp2_with fail;exact⟨rfl,MU HR.out (by decide) hgr⟩
def aAk (w w':World) (b:Nat) (s:ByteArray) (a C:Nat) (e:Ending):Prop:=
 ((cV s.data.toList (a:Int) (C:Int)).2.2≠0/\cV s.data.toList (a:Int) (C:Int)=([],0,(cV s.data.toList (a:Int) (C:Int)).2.2)/\e=.panicked (oC (cV s.data.toList (a:Int) (C:Int)).2.2)/\w.grownBy w' (some b))\/
 (e=.returned (.tuple #[])/\∃(p:Nat) (vt vc:Value) (T:List (List Int)) (ch:List Int),cV s.data.toList (a:Int) (C:Int)=gX s.data.toList (p:Int) T ch ((C:Int)-1)/\BRd w' b s p vt vc (.int .i64 (C:Int))/\w.grownBy w' (some b)/\
  (∀W,w'.grownBy W (some b)->RdL W vt T)/\(∀W,w'.grownBy W (some b)->RdI W vc ch)/\(∀l∈T,bL l=0)/\(∀x∈ch,0<=x/\x<(T.length:Int))/\0<ch.length/\ch.length<=40000/\0<T.length/\p<=80000000)
theorem tJ {w w':World} {b:Nat} {s:ByteArray} {a C:Nat} {E:Int} (h:cV s.data.toList (a:Int) (C:Int)=([],0,E)) (hE:E≠0) (hg:w.grownBy w' (some b)):aAk w w' b s a C (.panicked (oC E)):=
 .inl (by rw[h];exact⟨hE,rfl,rfl,hg⟩)
theorem aQn (V:Nat) (h:V<2):decide ((V:Int)>=2)=false/\decide (2<=(V:Int))=false:=⟨decide_eq_false (by omega),decide_eq_false (by omega)⟩
theorem aQo (b:Nat) (s:ByteArray) (a C:Nat) (w:World) (hA:BRd w b s a (.slice none 0 0) (.slice none 0 0) (.int .i64 (C:Int))) (hs:s.size<=1000000) (ha:a<=70000000) (hC1:2<=C) (hC2:C<=258):
  Calls Tryz.prog 113 #[.pointer (some ⟨b,0,none⟩)] w fun e w'=>aAk w w' b s a C e:=by
 have HL:=hid (show s.data.toList.length=s.size by simp);have hgw:w.grownBy w (some b):=gbB (aB _ _);have hbw:b<w.heap.size:=Arr.lt hA;have hv1:=iA s.data.toList (a:Int) 3;have hv2:=iA s.data.toList ((a:Int)+3) 15;have hd:=UN s.data.toList (a:Int) (C:Int);rw[HL.out] at hd;have hok2:=fQ (n:=s.size) (at':=((a:Int)+3)) (k:=15);have hn1:=zT b s a 3 (.slice none 0 0) (.slice none 0 0) (.int .i64 (C:Int)) w hA hs (by decide) (by omega);have hn2:=fun W h=>zT b s (a+3) 15 (.slice none 0 0) (.slice none 0 0) (.int .i64 (C:Int)) W h hs (by decide) (by omega)
 rw[show(((a+3:Nat):Int))=(a:Int)+3 by push_cast;rfl] at hn2;obtain⟨E1,hE1⟩:∃E1,E1=aO s.size (a:Int) 3:=⟨_,rfl⟩;obtain⟨V1,hV1⟩:∃V1,V1=aE s.data.toList (a:Int) 3:=⟨_,rfl⟩;obtain⟨E2,hE2⟩:∃E2,E2=aO s.size ((a:Int)+3) 15:=⟨_,rfl⟩;obtain⟨V2,hV2⟩:∃V2,V2=aE s.data.toList ((a:Int)+3) 15:=⟨_,rfl⟩;rw[<-hE1,<-hV1] at hn1;rw[<-hE2,<-hV2] at hn2;rw[<-hV1] at hv1;rw[<-hV2] at hv2;rw[<-hE2] at hok2;rw[<-hE1,<-hV1,<-hE2,<-hV2] at hd;clear hE1 hV1 hE2 hV2;have hv1:V1<8:=hv1;have hv2:V2<32768:=hv2;obtain⟨A,hAe⟩:∃A,A=a+3+15:=⟨_,rfl⟩;have m3:(a:Int)+18=(A:Int):=by omega
 have hA7:A<=70000018:=by omega
 rw[m3] at hd;go_enter Tryz.func113,Tryz.ntmps113;go_wp2_with fail;refine hn1.mono ?_;rintro e w1 (⟨h1,rfl,hA1,hg1⟩|⟨h1,rfl,hg1⟩)
 rotate_left
 ·rw[if_pos h1] at hd;have HF:=hid hd;clear hd;go_wp2_with fail;exact⟨rfl,tJ HF.out h1 hg1⟩
 rw[if_neg (fun k=>k h1)] at hd;clear hn1 hA
 by_cases h2:V1<2\/6<V1
 ·rw[if_pos h2] at hd;have HF:=hid hd;clear hd
  by_cases h3:V1<2
  ·obtain⟨u1,u2⟩:=aQn V1 h3;go_wp2_with fail;refine(pU false 3 _ (by decide)).mono ?_;rintro e w2 (⟨h0,rfl,rfl⟩|⟨h0,rfl,rfl⟩)
   ·exact absurd h0 (by decide)
   go_wp2_with fail;exact⟨rfl,tJ HF.out (by decide) hg1⟩
  ·have u1:decide ((V1:Int)>=2)=true:=decide_eq_true (by omega);have u1':decide (2<=(V1:Int))=true:=decide_eq_true (by omega);have u2:decide ((V1:Int)<=6)=false:=decide_eq_false (by omega);go_wp2_with fail;refine(pU false 3 _ (by decide)).mono ?_;rintro e w2 (⟨h0,rfl,rfl⟩|⟨h0,rfl,rfl⟩)
   ·exact absurd h0 (by decide)
   go_wp2_with fail;exact⟨rfl,tJ HF.out (by decide) hg1⟩
 rw[if_neg h2] at hd;have u1:decide ((V1:Int)>=2)=true:=decide_eq_true (by omega);have u1':decide (2<=(V1:Int))=true:=decide_eq_true (by omega);have u2:decide ((V1:Int)<=6)=true:=decide_eq_true (by omega);have hV2':2<=V1:=by omega
 have hV6:V1<=6:=by omega
 clear h2;go_wp2_with fail;refine(pU true 3 _ (by decide)).mono ?_;rintro e w2 (⟨h0,rfl,rfl⟩|⟨h0,rfl,rfl⟩)
 rotate_left
 ·exact absurd h0 (by decide)
 go_wp2_with fail;refine(hn2 _ hA1).mono ?_;rintro e w2 (⟨h3,rfl,hA2,hg2⟩|⟨h3,rfl,hg2⟩)
 rotate_left
 ·rw[if_pos h3] at hd;have HF:=hid hd;clear hd;go_wp2_with fail;exact⟨rfl,tJ HF.out h3 (gbT hg1 hg2)⟩
 rw[if_neg (fun k=>k h3)] at hd;have hok2:=hok2 h3;have hg2:=gbT hg1 hg2;clear hn2 hA1 hg1
 by_cases h4:V2=0
 ·rw[if_pos h4] at hd;have HF:=hid hd;clear hd;have u3:decide ((V2:Int)>0)=false:=decide_eq_false (by omega);have u4:decide (0<(V2:Int))=false:=decide_eq_false (by omega);have u5:decide (0<V2)=false:=decide_eq_false (by omega);go_wp2_with fail;refine(pU false 3 _ (by decide)).mono ?_;rintro e w3 (⟨h0,rfl,rfl⟩|⟨h0,rfl,rfl⟩)
  ·exact absurd h0 (by decide)
  go_wp2_with fail;exact⟨rfl,tJ HF.out (by decide) hg2⟩
 rw[if_neg h4] at hd;have u3:decide ((V2:Int)>0)=true:=decide_eq_true (by omega);have u4:decide (0<(V2:Int))=true:=decide_eq_true (by omega);have u5:decide (0<V2)=true:=decide_eq_true (by omega);have hV0:0<V2:=by omega
 go_wp2_with fail;refine(pU true 3 _ (by decide)).mono ?_;rintro e w3 (⟨h0,rfl,rfl⟩|⟨h0,rfl,rfl⟩)
 rotate_left
 ·exact absurd h0 (by decide)
 rw[<-hAe] at hA2;have hsel:=fun W=>aO2 s A V2 V1 W hs (by omega) (by omega) hV2' hV6
 have hso:=UO (s:=s.data.toList) (a:=A) (n:=V2) (t:=V1) hV2' hV6 (by omega);unfold yX at hsel;obtain⟨c1,c2,c3,hce⟩:∃c1 c2 c3,dD s.data.toList (A:Int) (V2:Int) (V1:Int)=(c1,c2,c3):=⟨_,_,_,rfl⟩;rw[hce] at hsel hso hd;simp only at hsel hso hd;rw[HL.out] at hso;have d0:=Arr.cell hA2 (i:=0) rfl;have d1:=Arr.cell hA2 (i:=1) rfl;have d4:=Arr.cell hA2 (i:=4) rfl;have HD:=hid hd;have HSO:=hid hso;clear hce h4 hd hso hAe u1 u1' u2 u3 u4 u5;go_upto_region 4 with fail
 go_cut [4,5,6] (fun c4' c5 c6 wx=>(∃v,v=c4'/\OwI wx w3.heap.size v c1)/\c5=.int .i64 c2/\c6=.int .i64 c3/\Below w3.heap.size w3 wx)
 case first=>
  obtain⟨B3,hB3⟩:∃B3,B3=w3.heap.size:=⟨_,rfl⟩;have HB3:=hid hB3;have hsel:∀W,(W.cell? ⟨b,0,none⟩=some (.string s)/\W.cell? ⟨b,1,none⟩=some (.int .i64 (A:Int))/\W.cell? ⟨b,4,none⟩=some (.int .i64 (C:Int))/\Below B3 w3 W/\B3<=W.heap.size)->Calls Tryz.prog 119 #[.string s,.int .i64 (A:Int),.int .i64 (V2:Int),.int .i64 (V1:Int)] W fun e w'=>∃v,e=.returned (.tuple #[v,.int .i64 c2,.int .i64 c3])/\OwI w' B3 v c1/\Below W.heap.size W w':=fun W h=>(hsel W).mono (fun e w' ⟨v,k1,k2,k3⟩=>⟨v,k1,OwI.base k2 h.2.2.2.2,k3⟩)
  have hS0:=kZ (B:=B3) (w0:=w3) ⟨d0,d1,d4,aB _ _,by omega⟩ (aB w3.heap.size w3).drew;clear hB3 d0 d1 d4
  go_region_held3 (fun w'=>w'.cell? ⟨b,0,none⟩=some (.string s)/\w'.cell? ⟨b,1,none⟩=some (.int .i64 (A:Int))/\w'.cell? ⟨b,4,none⟩=some (.int .i64 (C:Int))/\Below B3 w3 w'/\B3<=w'.heap.size)
   (first
    |with_reducible assumption
    |with_reducible exact kZ (by assumption) (by assumption))
   (first
    |(go_at_call 119;refine(hsel _ (by assumption)).mono ?_;rintro e w4 ⟨v4,rfl,ho4,hb4⟩))
  have hS5:=(show w4.cell? ⟨b,0,none⟩=some (.string s)/\w4.cell? ⟨b,1,none⟩=some (.int .i64 (A:Int))/\w4.cell? ⟨b,4,none⟩=some (.int .i64 (C:Int))/\Below B3 w3 w4/\B3<=w4.heap.size by assumption);go_wp2_with fail;go_meet;exact⟨⟨v4,rfl,by rw[<-HB3.out];exact ho4⟩,rfl,rfl,by rw[<-HB3.out];exact hS5.2.2.2.1⟩
 case rest=>
  obtain⟨⟨v4,rfl,ho4⟩,rfl,rfl,hb4⟩:=hcut;have hA4:=Arr.below hA2 hb4 (Arr.lt hA2);have ho4:=OwI.base ho4 hg2.size;have hg4:=gbT hg2 (gbB hb4);clear hsel d0 d1 d4 hA2 hg2 hb4;go_wp2_with fail;refine(ES b s A c2 c3 _ _ _ wc hA4).mono ?_;rintro e w5 (⟨rfl,rfl,hA5,hg5⟩|⟨h0,rfl,rfl⟩)
  rotate_left
  ·have hd:=HD.out;rw[if_pos h0] at hd;have HF:=hid hd;clear hd;go_wp2_with fail;exact⟨rfl,tJ HF.out h0 hg4⟩
  have hd:=HD.out;rw[if_neg (fun k=>k rfl)] at hd;obtain⟨s1,s2,s3,s4⟩:=HSO.out rfl;obtain⟨p2,rfl⟩:∃p2:Nat,c2=(p2:Int):=⟨c2.toNat,by omega⟩;have hp2:p2<=70000018:=by omega
  have ho5:=Ow.kept ho4 hg5 (iL ho4 hbw);have hg5:=gbT hg4 hg5;have hsz5:=hg5.size;obtain⟨ac,cc,rfl,_,_,_⟩:=(OwI.rd ho5).open;have HS2:=hid s2;have HS1:=hid s1;have hA6:BRd (w5.setCell ⟨b,3,none⟩ (.slice ac c1.length cc)) b s p2 (.slice none 0 0) (.slice ac c1.length cc) (.int .i64 (C:Int)):=Arr.set hA5 3 _;have hg6:=gbT hg5 (gbS w5 b 3 (.slice ac c1.length cc));have ho6:OwI (w5.setCell ⟨b,3,none⟩ (.slice ac c1.length cc)) w.heap.size (.slice ac c1.length cc) c1:=Ow.kept ho5 (gbS w5 b 3 _) (iL ho5 hbw);have d3:=Arr.cell hA5 (i:=3) rfl;have f3:=Arr.free hA5 3
  have HTS:=hid (fun k=>DQ (s:=s.data.toList) (a:=(p2:Int)) (c:=(C:Int)) (by omega) k);have HTOK:=hid (DM s.data.toList (p2:Int) (C:Int) V1);have HERR:=hid (fun k (hk:k<=V1) (h:(bF s.data.toList (p2:Int) (C:Int) k).2.2≠0)=>show cV s.data.toList (a:Int) (C:Int)=([],0,(bF s.data.toList (p2:Int) (C:Int) k).2.2) by
   have:=DP h (V1-k);rw[show k+(V1-k)=V1 by omega] at this;rw[if_pos (by rw[this];exact h),this] at hd;exact hd)
  have HEND:=hid (fun(h:(bF s.data.toList (p2:Int) (C:Int) V1).2.2=0)=>by
   rw[if_neg (fun q=>q h)] at hd;exact hd)
  clear hd s1 s2 s3 s4 hA4 ho4 hg4 ho5;go_wp2_with fail;generalize w5.setCell ⟨b,3,none⟩ (.slice ac c1.length cc)=w6 at*
  clear d3 f3 hA5 hg5
  go_loopg [7,8,9,56] V1 (fun g _s7 _s8 _s9 s56 wr=>∃(k p:Nat) (v:Value) (xs:List Value),k<=V1/\g=V1-k/\s56=.int .i64 (k:Int)/\Hid ((bF s.data.toList (p2:Int) (C:Int) k).2.2=0/\(bF s.data.toList (p2:Int) (C:Int) k).2.1=(p:Int))/\Ow wr w.heap.size 57 v xs/\fE wr w.heap.size xs (bF s.data.toList (p2:Int) (C:Int) k).1/\xs.length=k/\BRd wr b s p v (.slice ac c1.length cc) (.int .i64 (C:Int))/\OwI wr w.heap.size (.slice ac c1.length cc) c1/\w.grownBy wr (some b))
  case atStart=>exact⟨0,p2,_,[],aU _,rfl,rfl,hid ⟨rfl,rfl⟩,Ow.nil _ _ _,fE.nil _ _,rfl,hA6,ho6,hg6⟩
  case round=>
   clear hA6 ho6 hg6;obtain⟨k,p,v,xs,hk,hg,rfl,HK,ho,hx,hxl,hA,hoc,hgr⟩:=hrel;have HG:=hid hg;clear hg;have hsz:=hgr.size;have hat:=HTS.out k HK.out.1;rw[HK.out.2,HL.out] at hat;have hpb:p<=80000000:=by omega
   by_cases hlt:k<V1
   ·have v1:decide ((k:Int)<(V1:Int))=true:=decide_eq_true (by omega);have hst:=KR HK.out.1;rw[HK.out.2] at hst;have hcall:=fun W=>aPq s p C W hs (by omega) hC1 hC2
    unfold wM at hcall;obtain⟨q1,q2,q3,hq⟩:∃q1 q2 q3,eJ s.data.toList (p:Int) (C:Int)=(q1,q2,q3):=⟨_,_,_,rfl⟩;rw[hq] at hst hcall;simp only at hst hcall;have HST:=hid hst;have d0:=Arr.cell hA (i:=0) rfl;have d1:=Arr.cell hA (i:=1) rfl;have d4:=Arr.cell hA (i:=4) rfl;clear hq hst;go_upto_region 9 with fail
    go_cut [7,8,9] (fun c7 c8 c9 wx=>(∃v,v=c7/\OwI wx wr.heap.size v q1)/\c8=.int .i64 q2/\c9=.int .i64 q3/\Below wr.heap.size wr wx)
    case first=>
     obtain⟨B3,hB3⟩:∃B3,B3=wr.heap.size:=⟨_,rfl⟩;have HB3:=hid hB3;have hcall:∀W,(W.cell? ⟨b,0,none⟩=some (.string s)/\W.cell? ⟨b,1,none⟩=some (.int .i64 (p:Int))/\W.cell? ⟨b,4,none⟩=some (.int .i64 (C:Int))/\Below B3 wr W/\B3<=W.heap.size)->Calls Tryz.prog 120 #[.string s,.int .i64 (p:Int),.int .i64 (C:Int)] W fun e w'=>∃v,e=.returned (.tuple #[v,.int .i64 q2,.int .i64 q3])/\OwI w' B3 v q1/\Below W.heap.size W w':=fun W h=>(hcall W).mono (fun e w' ⟨v,k1,k2,k3⟩=>⟨v,k1,OwI.base k2 h.2.2.2.2,k3⟩)
     have hS0:=kZ (B:=B3) (w0:=wr) ⟨d0,d1,d4,aB _ _,by omega⟩ (aB wr.heap.size wr).drew;clear hB3 d0 d1 d4
     go_region_held3 (fun w'=>w'.cell? ⟨b,0,none⟩=some (.string s)/\w'.cell? ⟨b,1,none⟩=some (.int .i64 (p:Int))/\w'.cell? ⟨b,4,none⟩=some (.int .i64 (C:Int))/\Below B3 wr w'/\B3<=w'.heap.size)
      (first
       |with_reducible assumption
       |with_reducible exact kZ (by assumption) (by assumption))
      (first
       |(go_at_call 120;refine(hcall _ (by assumption)).mono ?_;rintro e w7 ⟨v7,rfl,ho7,hb7⟩))
     have hS5:=(show w7.cell? ⟨b,0,none⟩=some (.string s)/\w7.cell? ⟨b,1,none⟩=some (.int .i64 (p:Int))/\w7.cell? ⟨b,4,none⟩=some (.int .i64 (C:Int))/\Below B3 wr w7/\B3<=w7.heap.size by assumption);go_wp2_with fail;go_meet;exact⟨⟨v7,rfl,by rw[<-HB3.out];exact ho7⟩,rfl,rfl,by rw[<-HB3.out];exact hS5.2.2.2.1⟩
    case rest=>
     obtain⟨⟨v7,rfl,ho7⟩,rfl,rfl,hb7⟩:=hcut;have hA:=Arr.below hA hb7 (Arr.lt hA);have ho7:=OwI.base ho7 hsz;have ho:=Ow.below ho hb7 (aA _);have hx:=hx.below hb7;have hoc:=OwI.below hoc hb7 (aA _);have hgr:=gbT hgr (gbB hb7);clear hcall d0 d1 d4 hb7;go_wp2_with fail;refine(ES b s p q2 q3 _ _ _ wc hA).mono ?_;rintro e w8 (⟨rfl,rfl,hA8,hg8⟩|⟨h0,rfl,rfl⟩)
     rotate_left
     ·have hst:=HST.out;rw[if_pos h0] at hst;have hE:=HERR.out (k+1) (by omega) (by rw[hst];exact h0);rw[hst] at hE;have HE:=hid hE;clear hst hE;go_wp2_with fail;exact⟨rfl,tJ HE.out h0 hgr⟩
     have hst:=HST.out;rw[if_neg (fun k=>k rfl)] at hst;have ho:=Ow.kept ho hg8 (iL ho hbw);have hx:=hx.map (fun x g k=>Ow.kept k hg8 (iL k hbw));have ho7:=Ow.kept ho7 hg8 (iL ho7 hbw);have hoc:=Ow.kept hoc hg8 (iL hoc hbw);have hgr:=gbT hgr hg8;have hsz:=hgr.size;clear hA hg8;go_wp2_with fail;refine(zS v7 q1 w8 (OwI.rd ho7)).mono ?_;rintro e w9 ⟨rfl,hb9⟩;have hA9:=Arr.below hA8 hb9 (Arr.lt hA8);have ho:=Ow.below ho hb9 (aA _);have hx:=hx.below hb9;have ho7:=OwI.below ho7 hb9 (aA _);have hoc:=OwI.below hoc hb9 (aA _);have hgr:=gbT hgr (gbB hb9)
     have hsz:=hgr.size;obtain⟨E,hE⟩:∃E,E=bL q1:=⟨_,rfl⟩;rw[<-hE] at hst ⊢;have HST2:=hid hst;clear hA8 hb9 hE hst;go_wp2_with fail;refine(vC E w9).mono ?_;rintro e w9' (⟨rfl,rfl,rfl⟩|⟨h0,rfl,rfl⟩)
     rotate_left
     ·have hst:=HST2.out;rw[if_pos h0] at hst;have hE:=HERR.out (k+1) (by omega) (by rw[hst];exact h0);rw[hst] at hE;have HE:=hid hE;clear hst hE;go_wp2_with fail;exact⟨rfl,tJ HE.out h0 hgr⟩
     have hst:=HST2.out;rw[if_neg (fun k=>k rfl)] at hst;have hat1:=HTS.out (k+1) (by rw[hst]);rw[hst] at hat1;have hat1:(p2:Int)<=q2:=hat1.1;obtain⟨pp,rfl⟩:∃pp:Nat,q2=(pp:Int):=⟨q2.toNat,by omega⟩;have HS:=hid hst;obtain⟨a3,c3,rfl,_,_,_⟩:=(OwI.rd ho7).open;obtain⟨av,cv,rfl,-⟩:=ho.rd;have hroom:(xs.length+1)*24<=140737488355328:=by omega
     have hxa:=hx.alloc (.cells #[.slice a3 q1.length c3] 57);have hoa:=Ow.alloc ho (.cells #[.slice a3 q1.length c3] 57);have ho7a:=OwI.alloc ho7 (.cells #[.slice a3 q1.length c3] 57);have hoca:=OwI.alloc hoc (.cells #[.slice a3 q1.length c3] 57);have hAa:=Arr.alloc hA9 (.cells #[.slice a3 q1.length c3] 57);have hga:=gbT hgr (gbB (g:=some b) (bD (aB _ w9') (.cells #[.slice a3 q1.length c3] 57)));have d2:=Arr.cell hA9 (i:=2) rfl;have HXL:=hid hxl;clear hst hx ho ho7 hoc hgr hxl
     go_wp2_with (at_builtin;refine rD wK rfl _ _ rfl w.heap.size _ xs rfl hoa w9'.heap.size (.slice a3 q1.length c3) rfl (bS _ _ _) rfl ?_ ?_ ?_;(exact hroom);(simp;omega);intro v5 w5' r1 r2 r3;obtain⟨a5,c5,rfl,-⟩:=r1.rd;have e2:=(Arr.below hAa r2 hbw).cell (i:=2) rfl;have f2:=(Arr.below hAa r2 hbw).free 2);rw[aL,List.length_singleton] at r1;have r3':(w9'.alloc (.cells #[.slice a3 q1.length c3] 57)).grownBy w5' (Value.slice av xs.length cv).ownBlock:=r3;have hg:=HG.out
     go_roundg (V1-(k+1))
     case measure=>omega
     case rel=>
      refine⟨k+1,pp,_,xs++[.slice a3 q1.length c3],by omega,rfl,by go_num,hid ⟨by rw[HS.out],by rw[HS.out]⟩,Ow.kept r1 (gbS w5' b 2 _) (iL r1 hbw),?_,by rw[aL,HXL.out];rfl,Arr.set (Arr.below hAa r2 hbw) 2 _,?_,gbT (gbK hga r2) (gbS w5' b 2 _)⟩
      ·rw[HS.out];exact((hxa.app hoa r3').snoc (Ow.kept ho7a r3' (qO ho7a hoa (by decide)))).map (fun x g k=>Ow.kept k (gbS w5' b 2 _) (iL k hbw))
      ·exact Ow.kept (Ow.kept hoca r3' (qO hoca hoa (by decide))) (gbS w5' b 2 _) (iL hoca hbw)
   ·have v1:decide ((k:Int)<(V1:Int))=false:=decide_eq_false (by omega);have hke:k=V1:=by omega
    subst hke;have hE:=HEND.out HK.out.1;rw[HK.out.2] at hE;obtain⟨t1,t2⟩:=HTOK.out HK.out.1;have HE:=hid hE;have HT1:=hid t1;have HT2:=hid t2;have HSS:=hid (HS2.out);clear hE t1 t2;go_wp2_with fail
    go_end0
    refine .inr ⟨rfl,p,v,_,_,c1,HE.out,hA,hgr,fun W hW=>?_,fun W hW=>OwI.rd (Ow.kept hoc hW (iL hoc hbw)),fun l hl=>(HT2.out l hl).1,fun x hx=>by rw[HT1.out];exact HSS.out x hx,by rw[HS1.out];exact hV0,by rw[HS1.out];omega,by rw[HT1.out];omega,hpb⟩;exact Ow.rdL (Ow.kept ho hW (iL ho hbw)) (hx.map (fun x g k=>Ow.kept k hW (iL k hbw))).ok
end
section
open Go.RowKit Go Go.Shelf
attribute [local go_sem] rB
theorem Bld.same {w w':World} {B b:Nat} {l:List UInt8} (h:Bld w B b l) (hk:∀k o,w.heap[k]? =some o->o.isCells=true->(k=b\/∃c fz,o=.cells c 5 fz)->w'.heap[k]? =some o):Bld w' B b l:=by
 have key:∀p,Lib.BuilderAtF 222 5 B b p (nS l) w->Lib.BuilderAtF 222 5 B b p (nS l) w':=by
  rintro p ⟨hB,v,hb,hown,hne⟩;refine⟨hB,v,hk b _ hb rfl (.inl rfl),⟨hown.1,?_⟩,hne⟩;rcases hown.2 with hn|⟨g,cap,cur,fz,e,hBg,hg,rest⟩
  ·exact .inl hn
  ·exact .inr ⟨g,cap,cur,fz,e,hBg,hk g _ hg rfl (.inr ⟨_,_,rfl⟩),rest⟩
 exact h.elim (fun x=>.inl (key _ x)) (fun x=>.inr (key _ x))
theorem Bld.kept {w w':World} {B b:Nat} {l:List UInt8} {row:Option Nat} (h:Bld w B b l) (hg:w.grownBy w' row) (hr:∀r,row=some r->∃o:Obj,w.heap[r]? =some o/\o.isCells=false):Bld w' B b l:=
 h.same fun k o hk hc _=>(hg.block k (Array.getElem?_eq_some_iff.1 hk).1 (fun e=>by
  obtain⟨o',ho',hn⟩:=hr k e.symm;rw[hk] at ho'
  injection ho' with ho'
  rw[ho',hn] at hc;exact absurd hc (by decide))).trans hk
end
end Go.Proofs.YtmcogmmncfihhaaGreatDoor
