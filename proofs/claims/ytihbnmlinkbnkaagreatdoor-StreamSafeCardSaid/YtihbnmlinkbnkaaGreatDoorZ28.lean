/-
  Texts put together (part 28): the walks and the plain laws on which the statement stands.
-/
import Derived.Test.YtihbnmlinkbnkaaGreatDoorZ22
set_option maxRecDepth 100000
set_option maxHeartbeats 12800000
set_option linter.unusedVariables false
set_option linter.unusedSimpArgs false
open Go.Proofs.Tryz
open Go.Proofs.Tryz renaming prog->pG
open Go renaming grownBy_putObj'->kV,run_takeDeferred->sE
open Go.Act renaming put->bJ
open Go.IntKind renaming u64->eZ,wrap_u64->fC
open Go.KeepsOthers renaming setCell->kJ
open Go.RowKit.Below renaming refl->aH
open List renaming length_cons->aU,length_nil->aV,map_append->dY,setIfInBounds_toArray->bK,set_cons_succ->bB,set_cons_zero->bH,size_toArray->dB,take_length->jS
open Nat renaming le_refl->aD,le_trans->aR,reduceAdd->cV,reduceSub->dC
namespace Go.Proofs.YtihbnmlinkbnkaaGreatDoor
open Go.RowKit Go Go.Shelf
attribute [local go_sem] Oper.semAt_some
theorem aIt:∀(l:List Int) (a:Int),a<=l.foldl max a/\(∀x∈l,x<=l.foldl max a)/\(l.foldl max a=a\/l.foldl max a∈l)
 |[],a=>⟨by simp,fun x d=>by simp at d,.inl rfl⟩
 |y::l,a=>by
  obtain⟨A,F,G⟩:=aIt l (max a y)
  grind
theorem aIu {l:List Int} (h:gM l):mQ l∈l/\∀x∈l,x<=mQ l:=by
 obtain⟨G,d,A⟩:=aIt l 0;refine⟨?_,d⟩;rcases A with q|q
 ·exfalso;have F:0<l.length:=by have:=h.1;omega
  have H:=h.2.2 _ (List.getElem_mem F)
  grind [gM,mQ]
 ·exact q
theorem bB5 {l:List Int} {n:Nat} (h:0<cL l n):((n:Nat):Int)∈l:=by grind [cL,List.countP_pos_iff]
theorem UT {l:List Int} {n:Nat} (h:((n:Nat):Int)∈l):0<cL l n:=by grind [cL]
def CT (l:List Int) (s:List UInt8) (a:Nat) (S:List Nat):Prop:=∀n∈S,aP s.length (a:Int) n=0/\∀i,i<l.length->bL l i=n->¬lA l s a i
theorem UU {l:List Int} {n k:Nat}:n∈lU l k↔n<k/\0<cL l n:=by simp[lU,cL]
theorem bB6 {l:List Int} {s:List UInt8} {a n:Nat} (d:bM l=0) (F:0<cL l n) (h:CT l s a (lU l n)) (G:aP s.length (a:Int) n≠0):aP s.length (a:Int) n=2/\dE l s (a:Int)=(0,0,2):=by
 have A:=gE d;have H:8*(s.length:Int)-(n:Int)<(a:Int):=by
  unfold aP at G;omega
 refine⟨by unfold aP;rw[aA (by omega),aB H],?_⟩;rw[zI d,aB]
 ·have:=(aIu A.1).2 _ (bB5 F);omega
 ·intro i hi I;have J:=lX A.1 hi
  by_cases L:bL l i<n
  ·grind [bL,UU,UT,bM,cL,CT,lU,aP,dE]
  ·have:=I.1;omega
theorem bB7 {l:List Int} {s:List UInt8} {a:Nat} (A:bM l=0) (h:CT l s a (lU l 21)):dE l s (a:Int)=(0,0,3):=by
 have F:=gE A;obtain⟨d,I⟩:=aIu F.1;have G:=F.1.2.2 _ d;rw[zI A,aA]
 ·obtain⟨M,H⟩:∃M:Nat,mQ l=(M:Int):=⟨(mQ l).toNat,by omega⟩;rw[H] at d G ⊢;have:=iG (h M (UU.2 ⟨by omega,UT d⟩)).1;omega
 grind [lX,bL,UU,UT,bM,CT,lU,dE]
theorem bB8 {l:List Int} {s:List UInt8} {a n k y:Nat} (d:bM l=0) (G:aP s.length (a:Int) n=0) (A:(qG l n l.length)[k]? =some y) (H:aK s (a:Int) n=gY l n+k):dE l s (a:Int)=((y:Int),(a:Int)+(n:Int),0):=by
 have I:=gE d;obtain⟨J,F,L⟩:=aB1 l n l.length (aD _) k y A;have M:bL l y=n:=by unfold bL;rw[F];rfl
 grind [zH,TI,gZ,bM,aP,qG,aK,gY,dE]
theorem bB9 (l:List Int) (s:List UInt8) (a:Nat):CT l s a []:=fun n d=>by simp at d
theorem bCa {l:List Int} {s:List UInt8} {a n:Nat} {S:List Nat} (d:gM l) (h:CT l s a S) (A:aP s.length (a:Int) n=0) (F:¬(gY l n<=aK s (a:Int) n/\aK s (a:Int) n<gY l n+cL l n)):CT l s a (S++[n]):=by grind [TI,KL,gM,CT,aP,gY,aK,cL]
theorem bCb (w:World) (t1 A G I L:TypeId) (d F H J M:Value):∀W,W=((((w.alloc (.cells #[d] t1)).alloc (.cells #[F] A)).alloc (.cells #[H] G)).alloc (.cells #[J] I)).alloc (.cells #[M] L)->
  (Arr W w.heap.size t1 [d]/\Arr W (w.heap.size+1) A [F]/\Arr W (w.heap.size+2) G [H]/\Arr W (w.heap.size+3) I [J]/\Arr W (w.heap.size+4) L [M])/\Below w.heap.size w W/\W.heap.size=w.heap.size+5:=by
 rintro W rfl;have a1:=Arr.new w t1 [d];have O:=Arr.new (w.alloc (.cells #[d] t1)) A [F];have U:=Arr.new ((w.alloc (.cells #[d] t1)).alloc (.cells #[F] A)) G [H];have V:=Arr.new (((w.alloc (.cells #[d] t1)).alloc (.cells #[F] A)).alloc (.cells #[H] G)) I [J];have Z:=Arr.new ((((w.alloc (.cells #[d] t1)).alloc (.cells #[F] A)).alloc (.cells #[H] G)).alloc (.cells #[J] I)) L [M];have e:∀(W:World) (o:Obj),(W.alloc o).heap.size=W.heap.size+1:=fun W o=>by simp
 rw[e] at O;rw[e,e] at U;rw[e,e,e] at V;rw[e,e,e,e] at Z;refine⟨⟨(((a1.alloc _).alloc _).alloc _).alloc _,((O.alloc _).alloc _).alloc _,(U.alloc _).alloc _,V.alloc _,Z⟩,?_,by simp⟩;exact(((((aH _ w).alloc (aD _) _).alloc (by simp) _).alloc (by simp;omega) _).alloc (by simp;omega) _).alloc (by simp;omega) _
theorem UV {W w:World} {z:Nat} {t1 G H:TypeId} {I J L:Value} (M:Arr W (z+1+1) t1 [I]) (O:Arr W (z+1+1+1) G [J]) (U:Arr W (z+1+1+1+1) H [L]) (V:Below z w W) (d A F:Value):
  Arr (((W.setCell ⟨z+1+1,0,none⟩ d).setCell ⟨z+1+1+1,0,none⟩ A).setCell ⟨z+1+1+1+1,0,none⟩ F) (z+1+1) t1 [d]/\
  Arr (((W.setCell ⟨z+1+1,0,none⟩ d).setCell ⟨z+1+1+1,0,none⟩ A).setCell ⟨z+1+1+1+1,0,none⟩ F) (z+1+1+1) G [A]/\
  Arr (((W.setCell ⟨z+1+1,0,none⟩ d).setCell ⟨z+1+1+1,0,none⟩ A).setCell ⟨z+1+1+1+1,0,none⟩ F) (z+1+1+1+1) H [F]/\
  Below z w (((W.setCell ⟨z+1+1,0,none⟩ d).setCell ⟨z+1+1+1,0,none⟩ A).setCell ⟨z+1+1+1+1,0,none⟩ F):=
 ⟨((M.set 0 d).other _ (by simp) A).other _ (by grind) F,((O.other _ (by simp) d).set 0 A).other _ (by simp) F,((U.other _ (by simp) d).other _ (by simp) A).set 0 F,
  ((V.setCell (p:=⟨z+1+1,0,none⟩) (by grind) _).setCell (p:=⟨z+1+1+1,0,none⟩) (by grind) _).setCell (p:=⟨z+1+1+1+1,0,none⟩) (by grind) _⟩
theorem bCc (n:Nat) (hn:3<=n) (v:Value) (l:List Int) (s:ByteArray) (a:Nat) (w:World) (hr:RdI w v l) (hE:bM l=0) (hs:s.size<=1000000) (ha:a<=100000000):
  CallsIn Fence.wide n pG 179 #[v,.string s,.int .i64 (a:Int)] w fun e w'=>e=.returned (.tuple #[.int .i64 (dE l s.data.toList (a:Int)).1,.int .i64 (dE l s.data.toList (a:Int)).2.1,.int .i64 (dE l s.data.toList (a:Int)).2.2])/\Below w.heap.size w w':=by
 have h1:1<=n:=by omega
 obtain⟨ad,M,rfl,i4,d9,hA⟩:=hr.open;unfold maxLen at d9;have a5:=gE hE;have HO:=hid a5.1;have e0:=hid (fun k (hk:k<=20)=>LY (i:=0) a5.1 a5.2 hk);have e1:=a5.1.2.1;have i5:=a5.1.1;have HE:=hid hE;have HL:=hid (show s.data.toList.length=s.size by simp);obtain⟨I,J,rfl,b9,c0⟩:=hA (by omega);have e2:=hid c0;refine callsIn_of_wp_marks func179 rfl trivial ?_ rfl;simp only[ntmps179,dB,aU,aV,cV,dC,Array.replicate_succ,Array.replicate_zero,List.push_toArray,List.append_toArray,List.nil_append,List.cons_append]
 clear c0 hA a5
 gi_wp2_with fail
 obtain⟨⟨Z,g5,H,d,G⟩,b3,e3⟩:=bCb w 9 3 3 3 29 (.string s) (.int .i64 (a:Int)) (.int .i64 0) (.int .i64 0) (.int .i64 0) _ rfl;generalize ((((w.alloc (.cells #[.string s] 9)).alloc (.cells #[.int .i64 (a:Int)] 3)).alloc (.cells #[.int .i64 0] 3)).alloc (.cells #[.int .i64 0] 3)).alloc (.cells #[.int .i64 0] 29)=w0 at*
 refine⟨trivial,(callsIn_wide.2 (FK _ l _ (hr.below b3))).mono ?_⟩;rintro e w1 ⟨rfl,a3⟩;rw[hE];obtain⟨z,hz⟩:∃z,z=w.heap.size:=⟨_,rfl⟩;have e9:=a3.size;have Z:=Z.below a3 (by omega);have g5:=g5.below a3 (by omega);have H:=H.below a3 (by omega);have d:=d.below a3 (by omega);have G:=G.below a3 (by omega);have c1:Below w.heap.size w w1:=b3.trans (a3.mono (by omega));clear b3 a3 hr hE
 gi_wp2_with fail
 refine⟨trivial,(aIb (n-1) I J l.length M _).mono ?_⟩;rintro e w' ⟨rfl,rfl⟩;have g9:=Arr.new w1 26 [.slice (some ⟨I,J,none⟩) l.length M];have Z:=Z.alloc (.cells #[.slice (some ⟨I,J,none⟩) l.length M] 26);have g5:=g5.alloc (.cells #[.slice (some ⟨I,J,none⟩) l.length M] 26);have H:=H.alloc (.cells #[.slice (some ⟨I,J,none⟩) l.length M] 26);have d:=d.alloc (.cells #[.slice (some ⟨I,J,none⟩) l.length M] 26);have G:=G.alloc (.cells #[.slice (some ⟨I,J,none⟩) l.length M] 26);have b4:=c1.alloc (o:=.cells #[.slice (some ⟨I,J,none⟩) l.length M] 26) (by omega)
 have f0:(w1.alloc (.cells #[.slice (some ⟨I,J,none⟩) l.length M] 26)).heap.size=w1.heap.size+1:=by simp
 have f1:∀i x,l[i]? =some x->(w1.alloc (.cells #[.slice (some ⟨I,J,none⟩) l.length M] 26)).cell? ⟨I,J+i,none⟩=some (.int .i64 x):=fun i x hi=>(b4.cell (p:=⟨I,J+i,none⟩) b9).trans (e2.out i x hi)
 obtain⟨Bs,c2⟩:∃Bs,Bs=w1.heap.size:=⟨_,rfl⟩
 gi_wp2_with fail
 change Arr (w1.alloc (.cells #[.slice (some ⟨I,J,none⟩) l.length M] 26)) _ _ _ at g9;generalize w1.alloc (.cells #[.slice (some ⟨I,J,none⟩) l.length M] 26)=w3 at*
 rw[<-c2] at g9 f0 e9 ⊢;rw[<-hz] at Z g5 H d G e3 b4 b9 ⊢;have HZ:=hid hz;clear c2 hz c1;refine aG7 (w0:=w3) (Kp:=bW (some (z+1+1))) (Pre:=CS l) (encs:=yB l) h1 (gf:=248) (lb:=#[.pointer (some ⟨Bs,0,none⟩)]) rfl (enters_of func248 (by kernel_rfl) rfl)
  (aIc (n-1) (by omega) Bs (z+1+1) I J M l HE.out w3 g9 f1 (by omega) (by omega) (by omega) (by omega)) (aH _ _) (fun _=>rfl)
  (fun h k=>h.trans k) (fun _ _ h=>h.some _) aId
  (fun pre W=>(Hid (CT l s.data.toList a (pre.map (·.1)))/\Arr W z 9 [.string s]/\Arr W (z+1) 3 [.int .i64 (a:Int)]/\Arr W (z+1+1) 3 [.int .i64 0]/\Arr W (z+1+1+1) 3 [.int .i64 0]/\Arr W (z+1+1+1+1) 29 [.int .i64 0])/\Below z w W)
  (fun c _ W=>(c=.ret/\∃r1 r2 r3,Hid (dE l s.data.toList (a:Int)=(r1,r2,r3))/\Arr W (z+1+1) 3 [.int .i64 r1]/\Arr W (z+1+1+1) 3 [.int .i64 r2]/\Arr W (z+1+1+1+1) 29 [.int .i64 r3])/\Below z w W)
  (fun pre A B ⟨⟨h,k1,k2,k3,k4,k5⟩,k6⟩ a0=>⟨⟨h,k1.below a0 (by omega),k2.below a0 (by omega),k3.below a0 (by omega),k4.below a0 (by omega),k5.below a0 (by omega)⟩,k6.trans (a0.mono (by omega))⟩)
  (fun c pre A B ⟨⟨h,r1,r2,r3,h',k1,k2,k3⟩,k6⟩ a0=>⟨⟨h,r1,r2,r3,h',k1.below a0 (by omega),k2.below a0 (by omega),k3.below a0 (by omega)⟩,k6.trans (a0.mono (by omega))⟩)
  ⟨⟨hid (bB9 _ _ _),Z,g5,H,d,G⟩,b4⟩
  (fun x a' W=>∃sb,w3.heap.size<=sb/\Arr W sb 268 [.int .i64 (x.1:Int),.int .u64 (gY l x.1:Int),x.2]/\a'={tmps:=#[.slice (some ⟨I,J,none⟩) l.length M,.string s,.int .i64 (a:Int),undef,.pointer (some ⟨z,0,none⟩),.pointer (some ⟨z+1,0,none⟩),.pointer (some ⟨z+1+1,0,none⟩),.pointer (some ⟨z+1+1+1,0,none⟩),.pointer (some ⟨z+1+1+1+1,0,none⟩),.int .i64 0,.pointer (some ⟨sb,0,none⟩),undef,undef,.slice (some ⟨I,J,none⟩) l.length M,.int .i64 0,.int .i64 0,.bool false,undef,.slice (some ⟨I,J,none⟩) l.length M,.func (.func 248) #[] #[.pointer (some ⟨Bs,0,none⟩)],.agg #[.int .i64 (x.1:Int),.int .u64 (gY l x.1:Int),x.2],undef,undef,undef,undef,undef,undef,undef,undef,undef,undef,undef,undef,undef,undef,undef,undef,undef,undef,undef,undef,undef,undef,undef,undef,undef,undef,undef,undef,undef,undef],defers:=[]})
  (fun x a' A A' ⟨sb,k1,k2,k3⟩ hk=>⟨sb,k1,hk.arr k2 (by simp),k3⟩) ?assign ?body ?done ?stop
 case assign=>
  rintro l0 B pre ⟨m,u⟩ W K hI hB f2 f3 O;obtain⟨a',b5,a7,_,_,_⟩:=(OwI.rd f3.2.2.2.2).open;dsimp only at a7;subst a7;unfold yB
  gi_wp2
  exact O _ _ (bD (aH _ _) _) ⟨W.heap.size,by omega,Arr.new W _ [_,_,_],rfl⟩
 case body=>
  rintro l0 B pre ⟨m,u⟩ a' W ⟨⟨a9,Z,g5,H,d,G⟩,a4⟩ hB f2 ⟨_,⟨f4,b6⟩,c3,b7,ho⟩ ⟨sb,i6,hS,rfl⟩;dsimp only at f4 b6 c3 b7 ho hS ⊢;obtain⟨C,hC⟩:∃C,C=cL l m:=⟨_,rfl⟩;have c4:(pA l m l.length).length=C:=by rw[MU l m _ (aD _),jS,hC]
  have c5:(qG l m l.length).length=C:=by rw[KN l m _ (aD _),jS,hC]
  have i7:C<=258:=by rw[hC];unfold cL;exact aR List.countP_le_length e1
  have f5:gY l m<=1048576:=by
   have:=e0.out m b6;unfold lS at this;omega
  obtain⟨a',b5,a7,h4,h5,h6⟩:=(OwI.rd ho).open;rw[c4] at a7 h4 h6;obtain⟨bu,ou,rfl,i8,c6⟩:=h6 (by omega);subst a7;have a2:=bB6 (s:=s.data.toList) (a:=a) HE.out (by omega:0<cL l m);rw[<-b7] at a2;have a2:=a2 a9.out;have a1:=fun k y=>bB8 (s:=s.data.toList) (a:=a) (n:=m) (k:=k) (y:=y) HE.out
  have U:=bCa (s:=s.data.toList) (a:=a) (n:=m) HO.out a9.out;rw[HL.out] at a2 a1 U;have a6:=fun W=>uQ s (a:Int) m W hs (by omega) (by omega) (by omega)
  have c7:=jV s.data.toList (a:Int) m;have f9:aK s.data.toList (a:Int) m<1048576:=Nat.lt_of_lt_of_le c7 (aR (Nat.pow_le_pow_right (by decide) b6) (by decide));obtain⟨E,c8⟩:∃E,E=aP s.size (a:Int) m:=⟨_,rfl⟩;obtain⟨V,hV⟩:∃V,V=aK s.data.toList (a:Int) m:=⟨_,rfl⟩;obtain⟨F,hF⟩:∃F,F=gY l m:=⟨_,rfl⟩;rw[<-hF] at hS f5 U;rw[<-hF] at a1;rw[<-hC] at U;rw[<-c8] at a2 a1 U a6;rw[<-hV] at a1 U a6 f9;have d0:=hS.cell (i:=0) rfl;have d1:=hS.cell (i:=1) rfl;have d2:=hS.cell (i:=2) rfl;have e4:=Z.cell (i:=0) rfl;have e5:=g5.cell (i:=0) rfl;have e6:=H.cell (i:=0) rfl
  have e7:=d.cell (i:=0) rfl;have e8:=G.cell (i:=0) rfl;have f6:=H.free 0;have f7:=d.free 0;have f8:=G.free 0;have b0:=hid (UV H d G a4);have g0:=hid c5;have g1:=hid c6;have g2:=hid ho;clear c7 hV c8 hF hC c4 c5 c6 c3 b7 ho
  by_cases c9:E=0
  ·subst c9;have a1:=fun k y=>a1 k y rfl
   have U:=U rfl;have m1:eZ.wrap (C:Int)=(C:Int):=by rw[fC];omega
   have m2:(C:Int)%18446744073709551616=(C:Int):=by omega
   by_cases b2:F<=V/\V<F+C
   ·obtain⟨D,hD⟩:∃D,D=V-F:=⟨_,rfl⟩;have g3:D<C:=by omega
    obtain⟨y,hy⟩:∃y,(qG l m l.length)[D]? =some y:=⟨_,List.getElem?_eq_getElem (by rw[g0.out];exact g3)⟩;have a8:=hid (a1 D y hy (by omega));have cu:W.cell? ⟨bu,ou+D,none⟩=some (.int .i64 (y:Int)):=g1.out D _ (by unfold pA;rw[List.getElem?_map,hy];rfl);have m3:eZ.wrap ((V:Int)-(F:Int))=(D:Int):=by rw[fC];omega
    have m4:(V:Int)-(F:Int)=(D:Int):=by omega
    have m5:eZ.wrap (D:Int)=(D:Int):=by rw[fC];omega
    have m6:IntKind.i64.wrap ((a:Int)+(m:Int))=(a:Int)+(m:Int):=by rw[IntKind.wrap_i64];omega
    have t1:decide ((D:Int)<(C:Int))=true:=aG (by omega);have q1:(D:Int)<(C:Int):=by omega
    clear a2 a1 U b2 hD hy
    gi_wp2_with fail
    refine⟨trivial,fun _=>by omega,((callsIn_wide.2 (a6 _)).inRound l0).mono ?_⟩;rintro e L ⟨rfl,rfl⟩
    gi_wp2_with fail
    refine aG9 (by omega) (fun w'=>w'.cell? ⟨sb,0,none⟩=some (.int .i64 (m:Int))/\w'.cell? ⟨sb,2,none⟩=some (.slice (some ⟨bu,ou,none⟩) C b5)/\w'.cell? ⟨bu,ou+D,none⟩=some (.int .i64 (y:Int))/\w'.cell? ⟨z+1,0,none⟩=some (.int .i64 (a:Int))) (by kernel_rfl) (fun⟨_,_,h⟩=>(h:False).elim) (by kernel_rfl) ?_;have d3:L.drew.cell? ⟨sb,0,none⟩=some (.int .i64 (m:Int))/\L.drew.cell? ⟨sb,2,none⟩=some (.slice (some ⟨bu,ou,none⟩) C b5)/\L.drew.cell? ⟨bu,ou+D,none⟩=some (.int .i64 (y:Int))/\L.drew.cell? ⟨z+1,0,none⟩=some (.int .i64 (a:Int)):=⟨d0,d2,cu,e5⟩
    iterate 9
     refine fV 0 0 (by simp only[dB,aU,aV,cV,dC]<;>rfl) (by simp only[List.getElem?_toArray,List.getElem?_cons_succ,List.getElem?_cons_zero];rfl) (by kernel_rfl) (by exact fun _ _ _ h=>h) (by first|exact Or.inr ⟨by rfl,rfl⟩|(refine Or.inl ⟨by rfl,?_⟩;intro w' i0;(try dsimp only at i0);(try go_simp);try with_reducible rfl)) (by assumption) ?_
     try simp only[bJ,bK,bH,bB]
    have i9:w3.heap.size<=bu:=by have:=(Ow.lt g2.out bu rfl).1;omega
    have j0:L.drew.cell? ⟨z+1+1,0,none⟩=some (.int .i64 0):=e6;have j1:L.drew.frozen? ⟨z+1+1,0,none⟩=false:=f6;have G7:Arr (L.drew.setCell ⟨z+1+1,0,none⟩ (.int .i64 (y:Int))) (z+1+1+1) 3 [.int .i64 0]:=Arr.other (w:=L.drew) d _ (by show _≠_;simp only[ne_eq];omega) _;have j2:=G7.cell (i:=0) rfl;have j3:=G7.free 0;have G8:Arr ((L.drew.setCell ⟨z+1+1,0,none⟩ (.int .i64 (y:Int))).setCell ⟨z+1+1+1,0,none⟩ (.int .i64 ((a:Int)+(m:Int)))) (z+1+1+1+1) 29 [.int .i64 0]:=(Arr.other (w:=L.drew) G _ (by show _≠_;simp only[ne_eq];omega) _).other _ (by show _≠_;simp only[ne_eq];omega) _
    have j4:=G8.cell (i:=0) rfl;have j5:=G8.free 0;have d4:=FQ d3 (q:=⟨z+1+1,0,none⟩) (nA (by omega)) (nA (by omega)) (nA (by omega)) (nA (by omega)) (.int .i64 (y:Int));have i1:=FQ d4 (q:=⟨z+1+1+1,0,none⟩) (nA (by omega)) (nA (by omega)) (nA (by omega)) (nA (by omega)) (.int .i64 ((a:Int)+(m:Int)));refine dJ (i:=9) (by kernel_rfl) rfl (fun K O=>?_);go_simp;refine O.out _ _ ?_ (fun _=>?_)
    ·exact FQ d3 (nA (by omega)) (nA (by omega)) (nA (by omega)) (nA (by omega)) _
    try simp only[bJ,bK,bH,bB]
    refine dJ (i:=10) (by kernel_rfl) rfl (fun K O=>?_);go_simp;refine O.out _ _ ?_ (fun _=>?_)
    ·exact FQ d4 (nA (by omega)) (nA (by omega)) (nA (by omega)) (nA (by omega)) _
    try simp only[bJ,bK,bH,bB]
    refine dJ (i:=11) (by kernel_rfl) rfl (fun K O=>?_);go_simp;refine O.out _ _ ?_ (fun _=>?_)
    ·exact FQ i1 (nA (by omega)) (nA (by omega)) (nA (by omega)) (nA (by omega)) _
    try simp only[bJ,bK,bH,bB]
    refine wpAnyH_done (by kernel_rfl) ?_ _;obtain⟨s1,s2,s3,s4⟩:=UV (W:=L.drew) (w:=w) H d G a4.drew (.int .i64 (y:Int)) (.int .i64 ((a:Int)+(m:Int))) (.int .i64 0)
    gi_wp2_with fail
    exact⟨((KeepsOthers.drew L).trans (((kJ L.drew _ _).trans (kJ _ _ _)).trans (kJ _ _ _))).from _,⟨rfl,_,_,_,a8,s1,s2,s3⟩,s4⟩
   ·have b8:=U b2;have d5:=hid b8
    by_cases j6:F<=V
    ·obtain⟨D,hD⟩:∃D,D=V-F:=⟨_,rfl⟩;have m3:eZ.wrap ((V:Int)-(F:Int))=(D:Int):=by rw[fC];omega
     have m4:(V:Int)-(F:Int)=(D:Int):=by omega
     have m5:eZ.wrap (D:Int)=(D:Int):=by rw[fC];omega
     have t1:decide ((D:Int)<(C:Int))=false:=aE (by omega);have t2:decide (D<C)=false:=aE (by omega);clear a2 a1 U b8 b2 hD
     gi_wp2_with fail
     refine⟨trivial,fun _=>by omega,((callsIn_wide.2 (a6 _)).inRound l0).mono ?_⟩;rintro e L ⟨rfl,rfl⟩
     gi_wp2_with fail
     exact⟨KeepsFrom.refl _ _,bW.refl _ _,⟨by rw[dY];exact d5,Z,g5,H,d,G⟩,a4⟩
    ·obtain⟨D,hD⟩:∃D,D=V+18446744073709551616-F:=⟨_,rfl⟩;have m3:eZ.wrap ((V:Int)-(F:Int))=(D:Int):=by rw[fC];omega
     have j7:((V:Int)-(F:Int))%18446744073709551616=(D:Int):=by omega
     have t1:decide ((D:Int)<(C:Int))=false:=aE (by omega);have t2:decide (D<C)=false:=aE (by omega);clear a2 a1 U b8 b2 hD
     gi_wp2_with fail
     refine⟨trivial,fun _=>by omega,((callsIn_wide.2 (a6 _)).inRound l0).mono ?_⟩;rintro e L ⟨rfl,rfl⟩
     gi_wp2_with fail
     exact⟨KeepsFrom.refl _ _,bW.refl _ _,⟨by rw[dY];exact d5,Z,g5,H,d,G⟩,a4⟩
  ·obtain⟨i2,d6⟩:=a2 c9;subst i2;have a8:=hid d6;clear a2 a1 U d6
   gi_wp2_with fail
   refine⟨trivial,fun _=>by omega,((callsIn_wide.2 (a6 _)).inRound l0).mono ?_⟩;rintro e L ⟨rfl,rfl⟩
   gi_wp2_with fail
   exact⟨(((kJ L _ _).trans (kJ _ _ _)).trans (kJ _ _ _)).from _,⟨rfl,0,0,2,a8,(b0.out _ _ _).1,(b0.out _ _ _).2.1,(b0.out _ _ _).2.2.1⟩,(b0.out _ _ _).2.2.2⟩
 case done=>
  rintro D xs W hD i3 ⟨⟨a9,Z,g5,H,d,G⟩,a4⟩ O;have d7:=a9.out;rw[i3] at d7;have a8:=hid (bB7 HE.out d7);have e6:=H.cell (i:=0) rfl;have e7:=d.cell (i:=0) rfl;have e8:=G.cell (i:=0) rfl;have f6:=H.free 0;have f7:=d.free 0;have f8:=G.free 0
  gi_wp2_with fail
  obtain⟨q6,q7,q8,q9⟩:=UV H d G a4 (.int .i64 0) (.int .i64 0) (.int .i64 3);have d8:=((((kJ W ⟨z+1+1,0,none⟩ (.int .i64 0)).trans (kJ _ ⟨z+1+1+1,0,none⟩ (.int .i64 0))).trans (kJ _ ⟨z+1+1+1+1,0,none⟩ (.int .i64 3))).same D _ O rfl);refine⟨by simp,.inl ⟨_,_,rfl,sE d8,?_⟩⟩;have q6:=(q6.grown (kV _ D (.deferred none)) (by simp;omega)).cell (i:=0) rfl;have q7:=(q7.grown (kV _ D (.deferred none)) (by simp;omega)).cell (i:=0) rfl
  have q8:=(q8.grown (kV _ D (.deferred none)) (by simp;omega)).cell (i:=0) rfl;refine⟨.tuple #[.int .i64 0,.int .i64 0,.int .i64 3],?_,by rw[a8.out],?_⟩
  ·simp[results,f179,go_sem,q6,q7,q8]
  ·rw[<-HZ.out];exact q9.trans (belowK_b (w:=w3) (by omega) _ D _ _ hD d8 rfl rfl)
 case stop=>
  rintro D c pre W hD ⟨⟨rfl,r1,r2,r3,HR,H,d,G⟩,a4⟩ O
  gi_wp2_with fail
  refine⟨by simp,.inl ⟨_,_,rfl,sE O,?_⟩⟩;have q6:=(H.grown (kV _ D (.deferred none)) (by simp;omega)).cell (i:=0) rfl;have q7:=(d.grown (kV _ D (.deferred none)) (by simp;omega)).cell (i:=0) rfl;have q8:=(G.grown (kV _ D (.deferred none)) (by simp;omega)).cell (i:=0) rfl;refine⟨.tuple #[.int .i64 r1,.int .i64 r2,.int .i64 r3],?_,by rw[HR.out],?_⟩
  ·simp[results,f179,go_sem,q6,q7,q8]
  ·rw[<-HZ.out];exact a4.trans (belowK_b (w:=w3) (by omega) _ D _ _ hD O rfl rfl)
theorem bCd (v:Value) (l:List Int) (s:ByteArray) (a:Nat) (w:World) (d:RdI w v l) (A:bM l=0) (F:s.size<=1000000) (G:a<=100000000):
  Calls pG 179 #[v,.string s,.int .i64 (a:Int)] w fun e w'=>e=.returned (.tuple #[.int .i64 (dE l s.data.toList (a:Int)).1,.int .i64 (dE l s.data.toList (a:Int)).2.1,.int .i64 (dE l s.data.toList (a:Int)).2.2])/\Below w.heap.size w w':=
 callsIn_wide.1 (bCc 3 (aD _) v l s a w d A F G)
end Go.Proofs.YtihbnmlinkbnkaaGreatDoor
