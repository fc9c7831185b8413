/-
  Texts put together (part 23): the walks and the plain laws on which the statement stands.
-/
import Derived.Deep.RegionLawGrows
import Derived.Lib.SliceRun
import Derived.Sort.BigQuietIn
import Derived.Sort.LoopGhostIn
import Derived.Sort.QuietIn
import Derived.Sort.CutIn
import Derived.Test.YtfplbbphficcjaaGreatDoorZ16
import Derived.Test.YtfplbbphficcjaaGreatDoorZ18
import Derived.Test.YtfplbbphficcjaaGreatDoorZ19
set_option maxRecDepth 100000
set_option maxHeartbeats 12800000
set_option linter.unusedVariables false
set_option linter.unusedSimpArgs false
open Go.Proofs.Tryz
open Go.Proofs.Tryz renaming prog->pG
open Array renaming getElem?_eq_some_iff->fE
open Go renaming callsD_of_wpS->OT,heap_setCell_other->kF
open Go.Act renaming put->bJ
open Go.Instr renaming typeAssert->tZ
open Go.IntKind renaming i64->aJ,wrap_i64->aM
open Go.Oper renaming wp->nC
open Go.Region renaming wanted->qL
open Go.RowKit.Below renaming refl->aH
open Go.Value renaming slice->mM
open Go.World renaming cell?_setCell_other->lI,size_alloc->fP
open Int renaming toNat_natCast->fL
open List renaming getD_eq_getElem?_getD->bV,getElem?_append_left->nE,getElem?_eq_getElem->aN,getElem?_map->eQ,length_append->aL,length_map->aS,map_append->dY,setIfInBounds_toArray->bK,set_cons_succ->bB,set_cons_zero->bH
open Nat renaming le_of_lt->nG,le_refl->aD,le_succ->tJ,le_trans->aR,lt_succ_self->vK,zero_le->aO
open Option.some renaming inj->cC,injEq->lJ
namespace Go.Proofs.YtfplbbphficcjaaGreatDoor
section
open Go.RowKit Go Go.Shelf
def BX (A:List UInt8):List Int:=A.map (fun b=>(b.toNat:Int))
theorem aFp (A:List UInt8) (i:Nat):MC (BX A) i=BX (gC A i):=by simp[MC,gC,BX]
theorem aXu (A:List UInt8) (i:Nat):(BX A).getD i 0=((A.getD i 0).toNat:Int):=by
 unfold BX;rw[bV,eQ,bV]
 cases A[i]? <;>rfl
theorem aFq:BX (cT 6)=aFe:=rfl
theorem xX (A:List UInt8):(BX A).length=A.length:=aS ..
theorem MH:∀(l:List Int) (A:List UInt8),(∀x∈l,0<=x/\x<(A.length:Int))->(unA A l).length=A.length
 |[],_,_=>rfl
 |x::l,A,h=>by
  have d:=h x (List.mem_cons_self ..);show(unA (gC A x.toNat) l).length=_;rw[MH l _ (fun y e=>by grind [BF,unA]),BF]
theorem aXv (s:ByteArray) (a n t:Nat) (w:World) (hs:s.size<=1000000) (ha:a<=80000000) (hn:n<=40000) (a3:2<=t) (T:t<=6):
  Calls pG 148 #[.string s,.int .i64 (a:Int),.int .i64 (n:Int),.int .i64 (t:Int)] w fun e w'=>FJ w w' s.data.toList a n t e:=by
 have HL:=hid (show s.data.toList.length=s.size by simp);have t4:decide ((a:Int)<0)=false:=aE (by omega);have t5:decide ((n:Int)<0)=false:=aE (by omega);have t6:decide ((n:Int)>1048576)=false:=aE (by omega);have t7:decide (1048576<(n:Int))=false:=aE (by omega);have b3:=hid (fun k U=>aE9 (s:=s.data.toList) (a:=a) (n:=n) (k:=k) a3 T (by omega) U);have b5:=hid (MB s.data.toList a n t a3 T (by omega));have a4:=hid (fun k=>BV s.data.toList (t:Int) (a:Int) (by omega) (by omega) k);go_enter func148,ntmps148;go_wp2_with fail;refine(aFd t _ a3 T).mono ?_
 rintro e w0 ⟨rfl,rfl⟩;go_wp2_with fail;refine(aFf (t:Int) _).mono ?_;rintro e w1 ⟨rfl,V,a5,a6⟩;obtain⟨z,hz⟩:∃z,z=w0.heap.size:=⟨_,rfl⟩;rw[<-hz] at V a5 a6 ⊢;have Y:=hid hz;clear hz;rw[<-aFq] at V;go_wp2_with fail
 go_loopg [1,8,12,13,14,33] n (fun g s1 s8 _s12 _s13 _s14 b6 wr=>∃(k p:Nat) (v:Value) (L:List Int),k<=n/\g=n-k/\v=s8/\b6=.int .i64 (k:Int)/\s1=.int .i64 (p:Int)/\p<=80000000/\Hid (dR s.data.toList (t:Int) (a:Int) k=(L,(p:Int),0))/\OwI wr (z+1) v (BX (unL (cT 6) L))/\Arr wr z 249 (lT (BX (unA (cT 6) L)) (t:Int))/\Below z w0 wr/\z<wr.heap.size)
 case atStart=>exact⟨0,a,_,[],aO _,rfl,rfl,rfl,rfl,ha,hid rfl,OwI.nil _ _,V,a5,a6⟩
 case round=>
  clear V a5 a6;obtain⟨k,p,v,L,U,D,rfl,rfl,rfl,hp,h,Z,hA,a0,c4⟩:=hrel;have HG:=hid D;clear D
  by_cases c5:k<n
  ·have v1:decide ((k:Int)<(n:Int))=true:=aG (by omega);have d:=aE7 (s:=s.data.toList) (t:=(t:Int)) (a:=(a:Int)) (k:=k) (by rw[h.out]);rw[h.out] at d;simp only at d;have F:=a4.out k (by rw[h.out]);rw[h.out] at F;obtain⟨o1,o2,o3,o4⟩:=F;simp only at o1 o2 o3 o4;have a7:=hid o2;obtain⟨R,hR⟩:∃R,R=kN s.data.toList (t:Int) (p:Int) 0:=⟨_,rfl⟩;have a8:=KY s.data.toList (t:Int) (8*s.data.toList.length+2) (p:Int) 0 (by omega) (by omega) (by omega);rw[show lY s.data.toList (t:Int) (8*s.data.toList.length+2) (p:Int) 0=R from hR.symm,HL.out] at a8;rw[<-hR] at d;have J:=hid d
   have c6:=hid a8;have HR:=hid hR.symm;clear d a8 hR o1 o2 o3 o4;go_wp2_with fail
   go_loopg [1,8,12,13,14] (8*s.size+2-p) (fun g s1 s8 b7 _s13 _s14 wx=>∃q m:Nat,q<=80000000+m/\m<t/\g=8*s.size+2-q/\v=s8/\s1=.int .i64 (q:Int)/\b7=.int .i64 (m:Int)/\Hid (kN s.data.toList (t:Int) (q:Int) (m:Int)=R)/\wx=wr)
   case atStart=>exact⟨p,0,by omega,by omega,rfl,rfl,rfl,rfl,HR,rfl⟩
   case round=>
    obtain⟨q,m,hq,hm,D,rfl,rfl,rfl,HP,rfl⟩:=hrel;have b8:=hid D;clear D;have d:=KX s.data.toList (t:Int) (q:Int) (m:Int) (by omega);rw[HP.out,HL.out] at d;have G:=fun W=>uQ s (q:Int) 1 W hs (by omega) (by omega) (by omega)
    have a9:=iG (n:=s.size) (at':=(q:Int)) (k:=1);have b9:=jV s.data.toList (q:Int) 1;obtain⟨E1,b0⟩:∃E1,E1=aP s.size (q:Int) 1:=⟨_,rfl⟩;obtain⟨M,b1⟩:∃M,M=aK s.data.toList (q:Int) 1:=⟨_,rfl⟩;rw[<-b0,<-b1] at d;rw[<-b0] at G a9;rw[<-b1] at G b9;clear b0 b1;have m1:aJ.wrap ((q:Int)+1)=((q:Int)+1):=by rw[aM];omega
    have m2:aJ.wrap ((m:Int)+1)=((m:Int)+1):=by rw[aM];omega
    have d6:wr.cell? ⟨z,6,none⟩=some (.int .i64 (t:Int)):=hA.cell (by
     unfold lT;rw[List.getElem?_append_right (by rw[aS,xX,MH _ _ (fun x A=>by rw[sT];have:=a7.out x A;omega),sT];exact aD _),aS,xX,MH _ _ (fun x A=>by rw[sT];have:=a7.out x A;omega),sT];rfl)
    by_cases H:E1=0
    rotate_left
    ·rw[aB H] at d;have u1:(E1 != 0)=true:=by simpa using H
     have hF:=b3.out (k+1) (by omega) (by rw[J.out,d];exact(by rw[aB H];exact H));rw[J.out,d,aB H] at hF;have I:=hid hF;clear d hF d6;go_wp2_with fail;refine(G _).mono ?_;rintro e w2 ⟨rfl,rfl⟩;go_wp2_with fail
     go_ret3
     exact TE I.out (Y.out▸a0)
    subst H;rw[aA (fun k=>k rfl)] at d;have a9:=a9 rfl
    by_cases h2:M=0
    ·subst h2;rw[aB rfl] at d;have hS:dR s.data.toList (t:Int) (a:Int) (k+1)=(L++[(m:Int)],(q:Int)+1,0):=by rw[J.out,d];rfl
     have HS:=hid hS;have b4:(unA (cT 6) L).length=6:=by
      rw[MH _ _ (fun x A=>by rw[sT];have:=a7.out x A;omega),sT]
     have a1:=aFc z (BX (unA (cT 6) L)) (t:Int) m (by rw[xX];exact b4) (by omega) wr hA;rw[aFp,aXu] at a1;have HU:=hid (show unL (cT 6) (L++[(m:Int)])=unL (cT 6) L++[(unA (cT 6) L).getD m 0] by rw[PH,fL]);have HV:=hid (show unA (cT 6) (L++[(m:Int)])=gC (unA (cT 6) L) m by rw[PI,fL]);obtain⟨C,hC⟩:∃C,C=(unA (cT 6) L).getD m 0:=⟨_,rfl⟩;rw[<-hC] at a1 HU;have c7:(BX (unL (cT 6) L)).length<=40000:=by
      rw[xX,sL];have:=(a4.out k (by rw[h.out])).1;rw[h.out] at this;have:L.length=k:=this;omega
     clear d d6 hS hC b4;go_wp2_with fail;refine(G _).mono ?_;rintro e w2 ⟨rfl,rfl⟩;go_wp2_with fail;refine a1.mono ?_;rintro e w3 ⟨rfl,c0,a2⟩;have c1:OwI w3 (z+1) v (BX (unL (cT 6) L)):=Ow.kept Z a2 (lD Z (vK z));have c2:=a0.grown a2 (by omega) (fun k U=>by obtain rfl:=cC U;exact aD _);have c8:=a2.size;clear a1 Z a2;go_wp2_with (at_builtin;refine gK rfl _ _ rfl (z+1) _ _ rfl (OwI.alloc c1 _) _ (C.toNat:Int) rfl (bX _ _ _) ?_ ?_ ?_;(omega);(simp;omega);intro v4 w4 r1 r2 r3);have D:=HG.out
     go_roundg (n-(k+1))
     case measure=>omega
     case rel=>
      refine⟨k+1,q+1,_,L++[(m:Int)],by omega,rfl,rfl,by go_num,by go_num,by omega,hid (by rw[HS.out];push_cast;rfl),?_,?_,(c2.alloc (by omega) _).trans (r2.mono (by omega)),?_⟩
      ·rw[HU.out];unfold BX at r1 ⊢;rw[dY];exact r1
      ·rw[HV.out];exact((Arr.alloc c0 _).below r2 (vK z))
      ·have:=r2.size;simp only[fP] at this;omega
    ·rw[aA h2] at d;have v2:((M:Int)==0)=false:=by rw[cB];omega
     have v3:(M==0)=false:=by rw[cB];omega
     by_cases O:(m:Int)+1=(t:Int)
     ·rw[aB O] at d;have v4:((m:Int)+1==(t:Int))=true:=by rw[beq_iff_eq];exact O
      have hF:=b3.out (k+1) (by omega) (by rw[J.out,d];exact(by decide:(3:Int)≠0));rw[J.out,d] at hF;have I:=hid hF;clear d hF O;go_wp2_with fail;refine(G _).mono ?_;rintro e w2 ⟨rfl,rfl⟩;go_wp2_with fail
      go_ret3
      exact TE I.out (Y.out▸a0)
     ·rw[aA O] at d;have v4:((m:Int)+1==(t:Int))=false:=by rw[cB];exact O
      have HS:=hid d.symm;clear d;go_wp2_with fail;refine(G _).mono ?_;rintro e w2 ⟨rfl,rfl⟩;go_wp2_with fail;have c9:=b8.out
      go_roundg (8*s.size+2-(q+1))
      case measure=>omega
      case rel=>exact⟨q+1,m+1,by omega,by omega,rfl,rfl,by go_num,by go_num,by push_cast;exact HS,rfl⟩
  ·have v1:decide ((k:Int)<(n:Int))=false:=aE (by omega);have c3:k=n:=by omega
   subst c3;have b2:=b5.out;rw[h.out] at b2;have F:=a4.out k (by rw[h.out]);rw[h.out] at F;have hU:unL (cT t) L=unL (cT 6) L:=by
    rw[RH T,(aB5 L (cT t) _ (fun x A=>by rw[sT];exact F.2.1 x A)).1]
   have I:=hid (show eD s.data.toList (a:Int) (k:Int) (t:Int)=(BX (unL (cT 6) L),(p:Int),0) by
    rw[b2,aA (fun q=>q rfl),<-hU];rfl)
   clear b2 F hU;go_wp2_with fail
   go_ret3
   exact⟨_,by rw[I.out];rfl,by rw[I.out];exact Ow.base Z (by rw[<-Y.out];omega),Y.out▸a0⟩
theorem aY1 (p q r:Addr) (w:World):
  CallsD pG 169 #[.pointer (some p),.pointer (some q),.pointer (some r)] .returning w fun e d w'=>e=.returned (.tuple #[])/\d=.returning/\w'=w:=by
 refine OT func169 rfl fun h D A=>?_
 apply wpS_seq;apply wpS_region;simp[wpOpsS,go_sem,recoverD,A,ntmps169,Exit.thenS];refine wpS_of_wp ?_;go_wp2
 cases h
 simp_all [bodyPostS,results,f169]
theorem xY {b c o p:Nat} (h:b≠c):(⟨b,o,none⟩:Addr)≠⟨c,p,none⟩:=by simp
theorem aY2 (v:Value) (d:TypeId) (w:World):(tZ (.iface 251 v) d 251 true).run pG w=.ok (.tuple #[v,.bool true]) w:=by
 simp[tZ,run_underlying underlying251]
theorem aY3 (z:Nat) (E:Int) (M:List PanicEntry) (w:World) (Z x7 x8:Value) (H:Arr w z 55 [Z]) (I:Arr w (z+1) 3 [x7]) (D:Arr w (z+1+1) 29 [x8]):
  CallsD pG 169 #[.pointer (some ⟨z,0,none⟩),.pointer (some ⟨z+1,0,none⟩),.pointer (some ⟨z+1+1,0,none⟩)] (.panicking ({v:=.iface 251 (.agg #[.int .i64 E]),recovered:=false}::M)) w fun e u' w'=>
   e=.returned (.tuple #[])/\u'=.panicking ({v:=.iface 251 (.agg #[.int .i64 E]),recovered:=true}::M)/\Arr w' z 55 [.slice none 0 0]/\Arr w' (z+1) 3 [.int .i64 0]/\Arr w' (z+1+1) 29 [.int .i64 E]/\Below z w w':=by
 have e6:=H.cell (i:=0) rfl;have e7:=I.cell (i:=0) rfl;have e8:=D.cell (i:=0) rfl;have f6:=H.free 0;have f7:=I.free 0;have f8:=D.free 0;refine OT func169 rfl fun c₀ cs hu=>?_
 apply wpS_seq;apply wpS_region;simp[wpOpsS,go_sem,recoverD,hu,ntmps169,Exit.thenS];refine wpS_of_wp ?_;simp only[Array.replicate_succ,Array.replicate_zero,List.push_toArray,List.append_toArray,List.nil_append,List.cons_append,bK,bH,bB];have b0:=aY2 (.agg #[.int .i64 E]);go_wp2_with fail;have a1:=H.alloc (.cells #[.int .i64 E] 251);have a2:=I.alloc (.cells #[.int .i64 E] 251);have a3:=D.alloc (.cells #[.int .i64 E] 251);have O:=bX w (.int .i64 E) 251;have a4:=D.lt
 have a5:Below z w (w.alloc (.cells #[.int .i64 E] 251)):=(aH z w).alloc (by omega) _;generalize w.alloc (.cells #[.int .i64 E] 251)=F at*
 obtain⟨d,a0⟩:∃d,d=w.heap.size:=⟨_,rfl⟩;rw[<-a0] at O a4 ⊢;clear e6 e7 e8 f6 f7 f8 a0 H I D;have a6:=a5.drew;have T:Arr F.drew z 55 [Z]:=a1;have h7:Arr F.drew (z+1) 3 [x7]:=a2;have h8:Arr F.drew (z+1+1) 29 [x8]:=a3;have a7:F.drew.cell? ⟨d,0,none⟩=some (.int .i64 E):=O;refine wp_region_held_drew (S:=fun w'=>w'.cell? ⟨d,0,none⟩=some (.int .i64 E)) (by kernel_rfl) O (fun b1=>?_);generalize F.drew=A at*
 have U:=h7.other ⟨z,0,none⟩ (by show _≠_;simp only[ne_eq];omega) (.slice none 0 0);have V:=(h8.other ⟨z,0,none⟩ (by show _≠_;simp only[ne_eq];omega) (.slice none 0 0)).other ⟨z+1,0,none⟩ (by show _≠_;simp only[ne_eq];omega) (.int .i64 0);have e6:=T.cell (i:=0) rfl;have e7:=U.cell (i:=0) rfl;have e8:=V.cell (i:=0) rfl;have f6:=T.free 0;have f7:=U.free 0;have f8:=V.free 0;have J:(A.setCell ⟨z,0,none⟩ (.slice none 0 0)).cell? ⟨d,0,none⟩=some (.int .i64 E):=by rw[lI _ _ _ _ (xY (by omega))];exact a7
 have L:((A.setCell ⟨z,0,none⟩ (.slice none 0 0)).setCell ⟨z+1,0,none⟩ (.int .i64 0)).cell? ⟨d,0,none⟩=some (.int .i64 E):=by rw[lI _ _ _ _ (xY (by omega))];exact J
 have Y:(((A.setCell ⟨z,0,none⟩ (.slice none 0 0)).setCell ⟨z+1,0,none⟩ (.int .i64 0)).setCell ⟨z+1+1,0,none⟩ (.int .i64 E)).cell? ⟨d,0,none⟩=some (.int .i64 E):=by rw[lI _ _ _ _ (xY (by omega))];exact L
 have q6:Arr (((A.setCell ⟨z,0,none⟩ (.slice none 0 0)).setCell ⟨z+1,0,none⟩ (.int .i64 0)).setCell ⟨z+1+1,0,none⟩ (.int .i64 E)) z 55 [.slice none 0 0]:=((T.set 0 _).other _ (by show _≠_;simp only[ne_eq];omega) _).other _ (by show _≠_;simp only[ne_eq];omega) _;have q7:Arr (((A.setCell ⟨z,0,none⟩ (.slice none 0 0)).setCell ⟨z+1,0,none⟩ (.int .i64 0)).setCell ⟨z+1+1,0,none⟩ (.int .i64 E)) (z+1) 3 [.int .i64 0]:=(U.set 0 _).other _ (by show _≠_;simp only[ne_eq];omega) _
 have q8:Arr (((A.setCell ⟨z,0,none⟩ (.slice none 0 0)).setCell ⟨z+1,0,none⟩ (.int .i64 0)).setCell ⟨z+1+1,0,none⟩ (.int .i64 E)) (z+1+1) 29 [.int .i64 E]:=V.set 0 _;have a8:Below z w (((A.setCell ⟨z,0,none⟩ (.slice none 0 0)).setCell ⟨z+1,0,none⟩ (.int .i64 0)).setCell ⟨z+1+1,0,none⟩ (.int .i64 E)):=((a6.setCell (p:=⟨z,0,none⟩) (aD _) _).setCell (p:=⟨z+1,0,none⟩) (tJ _) _).setCell (p:=⟨z+1+1,0,none⟩) (by show z<=z+1+1;omega) _
 iterate 2
  refine fV 0 0 (by simp only[List.size_toArray,List.length_cons,List.length_nil,Nat.reduceAdd,Nat.reduceSub]<;>rfl) (by simp only[List.getElem?_toArray,List.getElem?_cons_succ,List.getElem?_cons_zero];rfl) (by kernel_rfl) (by exact fun _ _ _ h=>h) (by first|exact Or.inr ⟨by rfl,rfl⟩|(refine Or.inl ⟨by rfl,?_⟩;intro w' a9;(try dsimp only at a9);(try go_simp);try with_reducible rfl)) (by assumption) ?_
  try simp only[bJ,bK,bH,bB]
 refine dJ (i:=2) (by kernel_rfl) rfl (fun K G=>?_);go_simp;refine G.out _ _ ?_ (fun _=>?_)
 ·first|exact J|exact L|exact Y
 try simp only[bJ,bK,bH,bB]
 refine dJ (i:=3) (by kernel_rfl) rfl (fun K G=>?_);go_simp;refine G.out _ _ ?_ (fun _=>?_)
 ·first|exact J|exact L|exact Y
 try simp only[bJ,bK,bH,bB]
 refine dJ (i:=4) (by kernel_rfl) rfl (fun K G=>?_);go_simp;refine G.out _ _ ?_ (fun _=>?_)
 ·first|exact J|exact L|exact Y
 try simp only[bJ,bK,bH,bB]
 refine wpAnyH_done (by kernel_rfl) ?_ _;go_wp2_with fail;refine⟨rfl,.panicking ({v:=.iface 251 (.agg #[.int .i64 E]),recovered:=true}::M),?_,.tuple #[],?_,rfl,rfl,q6,q7,q8,a8⟩
 ·first|rfl|(cases c₀;simp_all)
 ·simp[results,f169]
theorem aGn {P:Program} {D:Func} {p q r:Tmp} {F G H:TypeId} (h:D.results=#[.cell p F,.cell q G,.cell r H]) (tmps:Array Value) (w:World) (d e A:Addr) (I J L:Value)
  (M:tmps.getD p undef=.pointer (some d)) (O:tmps.getD q undef=.pointer (some e)) (T:tmps.getD r undef=.pointer (some A))
  (U:(loadVar F d).run P w=.ok I w) (V:(loadVar G e).run P w=.ok J w) (Y:(loadVar H A).run P w=.ok L w):
  (results D tmps).run P w=.ok (.tuple #[I,J,L]) w:=by
 have Z:tmps[p]?.getD undef=.pointer (some d):=by simpa using M
 have a0:tmps[q]?.getD undef=.pointer (some e):=by simpa using O
 have a1:tmps[r]?.getD undef=.pointer (some A):=by simpa using T
 simp[results,h,Z,a0,a1,asAddr,U,V,Y,Result.andThen]
theorem TQ {w W:World} {s:List UInt8} {a n z:Nat} {E:Int} {tmps:Array Value} {d A D:Value} (h:gS s (a:Int) (n:Int)=([],0,E)) (F:w.heap.size=z)
  (G:Arr W z 55 [d]) (H:Arr W (z+1) 3 [A]) (I:Arr W (z+1+1) 29 [D]) (J:Below z w W)
  (L:tmps.getD 6 undef=.pointer (some ⟨z,0,none⟩)) (M:tmps.getD 7 undef=.pointer (some ⟨z+1,0,none⟩)) (O:tmps.getD 8 undef=.pointer (some ⟨z+1+1,0,none⟩)):
  Leaves pG f149 tmps (fun e w'=>CL w w' s a n e) [{target:=.fn (.func 169) #[.pointer (some ⟨z,0,none⟩),.pointer (some ⟨z+1,0,none⟩),.pointer (some ⟨z+1+1,0,none⟩)],args:=#[]}] (.panicking (MJ E)) W:=by
 refine leaves_cons (f:=169) (args:=#[.pointer (some ⟨z,0,none⟩),.pointer (some ⟨z+1,0,none⟩),.pointer (some ⟨z+1+1,0,none⟩)]) (by simp) (by simp[go_sem]) ?_;refine(aY3 z E [] W d A D G H I).mono ?_;rintro e u' w' ⟨rfl,rfl,T,U,V,Y⟩;have Z:=T.cell (i:=0) rfl;have c7:=U.cell (i:=0) rfl;have c8:=V.cell (i:=0) rfl;refine⟨_,aGn rfl tmps w' _ _ _ (.slice none 0 0) (.int .i64 0) (.int .i64 E) L M O (by simp[go_sem,Z]) (by simp[go_sem,c7]) (by simp[go_sem,c8]),?_⟩;exact FL h (F▸J.trans Y)
theorem aY4 (w:World) (d A F:TypeId) (h D G:Value):∀W,W=((w.alloc (.cells #[h] d)).alloc (.cells #[D] A)).alloc (.cells #[G] F)->
  (Arr W w.heap.size d [h]/\Arr W (w.heap.size+1) A [D]/\Arr W (w.heap.size+1+1) F [G])/\Below w.heap.size w W/\W.heap.size=w.heap.size+1+1+1:=by
 rintro W rfl;have J:=Arr.new w d [h];have H:=Arr.new (w.alloc (.cells #[h] d)) A [D];have I:=Arr.new ((w.alloc (.cells #[h] d)).alloc (.cells #[D] A)) F [G];have e:∀(W:World) (o:Obj),(W.alloc o).heap.size=W.heap.size+1:=fun W o=>by simp
 rw[e] at H;rw[e,e] at I;refine⟨⟨(J.alloc _).alloc _,H.alloc _,I⟩,?_,by simp⟩;exact(((aH _ w).alloc (aD _) _).alloc (by simp) _).alloc (by simp;omega) _
theorem aY5 (s:ByteArray) (a n:Nat) (w:World) (hs:s.size<=1000000) (ha:a<=90000000) (b3:2<=n) (b4:n<=258):
  Calls pG 149 #[.string s,.int .i64 (a:Int),.int .i64 (n:Int)] w fun e w'=>CL w w' s.data.toList a n e:=by
 have HL:=hid (show s.data.toList.length=s.size by simp);have t1:decide ((a:Int)<0)=false:=aE (by omega);have e4:∀(fn:Fn) (first cap:Array Value) (w:World),(Instr.makeFunc fn first cap).run pG w=.ok (.func fn first cap) w:=fun _ _ _ _=>rfl
 have b5:=hid (fun k O=>aGb (s:=s.data.toList) (a:=a) (k:=k) b3 b4 O);have d2:=hid (TL s.data.toList a n b3 b4);have h0:=aGc s.data.toList (a:Int);rw[HL.out] at h0;have U:=hid h0;clear h0;have b6:=jV s.data.toList (a:Int) 5;have a8:=iG (n:=s.size) (at':=(a:Int)) (k:=5);have b6:aK s.data.toList (a:Int) 5<32:=b6
 go_enter_defers func149,ntmps149
 go_wp2_with fail;refine(aF7 n _ b3 b4).mono ?_;rintro e w' ⟨rfl,rfl⟩;obtain⟨⟨d,A,D⟩,b7,a9⟩:=aY4 w 55 3 29 (.slice none 0 0) (.int .i64 0) (.int .i64 0) _ rfl;generalize ((w.alloc (.cells #[.slice none 0 0] 55)).alloc (.cells #[.int .i64 0] 3)).alloc (.cells #[.int .i64 0] 29)=w0 at*
 obtain⟨z,hz⟩:∃z,w.heap.size=z:=⟨_,rfl⟩;rw[hz] at d A D b7 a9 ⊢;have HZ:=hid hz;clear hz;go_wp2_with fail;have b8:DRd (w0.alloc (.cells #[.string s,.int .i64 (a:Int)] 254)) w0.heap.size s a:=Arr.new w0 254 [.string s,.int .i64 (a:Int)];have d:=d.alloc (.cells #[.string s,.int .i64 (a:Int)] 254);have A:=A.alloc (.cells #[.string s,.int .i64 (a:Int)] 254);have D:=D.alloc (.cells #[.string s,.int .i64 (a:Int)] 254);have b9:=b7.alloc (o:=.cells #[.string s,.int .i64 (a:Int)] 254) (by omega);have d3:(w0.alloc (.cells #[.string s,.int .i64 (a:Int)] 254)).heap.size=z+1+1+1+1:=by simp[a9]
 rw[a9] at b8;generalize w0.alloc (.cells #[.string s,.int .i64 (a:Int)] 254)=w1 at*
 clear b7 a9;refine(TO (z+1+1+1) s a 5 w1 b8 hs (by decide) (by omega)).mono ?_;rintro e w2 (⟨h1,rfl,c3,J⟩|⟨h1,rfl,J⟩)
 rotate_left
 ·have d:=d.grown J (by simp only[ne_eq,lJ];omega);have A:=A.grown J (by simp only[ne_eq,lJ];omega);have D:=D.grown J (by simp only[ne_eq,lJ];omega);have a7:=b9.grown J (by omega) (fun k O=>by obtain rfl:=cC O;omega);have H:=U.out;rw[aB h1] at H;have L:=b5.out 0 (by omega) (by rw[H];exact h1);rw[H] at L;go_wp2_with fail;exact TQ L HZ.out d A D a7 rfl rfl rfl
 have a8:=a8 h1;have H:=U.out;rw[aA (fun k=>k h1)] at H;obtain⟨V,hV⟩:∃V,V=aK s.data.toList (a:Int) 5:=⟨_,rfl⟩;rw[<-hV] at H b6 ⊢;clear hV h1;have d:=d.grown J (by simp only[ne_eq,lJ];omega);have A:=A.grown J (by simp only[ne_eq,lJ];omega);have D:=D.grown J (by simp only[ne_eq,lJ];omega);have a7:=b9.grown J (by omega) (fun k O=>by obtain rfl:=cC O;omega);have c4:z+1+1+1+1<=w2.heap.size:=by have:=J.size;omega
 clear b9 d3 J b8;go_wp2_with fail;refine(TP (z+1+1+1) (V:Int) w2).mono ?_;rintro e w3 (⟨h2,rfl,rfl⟩|⟨h2,rfl,rfl⟩)
 rotate_left
 ·rw[aB (by omega)] at H;have L:=b5.out 0 (by omega) (by rw[H];exact(by decide:(3:Int)≠0));rw[H] at L;go_wp2_with fail;exact TQ L HZ.out d A D a7 rfl rfl rfl
 rw[aA (by omega)] at H;have U:=hid H;clear H;go_wp2_with fail
 go_loopg [10,28] n (fun g d4 d5 wr=>∃(k p:Nat) (m:Int) (v:Value),k<=n/\g=n-k/\d5=.int .i64 (k:Int)/\d4=.int .i64 m/\1<=m/\m<=20/\p<=90000005/\Hid ((bC s.data.toList (a:Int) k).2.2.2=0/\(bC s.data.toList (a:Int) k).2.1=m/\(bC s.data.toList (a:Int) k).2.2.1=(p:Int)/\(bC s.data.toList (a:Int) k).1.length=k)/\
  Arr wr z 55 [v]/\Arr wr (z+1) 3 [.int .i64 0]/\Arr wr (z+1+1) 29 [.int .i64 0]/\DRd wr (z+1+1+1) s p/\OwI wr (z+1+1+1+1) v (bC s.data.toList (a:Int) k).1/\Below z w wr/\z+1+1+1+1<=wr.heap.size)
 case atStart=>exact⟨0,a+5,(V:Int),_,aO _,rfl,rfl,rfl,by omega,by omega,by omega,hid ⟨by rw[U.out],by rw[U.out],by rw[U.out];push_cast;rfl,by rw[U.out];rfl⟩,d,A,D,c3,by rw[U.out];exact OwI.nil _ _,a7,c4⟩
 case round=>
  clear d A D c3 a7 c4;obtain⟨k,p,m,v,O,hg,rfl,rfl,c5,c9,e5,Z,d,A,D,hA,ho,b0,e7⟩:=hrel;have HG:=hid hg;clear hg
  by_cases e8:k<n
  ·have v1:decide ((k:Int)<(n:Int))=true:=aG (by omega);have T:=aGd Z.out.1;rw[Z.out.2.1,Z.out.2.2.1] at T;have b1:=aY0 (z+1+1+1) s p m wr hA hs (by omega) c5 c9;have a0:=KW s.data.toList (8*s.data.toList.length+2) (p:Int) m (by omega) c5 c9;rw[HL.out] at a0;rw[show lQ s.data.toList (8*s.size+2) (p:Int) m=fS s.data.toList (p:Int) m by unfold fS;rw[HL.out]] at a0;obtain⟨F,q2,q3,hq⟩:∃F q2 q3,fS s.data.toList (p:Int) m=(F,q2,q3):=⟨_,_,_,rfl⟩;rw[hq] at T b1 a0;simp only at T b1 a0;clear hq;go_wp2_with fail;refine b1.mono ?_;rintro e w3 (⟨b2,rfl,⟨p',d6,d7⟩,M⟩|⟨b2,rfl,M⟩)
   rotate_left
   ·rw[aB b2] at T;have L:=b5.out (k+1) (by omega) (by rw[T];exact b2);rw[T] at L;have d:=d.grown M (by simp only[ne_eq,lJ];omega);have A:=A.grown M (by simp only[ne_eq,lJ];omega);have D:=D.grown M (by simp only[ne_eq,lJ];omega);have c0:=b0.grown M (by omega) (fun k O=>by obtain rfl:=cC O;omega);go_wp2_with fail;exact TQ L HZ.out d A D c0 rfl rfl rfl
   subst b2;subst d6;rw[aA (fun k=>k rfl)] at T;obtain⟨a1,a2,a3,a4⟩:=a0 rfl;have HS:=hid T;clear T;have e9:(bC s.data.toList (a:Int) k).1.length<=258:=by rw[Z.out.2.2.2];omega
   have d:=d.grown M (by simp only[ne_eq,lJ];omega);have A:=A.grown M (by simp only[ne_eq,lJ];omega);have D:=D.grown M (by simp only[ne_eq,lJ];omega);have f0:z+1+1+1+1<=w3.heap.size:=by have:=M.size;omega
   have d8:OwI w3 (z+1+1+1+1) v (bC s.data.toList (a:Int) k).1:=Ow.kept ho M (by
    rcases hob:v.ownBlock with _|kb
    ·exact .inl rfl
    ·have:=(Ow.lt ho kb hob).1;refine .inr (fun e=>?_);have:=cC e;omega)
   have c0:=b0.grown M (by omega) (fun k O=>by obtain rfl:=cC O;omega);have c6:=d.cell (i:=0) rfl;clear ho b0;have c1:z<z+1+1+1+1:=by omega
   have d9:z+1<z+1+1+1+1:=by omega
   have e0:z+1+1<z+1+1+1+1:=by omega
   have e1:z+1+1+1<z+1+1+1+1:=by omega
   clear b1 a0 a8;go_wp2_with (at_builtin;refine gK rfl _ _ rfl (z+1+1+1+1) _ _ rfl (OwI.alloc d8 _) _ F rfl (bX _ _ _) ?_ ?_ ?_;(omega);(simp;omega);intro v4 w4 r1 Y r3;obtain⟨a5,a6,rfl,_,_,_⟩:=(OwI.rd r1).open;have f6:=((d.alloc (.cells #[.int .i64 F] 3)).below Y c1).free 0;have e6:=((d.alloc (.cells #[.int .i64 F] 3)).below Y c1).cell (i:=0) rfl);have k6:=((d.alloc (.cells #[.int .i64 F] 3)).below Y c1).set 0 (.slice a5 ((bC s.data.toList (a:Int) k).1.length+1) a6)
   have k7:=((A.alloc (.cells #[.int .i64 F] 3)).below Y d9).other ⟨z,0,none⟩ (by show _≠_;simp only[ne_eq];omega) (.slice a5 ((bC s.data.toList (a:Int) k).1.length+1) a6);have k8:=((D.alloc (.cells #[.int .i64 F] 3)).below Y e0).other ⟨z,0,none⟩ (by show _≠_;simp only[ne_eq];omega) (.slice a5 ((bC s.data.toList (a:Int) k).1.length+1) a6);have kA:=((Arr.alloc d7 (.cells #[.int .i64 F] 3)).below Y e1).other ⟨z,0,none⟩ (by show _≠_;simp only[ne_eq];omega) (.slice a5 ((bC s.data.toList (a:Int) k).1.length+1) a6)
   have kB:=((c0.alloc (o:=.cells #[.int .i64 F] 3) (by omega)).trans (Y.mono (by omega))).setCell (p:=⟨z,0,none⟩) (aD _) (.slice a5 ((bC s.data.toList (a:Int) k).1.length+1) a6);have hg:=HG.out
   go_roundg (n-(k+1))
   case measure=>omega
   case rel=>
    refine⟨k+1,p',F,_,by omega,rfl,by go_num,rfl,a1,a2,by omega,hid ⟨by rw[HS.out],by rw[HS.out],by rw[HS.out],by rw[HS.out,aL,Z.out.2.2.2];rfl⟩,k6,k7,k8,kA,?_,kB,?_⟩
    ·rw[HS.out];rw[aL] at r1;refine Ow.kept r1 (gbS w4 z 0 _) ?_;rcases hob:(mM a5 ((bC s.data.toList (a:Int) k).1.length+[F].length) a6).ownBlock with _|kb
     ·exact .inl rfl
     ·have:=(Ow.lt r1 kb hob).1;refine .inr (fun e=>?_);have:=cC e;omega
    ·have:=Y.size;simp only[fP] at this;simp only[World.size_setCell];omega
  ·have v1:decide ((k:Int)<(n:Int))=false:=aE (by omega);have e2:k=n:=by omega
   subst e2;have c2:=d2.out;rw[aA (fun q=>q Z.out.1),Z.out.2.2.1] at c2;have L:=hid c2;obtain⟨G,I,rfl,_,_,_⟩:=(OwI.rd ho).open;have c6:=d.cell (i:=0) rfl;have c7:=A.cell (i:=0) rfl;have c8:=D.cell (i:=0) rfl;have f6:=d.free 0;have f7:=A.free 0;have f8:=D.free 0;have d0:=Arr.cell hA (i:=0) rfl;have d1:=Arr.cell hA (i:=1) rfl;clear c2 a8;go_wp2_with fail
   go_region
   go_wp2_with fail;refine leaves_cons (f:=169) (args:=#[.pointer (some ⟨z,0,none⟩),.pointer (some ⟨z+1,0,none⟩),.pointer (some ⟨z+1+1,0,none⟩)]) (by simp) (by simp[go_sem]) ?_;refine(aY1 ⟨z,0,none⟩ ⟨z+1,0,none⟩ ⟨z+1+1,0,none⟩ _).mono ?_;rintro e u' f1 ⟨rfl,rfl,rfl⟩;have e3:=HZ.out;have k6:=((d.set 0 (.slice G (bC s.data.toList (a:Int) k).1.length I)).other ⟨z+1,0,none⟩ (by show _≠_;simp only[ne_eq];omega) (.int .i64 (p:Int))).other ⟨z+1+1,0,none⟩ (by show _≠_;simp only[ne_eq];omega) (.int .i64 0)
   have k7:=((A.other ⟨z,0,none⟩ (by show _≠_;simp only[ne_eq];omega) (.slice G (bC s.data.toList (a:Int) k).1.length I)).set 0 (.int .i64 (p:Int))).other ⟨z+1+1,0,none⟩ (by show _≠_;simp only[ne_eq];omega) (.int .i64 0);have k8:=((D.other ⟨z,0,none⟩ (by show _≠_;simp only[ne_eq];omega) (.slice G (bC s.data.toList (a:Int) k).1.length I)).other ⟨z+1,0,none⟩ (by show _≠_;simp only[ne_eq];omega) (.int .i64 (p:Int))).set 0 (.int .i64 0)
   have kB:=((b0.setCell (p:=⟨z,0,none⟩) (aD _) (.slice G (bC s.data.toList (a:Int) k).1.length I)).setCell (p:=⟨z+1,0,none⟩) (tJ _) (.int .i64 (p:Int))).setCell (p:=⟨z+1+1,0,none⟩) (by show z<=z+1+1;omega) (.int .i64 0);have kv:∀(q:Nat) (V:Value) (W:World),q<z+1+1+1+1->OwI W (z+1+1+1+1) (mM G (bC s.data.toList (a:Int) k).1.length I) (bC s.data.toList (a:Int) k).1->OwI (W.setCell ⟨q,0,none⟩ V) (z+1+1+1+1) (mM G (bC s.data.toList (a:Int) k).1.length I) (bC s.data.toList (a:Int) k).1:=fun q V W hq h=>by
    refine Ow.kept h (gbS W q 0 V) ?_;rcases hob:(mM G (bC s.data.toList (a:Int) k).1.length I).ownBlock with _|kb
    ·exact .inl rfl
    ·have:=(Ow.lt h kb hob).1;refine .inr (fun e=>?_);have:=cC e;omega
   have kO:=kv (z+1+1) (.int .i64 0) _ (by omega) (kv (z+1) (.int .i64 (p:Int)) _ (by omega) (kv z (.slice G (bC s.data.toList (a:Int) k).1.length I) _ (by omega) ho));generalize ((wr.setCell ⟨z,0,none⟩ (.slice G (bC s.data.toList (a:Int) k).1.length I)).setCell ⟨z+1,0,none⟩ (.int .i64 (p:Int))).setCell ⟨z+1+1,0,none⟩ (.int .i64 0)=w5 at*
   have k6:Arr w5.drew z 55 [.slice G (bC s.data.toList (a:Int) k).1.length I]:=k6;have k7:Arr w5.drew (z+1) 3 [.int .i64 (p:Int)]:=k7;have k8:Arr w5.drew (z+1+1) 29 [.int .i64 0]:=k8;have kO:OwI w5.drew (z+1+1+1+1) (.slice G (bC s.data.toList (a:Int) k).1.length I) (bC s.data.toList (a:Int) k).1:=kO;have kB:=kB.drew;generalize w5.drew=w6 at*
   have c6:=k6.cell (i:=0) rfl;have c7:=k7.cell (i:=0) rfl;have c8:=k8.cell (i:=0) rfl;refine⟨_,aGn rfl _ w6 ⟨z,0,none⟩ ⟨z+1,0,none⟩ ⟨z+1+1,0,none⟩ (.slice G (bC s.data.toList (a:Int) k).1.length I) (.int .i64 (p:Int)) (.int .i64 0) rfl rfl rfl (by simp[go_sem,c6]) (by simp[go_sem,c7]) (by simp[go_sem,c8]),?_⟩;exact⟨_,by rw[L.out],by rw[L.out];exact Ow.base kO (by omega),by rw[e3];exact kB⟩
theorem aGo (n:Int) (W:World):Calls pG 130 #[.int .i64 n] W fun e w'=>e=.returned (.bool (decide (1<=n)&&decide (n<=360)))/\w'=W:=by
 by_cases h:1<=n
 ·have d:decide (1<=n)=true:=aG h;have A:decide (n>=1)=true:=aG h;rw[d];go_enter func130,ntmps130;go_wp2_with fail;go_ret;exact⟨rfl,rfl⟩
 ·have d:decide (1<=n)=false:=aE h;have A:decide (n>=1)=false:=aE h;rw[d];go_enter func130,ntmps130;go_wp2_with fail;go_ret;exact⟨rfl,rfl⟩
def rS (E:Int):List PanicEntry:=[{v:=.iface 213 (.agg #[.int .i64 E]),recovered:=false}]
theorem zU (E:Int) (W:World):Calls pG 145 #[.int .i64 E] W fun e w'=>
  (E=0/\e=.returned (.tuple #[])/\w'=W)\/(E≠0/\e=.panicked (rS E)/\w'=W):=by
 by_cases h:E=0
 ·subst h;go_enter func145,ntmps145;go_wp2_with fail
  go_end0
  exact .inl ⟨trivial,rfl,rfl⟩
 ·have d:(E != 0)=true:=by simpa using h
  go_enter func145,ntmps145;go_wp2_with fail;exact⟨rfl,.inr ⟨h,rfl,rfl⟩⟩
theorem tW (b:Bool) (E:Int) (W:World) (d:E≠0):Calls pG 133 #[.bool b,.int .i64 E] W fun e w'=>
  (b=true/\e=.returned (.tuple #[])/\w'=W)\/(b=false/\e=.panicked (rS E)/\w'=W):=by
 have hor:=(zU E W).mono (fun e w' h=>show e=.panicked (rS E)/\w'=W from by
  rcases h with h|h
  ·exact absurd h.1 d
  ·exact h.2)
 cases b with
 |true=>
  go_enter func133,ntmps133;go_wp2_with fail
  go_end0
  exact .inl ⟨trivial,rfl,rfl⟩
 |false=>
  go_enter func133,ntmps133;go_wp2_with fail;refine hor.mono ?_;rintro e w' ⟨rfl,rfl⟩;go_wp2_with fail;exact⟨rfl,.inr ⟨trivial,rfl,rfl⟩⟩
def BRd (w:World) (b:Nat) (s:ByteArray) (a:Nat) (d ch e:Value):Prop:=Arr w b 217 [.string s,.int .i64 (a:Int),d,ch,e]
theorem FN (b:Nat) (s:ByteArray) (a k:Nat) (A ch D:Value) (W:World) (F:BRd W b s a A ch D) (O:s.size<=1000000) (T:k<=48) (Z:a<=100000000):
  Calls pG 138 #[.pointer (some ⟨b,0,none⟩),.int .i64 (k:Int)] W fun e w'=>
   (aP s.size (a:Int) k=0/\e=.returned (.int .i64 (aK s.data.toList (a:Int) k:Int))/\BRd w' b s (a+k) A ch D/\W.grownBy w' (some b))\/(aP s.size (a:Int) k≠0/\e=.panicked (rS (aP s.size (a:Int) k))/\W.grownBy w' (some b)):=by
 have I:=fun W=>uQ s (a:Int) k W O (by omega) (by omega) (by omega)
 have J:=jV s.data.toList (a:Int) k;have U:aK s.data.toList (a:Int) k<281474976710656:=Nat.lt_of_lt_of_le J (aR (Nat.pow_le_pow_right (by decide) T) (by decide));obtain⟨E,d⟩:∃E,E=aP s.size (a:Int) k:=⟨_,rfl⟩;obtain⟨V,h⟩:∃V,V=aK s.data.toList (a:Int) k:=⟨_,rfl⟩;rw[<-d,<-h];rw[<-d,<-h] at I;rw[<-h] at U;have HE:=hid d;clear d h J;have c0:=Arr.cell F (i:=0) rfl;have c1:=Arr.cell F (i:=1) rfl;have m1:aJ.wrap (V:Int)=(V:Int):=by rw[aM];omega
 have m2:aJ.wrap ((a:Int)+(k:Int))=(a:Int)+(k:Int):=by rw[aM];omega
 have hor:=fun W=>zU E W
 go_enter func138,ntmps138;go_wp2_with fail
 go_quiet (first|(go_at_call 119;exact Calls.quiet_of_same (I _)))
 generalize G:W.drewN nq=L at*
 have H:BRd L b s a A ch D:=by rw[<-G];exact F
 have M:W.grownBy L (some b):=by rw[<-G];exact⟨rfl,rfl,rfl,aD _,fun _ _ _=>rfl⟩
 have d1:=Arr.cell H (i:=1) rfl;have g1:=Arr.free H 1;clear G;go_wp2_with fail;refine(hor _).mono ?_;rintro e w2 (⟨rfl,rfl,rfl⟩|⟨Y,rfl,rfl⟩)
 ·go_wp2_with fail;go_ret;exact⟨rfl,by have:=Arr.set H 1 (.int .i64 ((a:Int)+(k:Int)));unfold BRd;push_cast;exact this,gbT M (gbS _ _ _ _)⟩
 ·go_wp2_with fail;exact⟨rfl,.inr ⟨Y,rfl,M⟩⟩
theorem MK (b:Nat) (s:ByteArray) (a:Nat) (q E:Int) (h ch A:Value) (W:World) (d:BRd W b s a h ch A):
  Calls pG 140 #[.pointer (some ⟨b,0,none⟩),.int .i64 q,.int .i64 E] W fun e w'=>
   (E=0/\e=.returned (.tuple #[])/\Arr w' b 217 [.string s,.int .i64 q,h,ch,A]/\W.grownBy w' (some b))\/(E≠0/\e=.panicked (rS E)/\w'=W):=by
 have F:=Arr.cell d (i:=1) rfl;have G:=Arr.free d 1;have hor:=zU E W;go_enter func140,ntmps140;go_wp2_with fail;refine hor.mono ?_;rintro e H (⟨rfl,rfl,rfl⟩|⟨D,rfl,rfl⟩)
 ·go_wp2_with fail
  go_end0
  exact⟨rfl,Arr.set d 1 _,gbS _ _ _ _⟩
 ·go_wp2_with fail;exact⟨rfl,.inr ⟨D,rfl,rfl⟩⟩
theorem sX {P:Program} {d:Array Oper} {o:Oper} {a:Act} {w:World} {K:Act->World->Prop} {Q:Exit->Act->World->Prop} {E:Prop} (e:o.guard=none) (s x:Operand) (t:TypeId)
  (A:o.op=.call {callee:=.builtin .append,args:=#[s,x],argTypes:=#[t,t]}) (v u v':Value) (w':World) (hs:a.eval s=v) (hx:a.eval x=u)
  (hr:(Builtin.append_ #[t,t] o.type #[v,u]).run P w=.ok v' w') (h:K (a.put o.dst v') w'):if qL o (yielded d a.tmps)=true then nC P o a w K Q else E:=by
 have D:qL o (yielded d a.tmps)=true:=by simp[qL,e]
 rw[aB D];unfold nC execOp;simp only[A,resolve,invoke,builtin,Sem.run_bind,Sem.run_pure,Result.andThen_ok,List.map_toArray,List.map_cons,List.map_nil,hs,hx,hr];exact h
def WrL (w:World) (p B:Nat) (d:List (List Bool)):Prop:=∃v,Arr w p 999983 [v]/\eO w B v d
def KT (e p:Nat) (w w':World):Prop:=w.heap.size<=w'.heap.size/\∀k o,w.heap[k]? =some o->k≠p->(∀c d,o≠.cells c e d)->w'.heap[k]? =some o
theorem KT.trans {e p:Nat} {a b c:World} (h:KT e p a b) (k:KT e p b c):KT e p a c:=by grind [KT]
theorem KT.below {e p:Nat} {w w':World} (h:Below w.heap.size w w'):KT e p w w':=⟨h.size,fun k _ d _ _=>(h.block k (fE.1 d).1).trans d⟩
theorem KT.app {e p B z n:Nat} {w w':World} {v:Value} {A:List Value} (D:w.ownsRow B e z v n A) (h:w.grownBy w' v.ownBlock):KT e p w w':=⟨h.size,fun k o d _ F=>by
 refine(h.block k (fE.1 d).1 (fun e=>?_)).trans d;rcases D.2 with⟨rfl,_⟩|⟨g,cap,G,rfl,_,H,_⟩
 ·cases e
 ·obtain rfl:=cC e
  grind⟩
theorem KT.box {e p i:Nat} {w:World} (v:Value):KT e p w (w.setCell ⟨p,i,none⟩ v):=⟨by simp,fun k o d h _=>by rw[kF w ⟨p,i,none⟩ k v h];exact d⟩
abbrev pr (q:Int×Int):VV:=(.int .i64 q.1,.int .i64 q.2)
theorem aGy:∀(L:List VV) (i:Nat) (a b:Value),i<L.length->((prC L).set (i*2) a).set (i*2+1) b=prC (L.set i (a,b))
 |[],i,a,b,h=>by simp at h
 |x::L,0,a,b,_=>rfl
 |x::L,i+1,a,b,h=>by
  have d:=aGy L i a b (by simpa using h);have e:prC (x::L)=x.1::x.2::prC L:=rfl;rw[e,show(i+1)*2=i*2+2 by omega,bB,bB,bB,bB,d];rfl
def gO (w:World) (g:Nat) (l:List (Int×Int)) (R:List Value):Prop:=Arr w g 999983 (prC (l.map pr)++R)
theorem xZ (l:List (Int×Int)):(prC (l.map pr)).length=l.length*2:=by rw[TF,aS]
theorem gO.cells {w:World} {g:Nat} {l:List (Int×Int)} {R:List Value} (h:gO w g l R) {i:Nat} (d:i<l.length):
  w.cell? ⟨g,i*2,none⟩=some (.int .i64 (l.getD i (0,0)).1)/\w.cell? ⟨g,i*2+1,none⟩=some (.int .i64 (l.getD i (0,0)).2):=by
 have e:(l.map pr)[i]? =some (pr (l.getD i (0,0))):=by rw[eQ,aN d,bV,aN d];rfl
 obtain⟨A,D⟩:=ME _ _ _ e;have F:=xZ l;exact⟨Arr.cell h (by rw[nE (by omega)];exact A),Arr.cell h (by rw[nE (by omega)];exact D)⟩
theorem gO.put {w:World} {g:Nat} {l:List (Int×Int)} {R:List Value} (h:gO w g l R) {i:Nat} (d:i<l.length) (x:Int×Int):
  gO ((w.setCell ⟨g,i*2,none⟩ (.int .i64 x.1)).setCell ⟨g,i*2+1,none⟩ (.int .i64 x.2)) g (l.set i x) R:=by
 have:=(Arr.set h (i*2) (.int .i64 x.1)).set (i*2+1) (.int .i64 x.2);have e:=xZ l;rw[List.set_append_left _ _ (by omega),List.set_append_left _ _ (by rw[List.length_set];omega),aGy _ _ _ _ (by rw[aS];exact d)] at this;unfold gO;rw[List.map_set];exact this
abbrev rU:Value:=.func (.func 999983) #[] #[]
def QU (w:World) (p B:Nat) (l:List (Int×Int)):Prop:=∃v,Arr w p 999983 [v,rU]/\OwP w B 999983 v (l.map pr)
def KQ (p:Nat) (w w':World):Prop:=w.heap.size<=w'.heap.size/\∀k o,w.heap[k]? =some o->k≠p->(∀c d,o≠.cells c 999983 d)->w'.heap[k]? =some o
theorem KQ.refl (p:Nat) (w:World):KQ p w w:=⟨aD _,fun _ _ h _ _=>h⟩
theorem KQ.trans {p:Nat} {a b c:World} (h:KQ p a b) (k:KQ p b c):KQ p a c:=⟨aR h.1 k.1,fun i o A d e=>k.2 i o (h.2 i o A d e) d e⟩
theorem KQ.below {p:Nat} {w w':World} (h:Below w.heap.size w w'):KQ p w w':=⟨h.size,fun k _ d _ _=>(h.block k (fE.1 d).1).trans d⟩
theorem KQ.row {p g:Nat} {w w':World} {l:List (Int×Int)} {R:List Value} (d:gO w g l R) (h:w.grownBy w' (some g)):KQ p w w':=⟨h.size,fun k o A _ D=>by
 refine(h.block k (fE.1 A).1 (fun e=>?_)).trans A;obtain rfl:=cC e;unfold gO Arr at d;rw[A] at d;exact D _ _ (cC d)⟩
theorem KQ.box {p i:Nat} {w:World} (v:Value):KQ p w (w.setCell ⟨p,i,none⟩ v):=⟨by simp,fun k o d e _=>by rw[kF w ⟨p,i,none⟩ k v e];exact d⟩
theorem gO.take {w:World} {g:Nat} {l:List (Int×Int)} {R:List Value} (h:gO w g l R) (m:Nat):gO w g (l.take m) (prC ((l.drop m).map pr)++R):=by
 unfold gO at h ⊢;rw[<-List.append_assoc,<-aFg,<-dY,List.take_append_drop];exact h
theorem gO.grown {w w':World} {g z:Nat} {l:List (Int×Int)} {R:List Value} (h:gO w g l R) (d:w.grownBy w' (some z)) (A:g≠z):gO w' g l R:=Arr.grown h d (fun e=>A (cC e))
structure uY (p g z2 z3 m cap:Nat) (y:Int×Int) (L:List (Int×Int)) (R:List Value) (w W:World):Prop where
 box:Arr W p 999983 [.slice (some ⟨g,0,none⟩) m cap,rU]
 row:gO W g L R
 res:Arr W z2 999983 [.int .i64 0,.int .i64 0]
 top:Arr W z3 999983 [.int .i64 y.1,.int .i64 y.2]
 bel:Below p w W
 kq:KQ p w W
theorem uY.below {p g e A m cap:Nat} {y:Int×Int} {L:List (Int×Int)} {R:List Value} {w W D:World} (h:uY p g e A m cap y L R w W) (d:Below W.heap.size W D):uY p g e A m cap y L R w D:=
 ⟨h.box.below d h.box.lt,Arr.below h.row d (Arr.lt h.row),h.res.below d h.res.lt,h.top.below d h.top.lt,h.bel.trans (d.mono (nG h.box.lt)),h.kq.trans (KQ.below d)⟩
theorem uY.put {p g e A m cap:Nat} {y:Int×Int} {L:List (Int×Int)} {R:List Value} {w W D:World} (h:uY p g e A m cap y L R w W) (d:W.grownBy D (some g)) (I:g≠e) (J:g≠A) (M:p<g) {F:List (Int×Int)} (G:gO D g F R):uY p g e A m cap y F R w D:=
 ⟨h.box.grown d (by simp;omega),G,h.res.grown d (by simp;omega),h.top.grown d (by simp;omega),h.bel.grown d (nG h.box.lt) (fun k H=>by obtain rfl:=cC H;omega),h.kq.trans (KQ.row h.row d)⟩
theorem QU.below {w w':World} {p B:Nat} {l:List (Int×Int)} (h:QU w p B l) (d:Below w.heap.size w w'):QU w' p B l:=by
 obtain⟨v,e,A⟩:=h;exact⟨v,e.below d e.lt,A.below d (aD _)⟩
theorem QU.grown {w w':World} {p B b:Nat} {l:List (Int×Int)} {A:List Value} (h:QU w p B l) (D:Arr w b 3 A) (d:w.grownBy w' (some b)) (G:b≠p):QU w' p B l:=by
 obtain⟨v,F,e⟩:=h;refine⟨v,F.grown d (by simp;omega),e.kept d ?_⟩;exact .inr (MG D e (by decide)).symm
def QR (w:World) (p:Nat) (r:cE):Prop:=∃l,QU w p (p+1) l/\oG l/\l.Perm (rT r)
theorem QR.below {w w':World} {p:Nat} {r:cE} (h:QR w p r) (d:Below w.heap.size w w'):QR w' p r:=by
 obtain⟨l,e,A,D⟩:=h;exact⟨l,e.below d,A,D⟩
theorem QR.grown {w w':World} {p b:Nat} {r:cE} {d:List Value} (h:QR w p r) (e:Arr w b 3 d) (A:w.grownBy w' (some b)) (D:b≠p):QR w' p r:=by
 obtain⟨l,F,G,H⟩:=h;exact⟨l,F.grown e A D,G,H⟩
def nO (w:World) (B:Nat) (v:Value) (l:List Int):Prop:=∃b R,v=.slice (some ⟨b,0,none⟩) l.length l.length/\B<=b/\Arr w b 3 (l.map (Value.int .i64)++R)
theorem nO.rd {w:World} {B:Nat} {v:Value} {l:List Int} (h:nO w B v l) (A:l.length<=1000000):RdI w v l:=by
 obtain⟨b,R,rfl,D,e⟩:=h;refine⟨_,_,rfl,aD _,by unfold maxLen;omega,.inr ⟨b,0,rfl,e.lt,fun j d=>?_⟩⟩;rw[Nat.zero_add];exact e.cell (by rw[nE d,aN d,bV,aN d];rfl)
theorem nO.below {w w':World} {B:Nat} {v:Value} {l:List Int} (h:nO w B v l) (A:Below w.heap.size w w'):nO w' B v l:=by
 obtain⟨b,R,e,D,d⟩:=h;exact⟨b,R,e,D,d.below A d.lt⟩
theorem nO.base {w:World} {B d:Nat} {v:Value} {l:List Int} (h:nO w B v l) (A:d<=B):nO w d v l:=by
 obtain⟨b,R,e,D,F⟩:=h;exact⟨b,R,e,aR A D,F⟩
end
section
open Go.RowKit Go Go.Shelf
attribute [local go_sem] Oper.semAt_some
def KpA (d:Nat) (A B:World):Prop:=A.heap.size<=B.heap.size/\∀k o,(k=d\/k=d+1)->A.heap[k]? =some o->o.isCells=true->B.heap[k]? =some o
theorem KpA.trans {d:Nat} {A B C:World} (h:KpA d A B) (k:KpA d B C):KpA d A C:=by grind [KpA]
theorem KpA.put {d B:Nat} (_:d+1<B) (W:World) (l:Nat) (o e:Obj) (A:B<=l) (_:W.heap[l]? =some o) (_:o.isCells=false) (_:o.isWalk=false):KpA d W (W.putObj l e):=
 ⟨by simp,fun k q D h _=>by rw[World.putObj_heap_other (by omega)];exact h⟩
end
end Go.Proofs.YtfplbbphficcjaaGreatDoor
