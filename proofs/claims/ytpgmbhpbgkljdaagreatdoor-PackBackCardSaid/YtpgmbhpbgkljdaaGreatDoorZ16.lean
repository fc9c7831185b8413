/-
  Texts put together (part 16): the walks and the plain laws on which the statement stands.
-/
import Derived.Sort.BigQuietIn
import Derived.Sort.LoopGhostIn
import Derived.Sort.QuietIn
import Derived.Sort.CutIn
import Derived.Test.YtpgmbhpbgkljdaaGreatDoorZ13
set_option maxRecDepth 100000
set_option maxHeartbeats 12800000
open Array renaming getElem?_eq_some_iff->gQ,replicate_succ->lL,replicate_zero->lM
open Bool renaming noConfusion->tQ
open Go renaming CallsIn->mD,callsD_of_wpS->FY,callsIn_of_wp->tW,callsIn_of_wp_marks->xX,heap_setCell_other->kT,ownFrom_below->GT,run_takeDeferred->sJ,wpAnyH_ready->fL
open Go.Act renaming put->aJ
open Go.AllReadyH renaming cons->fA,nil->fM
open Go.Calls renaming quiet_of_same->OM
open Go.Exit renaming thenS->GA
open Go.Fence renaming wide->eA
open Go.Instr renaming typeAssert->BA
open Go.IntKind renaming i64->aI,wrap_i64->aM
open Go.KeepsOthers renaming drew->aC3,setCell->iH
open Go.Lib renaming OthersKept->GY,byteCells->nS
open Go.OwnFrom renaming and->GS
open Go.Proofs renaming enters_of->fN
open Go.RowKit.Below renaming refl->aB
open Go.Value renaming slice->lK
open Go.World renaming cell?_setCell_other->iQ,size_alloc->fV
open List renaming append_assoc->cF,append_nil->eE,append_toArray->lO,cons_append->gE,drop_zero->AP,flatMap_append->pZ,flatMap_singleton->AN,getElem?_cons_zero->aP,getElem?_toArray->aR,length_append->aL,length_cons->cR,length_drop->cI,length_eq_zero_iff->mV,length_nil->cX,length_take->aX,nil_append->iG,push_toArray->lN,setIfInBounds_toArray->aK,set_cons_succ->aG,set_cons_zero->aH,size_toArray->mY
open Nat renaming le_refl->aA,le_succ->pI,reduceAdd->lZ,reduceSub->mZ,sub_zero->AF
open Option.some renaming inj->bW,injEq->iP
open UInt8 renaming ofNat->eK
namespace Go.Proofs.YtpgmbhpbgkljdaaGreatDoor
section
open Go.RowKit Go Go.Shelf
def ER (E:Int):List PanicEntry:=[{v:=.iface 306 (.agg #[.int .i64 E]),recovered:=false}]
def DRd (w:World) (b:Nat) (s:ByteArray) (a:Nat):Prop:=Arr w b 309 [.string s,.int .i64 (a:Int)]
theorem MK (b:Nat) (s:ByteArray) (a k:Nat) (W:World) (hA:DRd W b s a) (hs:s.size<=1000000) (hk:k<=40) (ha:a<=100000000):
  Calls Tryz.prog 215 #[.pointer (some ⟨b,0,none⟩),.int .i64 (k:Int)] W fun e w'=>
   (aO s.size (a:Int) k=0/\e=.returned (.int .i64 (aE s.data.toList (a:Int) k:Int))/\DRd w' b s (a+k)/\W.grownBy w' (some b))\/(aO s.size (a:Int) k≠0/\e=.panicked (ER (aO s.size (a:Int) k))/\W.grownBy w' (some b)):=by
 have hget:=fun W=>sT s (a:Int) k W hs (by omega) (by omega) (by omega)
 have hVb:=iA s.data.toList (a:Int) k;have hVb2:aE s.data.toList (a:Int) k<1099511627776:=Nat.lt_of_lt_of_le hVb (Nat.le_trans (Nat.pow_le_pow_right (by decide) hk) (by decide));obtain⟨E,hE⟩:∃E,E=aO s.size (a:Int) k:=⟨_,rfl⟩;obtain⟨V,hV⟩:∃V,V=aE s.data.toList (a:Int) k:=⟨_,rfl⟩;rw[<-hE,<-hV];rw[<-hE,<-hV] at hget;rw[<-hV] at hVb2;have HE:=hid hE;clear hE hV hVb;have c0:=Arr.cell hA (i:=0) rfl;have c1:=Arr.cell hA (i:=1) rfl;have f1:=Arr.free hA 1;have m1:aI.wrap (V:Int)=(V:Int):=by rw[aM];omega
 have m2:aI.wrap ((a:Int)+(k:Int))=(a:Int)+(k:Int):=by rw[aM];omega
 go_enter Tryz.func215,Tryz.ntmps215
 by_cases h0:E=0
 ·subst h0;go_wp2_with fail
  go_quiet (first|(go_at_call 25;exact OM (hget _)))
  generalize hWn:W.drewN nq=W1 at*
  have hA1:DRd W1 b s a:=by rw[<-hWn];exact hA
  have hg1:W.grownBy W1 (some b):=by rw[<-hWn];exact⟨rfl,rfl,rfl,aA _,fun _ _ _=>rfl⟩
  have d1:=Arr.cell hA1 (i:=1) rfl;have g1:=Arr.free hA1 1;clear hWn;go_wp2_with fail;go_ret;exact⟨rfl,by have:=Arr.set hA1 1 (.int .i64 ((a:Int)+(k:Int)));unfold DRd;push_cast;exact this,gbT hg1 (gbS _ _ _ _)⟩
 ·have u1:(E != 0)=true:=by simpa using h0
  go_wp2_with fail
  go_quiet (first|(go_at_call 25;exact OM (hget _)))
  generalize hWn:W.drewN nq=W1 at*
  have hg1:W.grownBy W1 (some b):=by rw[<-hWn];exact⟨rfl,rfl,rfl,aA _,fun _ _ _=>rfl⟩
  clear hWn;go_wp2_with fail;exact⟨rfl,.inr ⟨h0,rfl,hg1⟩⟩
theorem ML (b:Nat) (n:Int) (W:World):Calls Tryz.prog 214 #[.pointer (some ⟨b,0,none⟩),.int .i64 n] W fun e w'=>
  ((1<=n/\n<=20)/\e=.returned (.int .i64 n)/\w'=W)\/(¬(1<=n/\n<=20)/\e=.panicked (ER 3)/\w'=W):=by
 have hmay:=ZM n
 by_cases h:1<=n/\n<=20
 ·have e1:(decide (1<=n)&&decide (n<=20))=true:=by simp[h.1,h.2]
  rw[e1] at hmay;have HH:=hid h;clear h e1;go_enter Tryz.func214,Tryz.ntmps214;go_wp2_with fail;refine(hmay _).mono ?_;rintro e w' ⟨rfl,rfl⟩;go_wp2_with fail;go_ret;exact .inl ⟨HH.out,rfl,rfl⟩
 ·have e1:(decide (1<=n)&&decide (n<=20))=false:=by
   rw[Bool.and_eq_false_iff];rcases Classical.em (1<=n) with q|q
   ·exact .inr (decide_eq_false (fun k=>h ⟨q,k⟩))
   ·exact .inl (decide_eq_false q)
  rw[e1] at hmay;have HH:=hid h;clear h e1;go_enter Tryz.func214,Tryz.ntmps214;go_wp2_with fail;refine(hmay _).mono ?_;rintro e w' ⟨rfl,rfl⟩;go_wp2_with fail;exact⟨rfl,.inr ⟨HH.out,rfl,rfl⟩⟩
theorem aPl (b:Nat) (s:ByteArray) (a:Nat) (n:Int) (W:World) (hA:DRd W b s a) (hs:s.size<=1000000) (ha:a<=90000010) (hn1:1<=n) (hn2:n<=20):
  Calls Tryz.prog 216 #[.pointer (some ⟨b,0,none⟩),.int .i64 n] W fun e w'=>
   ((eD s.data.toList (a:Int) n).2.2=0/\e=.returned (.int .i64 (eD s.data.toList (a:Int) n).1)/\(∃p:Nat,(eD s.data.toList (a:Int) n).2.1=(p:Int)/\DRd w' b s p)/\W.grownBy w' (some b))\/((eD s.data.toList (a:Int) n).2.2≠0/\e=.panicked (ER (eD s.data.toList (a:Int) n).2.2)/\W.grownBy w' (some b)):=by
 have HL:=hid (show s.data.toList.length=s.size by simp);obtain⟨R,hR⟩:∃R,R=eD s.data.toList (a:Int) n:=⟨_,rfl⟩;rw[<-hR];have HR:=hid hR.symm;clear hR;have hcf:∀(args:Array Value) (w:World),(callFunc 215 args).run Tryz.prog w=.ok (.enter 215 args) w:=fN Tryz.func215 (by kernel_rfl) rfl;go_enter Tryz.func216,Tryz.ntmps216;go_wp2_with fail
 go_loopg [1] (8*s.size+2-a) (fun g s1 wr=>∃(p:Nat) (m:Int),p<=90000012/\1<=m/\m<=20/\g=8*s.size+2-p/\s1=.int .i64 m/\Hid (eD s.data.toList (p:Int) m=R)/\DRd wr b s p/\W.grownBy wr (some b))
 case atStart=>exact⟨a,n,by omega,hn1,hn2,rfl,rfl,HR,hA,⟨rfl,rfl,rfl,aA _,fun _ _ _=>rfl⟩⟩
 case round=>
  obtain⟨p,m,hp,hm1,hm2,hg,rfl,HP,hAr,hgr⟩:=hrel;have HG:=hid hg;clear hg;have hst:=wF s.data.toList (p:Int) m (by omega);rw[HP.out,HL.out] at hst;have hn1':=MK b s p 1 wr hAr hs (by decide) (by omega);have hok1:=fQ (n:=s.size) (at':=(p:Int)) (k:=1);have hok2:=fQ (n:=s.size) (at':=((p:Int)+1)) (k:=1);have hv1:=iA s.data.toList (p:Int) 1;have hv2:=iA s.data.toList ((p:Int)+1) 1;have hnum2:=fun W1 (h:DRd W1 b s (p+1))=>MK b s (p+1) 1 W1 h hs (by decide) (by omega)
  push_cast at hnum2;obtain⟨E1,hE1⟩:∃E1,E1=aO s.size (p:Int) 1:=⟨_,rfl⟩;obtain⟨V1,hV1⟩:∃V1,V1=aE s.data.toList (p:Int) 1:=⟨_,rfl⟩;obtain⟨E2,hE2⟩:∃E2,E2=aO s.size ((p:Int)+1) 1:=⟨_,rfl⟩;obtain⟨V2,hV2⟩:∃V2,V2=aE s.data.toList ((p:Int)+1) 1:=⟨_,rfl⟩;rw[<-hE1,<-hV1,<-hE2,<-hV2] at hst;rw[<-hE1,<-hV1] at hn1';rw[<-hE1] at hok1;rw[<-hE2] at hok2;rw[<-hV1] at hv1;rw[<-hV2] at hv2;simp only[<-hE2,<-hV2] at hnum2;have hv1:V1<2:=hv1;have hv2:V2<2:=hv2;have HN2:=hid hnum2;clear hE1 hV1 hE2 hV2 hnum2;go_wp2_with fail;refine hn1'.mono ?_;rintro e w1 (⟨h1,rfl,hA1,hg1⟩|⟨h1,rfl,hg1⟩)
  ·subst h1;rw[if_neg (fun k=>k rfl)] at hst;have hok1:=hok1 rfl
   by_cases h2:V1=0
   ·subst h2;rw[if_pos rfl] at hst;have HS:=hid hst;clear hst;go_wp2_with fail;go_ret;exact .inl ⟨by rw[HS.out],by rw[HS.out];rfl,⟨p+1,by rw[HS.out];push_cast;rfl,hA1⟩,gbT hgr hg1⟩
   ·obtain rfl:V1=1:=by omega
    rw[if_neg h2] at hst;clear h2;have hm6:aI.wrap (m+1)=m+1:=by rw[aM];omega
    go_wp2_with fail;refine(HN2.out w1 hA1).mono ?_;rintro e w2 (⟨h3,rfl,hA2,hg2⟩|⟨h3,rfl,hg2⟩)
    ·subst h3;rw[if_neg (fun k=>k rfl)] at hst;have hok2:=hok2 rfl;have hgW:=gbT (gbT hgr hg1) hg2
     by_cases h4:V2=0
     ·subst h4;rw[if_pos rfl] at hst;have HST:=hid hst;have hfit:=ML b (m+1);clear hst hn1';go_wp2_with fail;refine(hfit _).mono ?_;rintro e w3 (⟨h5,rfl,rfl⟩|⟨h5,rfl,rfl⟩)
      ·have HS:=hid (show eD s.data.toList ((p:Int)+2) (m+1)=R by rw[HST.out,if_neg (by omega)]);go_wp2_with fail;have hg:=HG.out
       go_roundg (8*s.size+2-(p+2))
       case measure=>omega
       case rel=>exact⟨p+2,m+1,by omega,by omega,by omega,rfl,rfl,by have:=HS;push_cast;exact this,hA2,hgW⟩
      ·have HS:=hid (show R=(0,0,3) by rw[HST.out,if_pos (by omega)]);exact⟨rfl,.inr ⟨by rw[HS.out];exact(by decide:(3:Int)≠0),by rw[HS.out],hgW⟩⟩
     ·obtain rfl:V2=1:=by omega
      rw[if_neg h4] at hst;have HST:=hid hst;have hfit:=ML b (m-1);have hm7:aI.wrap (m+1-2)=m-1:=by rw[aM];omega
      have hm8:m+1-2=m-1:=by omega
      have hm9:aI.wrap (m-1)=m-1:=by rw[aM];omega
      clear hst hn1' h4;go_wp2_with fail;refine(hfit _).mono ?_;rintro e w3 (⟨h5,rfl,rfl⟩|⟨h5,rfl,rfl⟩)
      ·have HS:=hid (show eD s.data.toList ((p:Int)+2) (m-1)=R by rw[HST.out,if_neg (by omega)]);go_wp2_with fail;have hg:=HG.out
       go_roundg (8*s.size+2-(p+2))
       case measure=>omega
       case rel=>exact⟨p+2,m-1,by omega,by omega,by omega,rfl,rfl,by have:=HS;push_cast;exact this,hA2,hgW⟩
      ·have HS:=hid (show R=(0,0,3) by rw[HST.out,if_pos (by omega)]);exact⟨rfl,.inr ⟨by rw[HS.out];exact(by decide:(3:Int)≠0),by rw[HS.out],hgW⟩⟩
    ·rw[if_pos h3] at hst;have HS:=hid hst;exact⟨rfl,.inr ⟨by rw[HS.out];exact h3,by rw[HS.out],gbT (gbT hgr hg1) hg2⟩⟩
  ·rw[if_pos h1] at hst;have HS:=hid hst;exact⟨rfl,.inr ⟨by rw[HS.out];exact h1,by rw[HS.out],gbT hgr hg1⟩⟩
theorem aPm (p q r:Addr) (w:World):
  CallsD Tryz.prog 213 #[.pointer (some p),.pointer (some q),.pointer (some r)] .returning w fun e u' w'=>e=.returned (.tuple #[])/\u'=.returning/\w'=w:=by
 refine FY Tryz.func213 rfl fun c₀ cs hu=>?_
 apply wpS_seq;apply wpS_region;simp[wpOpsS,go_sem,recoverD,hu,Tryz.ntmps213,GA];refine wpS_of_wp ?_;go_wp2
 cases c₀
 simp_all [bodyPostS,results,Tryz.f213]
theorem tH {b c o p:Nat} (h:b≠c):(⟨b,o,none⟩:Addr)≠⟨c,p,none⟩:=fun e=>h (congrArg Addr.block e)
theorem aPn (v:Value) (xT:TypeId) (w:World):(BA (.iface 306 v) xT 306 true).run Tryz.prog w=.ok (.tuple #[v,.bool true]) w:=by
 simp[BA,run_underlying Tryz.underlying306]
theorem aPo (z:Nat) (E:Int) (older:List PanicEntry) (w:World) (x6 x7 x8:Value) (g6:Arr w z 39 [x6]) (g7:Arr w (z+1) 3 [x7]) (g8:Arr w (z+1+1) 26 [x8]):
  CallsD Tryz.prog 213 #[.pointer (some ⟨z,0,none⟩),.pointer (some ⟨z+1,0,none⟩),.pointer (some ⟨z+1+1,0,none⟩)] (.panicking ({v:=.iface 306 (.agg #[.int .i64 E]),recovered:=false}::older)) w fun e u' w'=>
   e=.returned (.tuple #[])/\u'=.panicking ({v:=.iface 306 (.agg #[.int .i64 E]),recovered:=true}::older)/\Arr w' z 39 [.slice none 0 0]/\Arr w' (z+1) 3 [.int .i64 0]/\Arr w' (z+1+1) 26 [.int .i64 E]/\Below z w w':=by
 have e6:=g6.cell (i:=0) rfl;have e7:=g7.cell (i:=0) rfl;have e8:=g8.cell (i:=0) rfl;have f6:=g6.free 0;have f7:=g7.free 0;have f8:=g8.free 0;refine FY Tryz.func213 rfl fun c₀ cs hu=>?_
 apply wpS_seq;apply wpS_region;simp[wpOpsS,go_sem,recoverD,hu,Tryz.ntmps213,GA];refine wpS_of_wp ?_;simp only[lL,lM,lN,lO,iG,gE,aK,aH,aG];have hta:=aPn (.agg #[.int .i64 E]);go_wp2_with fail;have g6':=g6.alloc (.cells #[.int .i64 E] 306);have g7':=g7.alloc (.cells #[.int .i64 E] 306);have g8':=g8.alloc (.cells #[.int .i64 E] 306);have hc0:=bS w (.int .i64 E) 306;have hzl:=g8.lt
 have hBz:Below z w (w.alloc (.cells #[.int .i64 E] 306)):=(aB z w).alloc (by omega) _;generalize w.alloc (.cells #[.int .i64 E] 306)=w1 at*
 obtain⟨sb,hsb⟩:∃sb,sb=w.heap.size:=⟨_,rfl⟩;rw[<-hsb] at hc0 hzl ⊢;clear e6 e7 e8 f6 f7 f8 hsb g6 g7 g8;have hBd:=hBz.drew;have h6:Arr w1.drew z 39 [x6]:=g6';have h7:Arr w1.drew (z+1) 3 [x7]:=g7';have h8:Arr w1.drew (z+1+1) 26 [x8]:=g8';have hS0:w1.drew.cell? ⟨sb,0,none⟩=some (.int .i64 E):=hc0;refine wp_region_held_drew (S:=fun w'=>w'.cell? ⟨sb,0,none⟩=some (.int .i64 E)) (by kernel_rfl) hc0 (fun hHeld=>?_);generalize w1.drew=w2 at*
 have k7:=h7.other ⟨z,0,none⟩ (by show _≠_;simp only[ne_eq];omega) (.slice none 0 0);have k8:=(h8.other ⟨z,0,none⟩ (by show _≠_;simp only[ne_eq];omega) (.slice none 0 0)).other ⟨z+1,0,none⟩ (by show _≠_;simp only[ne_eq];omega) (.int .i64 0);have e6:=h6.cell (i:=0) rfl;have e7:=k7.cell (i:=0) rfl;have e8:=k8.cell (i:=0) rfl;have f6:=h6.free 0;have f7:=k7.free 0;have f8:=k8.free 0;have hS1:(w2.setCell ⟨z,0,none⟩ (.slice none 0 0)).cell? ⟨sb,0,none⟩=some (.int .i64 E):=by rw[iQ _ _ _ _ (tH (by omega))];exact hS0
 have hS2:((w2.setCell ⟨z,0,none⟩ (.slice none 0 0)).setCell ⟨z+1,0,none⟩ (.int .i64 0)).cell? ⟨sb,0,none⟩=some (.int .i64 E):=by rw[iQ _ _ _ _ (tH (by omega))];exact hS1
 have hS3:(((w2.setCell ⟨z,0,none⟩ (.slice none 0 0)).setCell ⟨z+1,0,none⟩ (.int .i64 0)).setCell ⟨z+1+1,0,none⟩ (.int .i64 E)).cell? ⟨sb,0,none⟩=some (.int .i64 E):=by rw[iQ _ _ _ _ (tH (by omega))];exact hS2
 have q6:Arr (((w2.setCell ⟨z,0,none⟩ (.slice none 0 0)).setCell ⟨z+1,0,none⟩ (.int .i64 0)).setCell ⟨z+1+1,0,none⟩ (.int .i64 E)) z 39 [.slice none 0 0]:=((h6.set 0 _).other _ (by show _≠_;simp only[ne_eq];omega) _).other _ (by show _≠_;simp only[ne_eq];omega) _;have q7:Arr (((w2.setCell ⟨z,0,none⟩ (.slice none 0 0)).setCell ⟨z+1,0,none⟩ (.int .i64 0)).setCell ⟨z+1+1,0,none⟩ (.int .i64 E)) (z+1) 3 [.int .i64 0]:=(k7.set 0 _).other _ (by show _≠_;simp only[ne_eq];omega) _
 have q8:Arr (((w2.setCell ⟨z,0,none⟩ (.slice none 0 0)).setCell ⟨z+1,0,none⟩ (.int .i64 0)).setCell ⟨z+1+1,0,none⟩ (.int .i64 E)) (z+1+1) 26 [.int .i64 E]:=k8.set 0 _;have hBf:Below z w (((w2.setCell ⟨z,0,none⟩ (.slice none 0 0)).setCell ⟨z+1,0,none⟩ (.int .i64 0)).setCell ⟨z+1+1,0,none⟩ (.int .i64 E)):=((hBd.setCell (p:=⟨z,0,none⟩) (aA _) _).setCell (p:=⟨z+1,0,none⟩) (pI _) _).setCell (p:=⟨z+1+1,0,none⟩) (by show z<=z+1+1;omega) _;refine wpAnyH_take (i:=0) (oi:=?oi0) (v:=?v0) ?hi0 (by kernel_rfl) (by kernel_rfl) (by kernel_rfl) ?hq0 ?hy0 (by assumption) ?_
 case hi0=>(simp only[aR,aP];rfl)
 case hq0=>exact fun _ _ _ h=>h
 case hy0=>(refine Or.inl ⟨by rfl,?_⟩;intro w' hSw;(try dsimp only at hSw);(try go_simp);try with_reducible rfl)
 try simp only[aJ,aK,aH,aG]
 refine wpAnyH_take (i:=1) (oi:=?oi1) (v:=?v1) ?hi1 (by kernel_rfl) (by kernel_rfl) (by kernel_rfl) ?hq1 ?hy1 (by assumption) ?_
 case hi1=>(simp only[aR,List.getElem?_cons_succ,aP];rfl)
 case hq1=>exact fun _ _ _ h=>h
 case hy1=>(refine Or.inl ⟨by rfl,?_⟩;intro w' hSw;(try dsimp only at hSw);(try go_simp);try with_reducible rfl)
 try simp only[aJ,aK,aH,aG]
 refine fL (rs:=[2]) (by kernel_rfl) (by simp) ?_;refine fA rfl (fun K hK=>?_) fM;go_simp;refine hK.out _ _ ?_ (fun _=>?_)
 ·first|exact hS1|exact hS2|exact hS3
 try simp only[aJ,aK,aH,aG]
 refine fL (rs:=[3]) (by kernel_rfl) (by simp) ?_;refine fA rfl (fun K hK=>?_) fM;go_simp;refine hK.out _ _ ?_ (fun _=>?_)
 ·first|exact hS1|exact hS2|exact hS3
 try simp only[aJ,aK,aH,aG]
 refine fL (rs:=[4]) (by kernel_rfl) (by simp) ?_;refine fA rfl (fun K hK=>?_) fM;go_simp;refine hK.out _ _ ?_ (fun _=>?_)
 ·first|exact hS1|exact hS2|exact hS3
 try simp only[aJ,aK,aH,aG]
 refine wpAnyH_done (by kernel_rfl) ?_ _;go_wp2_with fail;refine⟨rfl,.panicking ({v:=.iface 306 (.agg #[.int .i64 E]),recovered:=true}::older),?_,.tuple #[],?_,rfl,rfl,q6,q7,q8,hBf⟩
 ·first|rfl|(cases c₀;simp_all)
 ·simp[results,Tryz.f213]
theorem ZS {P:Program} {fn:Func} {p q r:Tmp} {tx ty tz:TypeId} (h:fn.results=#[.cell p tx,.cell q ty,.cell r tz]) (tmps:Array Value) (w:World) (ax ay az:Addr) (vx vy vz:Value)
  (hp:tmps.getD p undef=.pointer (some ax)) (hq:tmps.getD q undef=.pointer (some ay)) (hr:tmps.getD r undef=.pointer (some az))
  (hx:(loadVar tx ax).run P w=.ok vx w) (hy:(loadVar ty ay).run P w=.ok vy w) (hz:(loadVar tz az).run P w=.ok vz w):
  (results fn tmps).run P w=.ok (.tuple #[vx,vy,vz]) w:=by
 have hp':tmps[p]?.getD undef=.pointer (some ax):=by simpa using hp
 have hq':tmps[q]?.getD undef=.pointer (some ay):=by simpa using hq
 have hr':tmps[r]?.getD undef=.pointer (some az):=by simpa using hr
 simp[results,h,hp',hq',hr',asAddr,hx,hy,hz,Result.andThen]
theorem MM {w W:World} {s:List UInt8} {a n z:Nat} {E:Int} {tmps:Array Value} {x6 x7 x8:Value} (h:eJ s (a:Int) (n:Int)=([],0,E)) (hz:w.heap.size=z)
  (g6:Arr W z 39 [x6]) (g7:Arr W (z+1) 3 [x7]) (g8:Arr W (z+1+1) 26 [x8]) (hb:Below z w W)
  (t6:tmps.getD 6 undef=.pointer (some ⟨z,0,none⟩)) (t7:tmps.getD 7 undef=.pointer (some ⟨z+1,0,none⟩)) (t8:tmps.getD 8 undef=.pointer (some ⟨z+1+1,0,none⟩)):
  Leaves Tryz.prog Tryz.f193 tmps (fun e w'=>wM w w' s a n e) [{target:=.fn (.func 213) #[.pointer (some ⟨z,0,none⟩),.pointer (some ⟨z+1,0,none⟩),.pointer (some ⟨z+1+1,0,none⟩)],args:=#[]}] (.panicking (ER E)) W:=by
 refine leaves_cons (f:=213) (args:=#[.pointer (some ⟨z,0,none⟩),.pointer (some ⟨z+1,0,none⟩),.pointer (some ⟨z+1+1,0,none⟩)]) (by simp) (by simp[go_sem]) ?_;refine(aPo z E [] W x6 x7 x8 g6 g7 g8).mono ?_;rintro e u' w' ⟨rfl,rfl,h6,h7,h8,hb'⟩;have c6:=h6.cell (i:=0) rfl;have c7:=h7.cell (i:=0) rfl;have c8:=h8.cell (i:=0) rfl;refine⟨_,ZS rfl tmps w' _ _ _ (.slice none 0 0) (.int .i64 0) (.int .i64 E) t6 t7 t8 (by simp[go_sem,c6]) (by simp[go_sem,c7]) (by simp[go_sem,c8]),?_⟩;exact yY h (hz▸hb.trans hb')
theorem aPp (w:World) (t1 t2 t3:TypeId) (v1 v2 v3:Value):∀W,W=((w.alloc (.cells #[v1] t1)).alloc (.cells #[v2] t2)).alloc (.cells #[v3] t3)->
  (Arr W w.heap.size t1 [v1]/\Arr W (w.heap.size+1) t2 [v2]/\Arr W (w.heap.size+1+1) t3 [v3])/\Below w.heap.size w W/\W.heap.size=w.heap.size+1+1+1:=by
 rintro W rfl;have a1:=Arr.new w t1 [v1];have a2:=Arr.new (w.alloc (.cells #[v1] t1)) t2 [v2];have a3:=Arr.new ((w.alloc (.cells #[v1] t1)).alloc (.cells #[v2] t2)) t3 [v3];have e:∀(W:World) (o:Obj),(W.alloc o).heap.size=W.heap.size+1:=fun W o=>by simp
 rw[e] at a2;rw[e,e] at a3;refine⟨⟨(a1.alloc _).alloc _,a2.alloc _,a3⟩,?_,by simp⟩;exact(((aB _ w).alloc (aA _) _).alloc (by simp) _).alloc (by simp;omega) _
theorem aPq (s:ByteArray) (a n:Nat) (w:World) (hs:s.size<=1000000) (ha:a<=90000000) (hn1:2<=n) (hn2:n<=258):
  Calls Tryz.prog 193 #[.string s,.int .i64 (a:Int),.int .i64 (n:Int)] w fun e w'=>wM w w' s.data.toList a n e:=by
 have HL:=hid (show s.data.toList.length=s.size by simp);have t1:decide ((a:Int)<0)=false:=decide_eq_false (by omega);have hmf:∀(fn:Fn) (first cap:Array Value) (w:World),(Instr.makeFunc fn first cap).run Tryz.prog w=.ok (.func fn first cap) w:=fun _ _ _ _=>rfl
 have HERR:=hid (fun k hk=>UF (s:=s.data.toList) (a:=a) (k:=k) hn1 hn2 hk);have HEQ:=hid (KO s.data.toList a n hn1 hn2);have h0:=UG s.data.toList (a:Int);rw[HL.out] at h0;have H0:=hid h0;clear h0;have hVb:=iA s.data.toList (a:Int) 5;have hok:=fQ (n:=s.size) (at':=(a:Int)) (k:=5);have hVb:aE s.data.toList (a:Int) 5<32:=hVb
 go_enter_defers Tryz.func193,Tryz.ntmps193
 go_wp2_with fail;refine(ZL n _ hn1 hn2).mono ?_;rintro e w' ⟨rfl,rfl⟩;obtain⟨⟨g6,g7,g8⟩,hB0,hz0⟩:=aPp w 39 3 26 (.slice none 0 0) (.int .i64 0) (.int .i64 0) _ rfl;generalize ((w.alloc (.cells #[.slice none 0 0] 39)).alloc (.cells #[.int .i64 0] 3)).alloc (.cells #[.int .i64 0] 26)=w0 at*
 obtain⟨z,hz⟩:∃z,w.heap.size=z:=⟨_,rfl⟩;rw[hz] at g6 g7 g8 hB0 hz0 ⊢;have HZ:=hid hz;clear hz;go_wp2_with fail;have hA0:DRd (w0.alloc (.cells #[.string s,.int .i64 (a:Int)] 309)) w0.heap.size s a:=Arr.new w0 309 [.string s,.int .i64 (a:Int)];have g6:=g6.alloc (.cells #[.string s,.int .i64 (a:Int)] 309);have g7:=g7.alloc (.cells #[.string s,.int .i64 (a:Int)] 309);have g8:=g8.alloc (.cells #[.string s,.int .i64 (a:Int)] 309);have hB1:=hB0.alloc (o:=.cells #[.string s,.int .i64 (a:Int)] 309) (by omega)
 have hz1:(w0.alloc (.cells #[.string s,.int .i64 (a:Int)] 309)).heap.size=z+1+1+1+1:=by simp[hz0]
 rw[hz0] at hA0;generalize w0.alloc (.cells #[.string s,.int .i64 (a:Int)] 309)=w1 at*
 clear hB0 hz0;refine(MK (z+1+1+1) s a 5 w1 hA0 hs (by decide) (by omega)).mono ?_;rintro e w2 (⟨h1,rfl,hA2,hg2⟩|⟨h1,rfl,hg2⟩)
 rotate_left
 ·have g6:=g6.grown hg2 (by simp only[ne_eq,iP];omega);have g7:=g7.grown hg2 (by simp only[ne_eq,iP];omega);have g8:=g8.grown hg2 (by simp only[ne_eq,iP];omega);have hB2:=hB1.grown hg2 (by omega) (fun k hk=>by obtain rfl:=bW hk;omega);have H:=H0.out;rw[if_pos h1] at H;have HF:=HERR.out 0 (by omega) (by rw[H];exact h1);rw[H] at HF;go_wp2_with fail;exact MM HF HZ.out g6 g7 g8 hB2 rfl rfl rfl
 have hok:=hok h1;have H:=H0.out;rw[if_neg (fun k=>k h1)] at H;obtain⟨V,hV⟩:∃V,V=aE s.data.toList (a:Int) 5:=⟨_,rfl⟩;rw[<-hV] at H hVb ⊢;clear hV h1;have g6:=g6.grown hg2 (by simp only[ne_eq,iP];omega);have g7:=g7.grown hg2 (by simp only[ne_eq,iP];omega);have g8:=g8.grown hg2 (by simp only[ne_eq,iP];omega);have hB2:=hB1.grown hg2 (by omega) (fun k hk=>by obtain rfl:=bW hk;omega);have hz2:z+1+1+1+1<=w2.heap.size:=by have:=hg2.size;omega
 clear hB1 hz1 hg2 hA0;go_wp2_with fail;refine(ML (z+1+1+1) (V:Int) w2).mono ?_;rintro e w3 (⟨h2,rfl,rfl⟩|⟨h2,rfl,rfl⟩)
 rotate_left
 ·rw[if_pos (by omega)] at H;have HF:=HERR.out 0 (by omega) (by rw[H];exact(by decide:(3:Int)≠0));rw[H] at HF;go_wp2_with fail;exact MM HF HZ.out g6 g7 g8 hB2 rfl rfl rfl
 rw[if_neg (by omega)] at H;have H0:=hid H;clear H;go_wp2_with fail
 go_loopg [10,28] n (fun g s10 s28 wr=>∃(k p:Nat) (m:Int) (v:Value),k<=n/\g=n-k/\s28=.int .i64 (k:Int)/\s10=.int .i64 m/\1<=m/\m<=20/\p<=90000005/\Hid ((aZ s.data.toList (a:Int) k).2.2.2=0/\(aZ s.data.toList (a:Int) k).2.1=m/\(aZ s.data.toList (a:Int) k).2.2.1=(p:Int)/\(aZ s.data.toList (a:Int) k).1.length=k)/\
  Arr wr z 39 [v]/\Arr wr (z+1) 3 [.int .i64 0]/\Arr wr (z+1+1) 26 [.int .i64 0]/\DRd wr (z+1+1+1) s p/\OwI wr (z+1+1+1+1) v (aZ s.data.toList (a:Int) k).1/\Below z w wr/\z+1+1+1+1<=wr.heap.size)
 case atStart=>exact⟨0,a+5,(V:Int),_,Nat.zero_le _,rfl,rfl,rfl,by omega,by omega,by omega,hid ⟨by rw[H0.out],by rw[H0.out],by rw[H0.out];push_cast;rfl,by rw[H0.out];rfl⟩,g6,g7,g8,hA2,by rw[H0.out];exact OwI.nil _ _,hB2,hz2⟩
 case round=>
  clear g6 g7 g8 hA2 hB2 hz2;obtain⟨k,p,m,v,hk,hg,rfl,rfl,hm1,hm2,hpb,HK,g6,g7,g8,hA,ho,hbel,hsz⟩:=hrel;have HG:=hid hg;clear hg
  by_cases hlt:k<n
  ·have v1:decide ((k:Int)<(n:Int))=true:=decide_eq_true (by omega);have hst:=UH HK.out.1;rw[HK.out.2.1,HK.out.2.2.1] at hst;have hcall:=aPl (z+1+1+1) s p m wr hA hs (by omega) hm1 hm2;have hAok:=DA s.data.toList (8*s.data.toList.length+2) (p:Int) m (by omega) hm1 hm2;rw[HL.out] at hAok;rw[show iB s.data.toList (8*s.size+2) (p:Int) m=eD s.data.toList (p:Int) m by unfold eD;rw[HL.out]] at hAok;obtain⟨q1,q2,q3,hq⟩:∃q1 q2 q3,eD s.data.toList (p:Int) m=(q1,q2,q3):=⟨_,_,_,rfl⟩;rw[hq] at hst hcall hAok;simp only at hst hcall hAok;clear hq;go_wp2_with fail
   refine hcall.mono ?_;rintro e w3 (⟨hq3,rfl,⟨p',hp',hA3⟩,hg3⟩|⟨hq3,rfl,hg3⟩)
   rotate_left
   ·rw[if_pos hq3] at hst;have HF:=HERR.out (k+1) (by omega) (by rw[hst];exact hq3);rw[hst] at HF;have g6:=g6.grown hg3 (by simp only[ne_eq,iP];omega);have g7:=g7.grown hg3 (by simp only[ne_eq,iP];omega);have g8:=g8.grown hg3 (by simp only[ne_eq,iP];omega);have hB3:=hbel.grown hg3 (by omega) (fun k hk=>by obtain rfl:=bW hk;omega);go_wp2_with fail;exact MM HF HZ.out g6 g7 g8 hB3 rfl rfl rfl
   subst hq3;subst hp';rw[if_neg (fun k=>k rfl)] at hst;obtain⟨a1,a2,a3,a4⟩:=hAok rfl;have HS:=hid hst;clear hst;have hol:(aZ s.data.toList (a:Int) k).1.length<=258:=by rw[HK.out.2.2.2];omega
   have g6:=g6.grown hg3 (by simp only[ne_eq,iP];omega);have g7:=g7.grown hg3 (by simp only[ne_eq,iP];omega);have g8:=g8.grown hg3 (by simp only[ne_eq,iP];omega);have hsz3:z+1+1+1+1<=w3.heap.size:=by have:=hg3.size;omega
   have ho3:OwI w3 (z+1+1+1+1) v (aZ s.data.toList (a:Int) k).1:=Ow.kept ho hg3 (by
    rcases hob:v.ownBlock with _|kb
    ·exact .inl rfl
    ·have:=(Ow.lt ho kb hob).1;refine .inr (fun e=>?_);have:=bW e;omega)
   have hB3:=hbel.grown hg3 (by omega) (fun k hk=>by obtain rfl:=bW hk;omega);have c6:=g6.cell (i:=0) rfl;clear ho hbel;have hzb:z<z+1+1+1+1:=by omega
   have hzb1:z+1<z+1+1+1+1:=by omega
   have hzb2:z+1+1<z+1+1+1+1:=by omega
   have hzb3:z+1+1+1<z+1+1+1+1:=by omega
   clear hcall hAok hok;go_wp2_with (at_builtin;refine eN rfl _ _ rfl (z+1+1+1+1) _ _ rfl (OwI.alloc ho3 _) _ q1 rfl (bS _ _ _) ?_ ?_ ?_;(omega);(simp;omega);intro v4 w4 r1 r2 r3;obtain⟨ad4,ca4,rfl,_,_,_⟩:=(OwI.rd r1).open;have f6:=((g6.alloc (.cells #[.int .i64 q1] 3)).below r2 hzb).free 0;have e6:=((g6.alloc (.cells #[.int .i64 q1] 3)).below r2 hzb).cell (i:=0) rfl);have k6:=((g6.alloc (.cells #[.int .i64 q1] 3)).below r2 hzb).set 0 (.slice ad4 ((aZ s.data.toList (a:Int) k).1.length+1) ca4)
   have k7:=((g7.alloc (.cells #[.int .i64 q1] 3)).below r2 hzb1).other ⟨z,0,none⟩ (by show _≠_;simp only[ne_eq];omega) (.slice ad4 ((aZ s.data.toList (a:Int) k).1.length+1) ca4);have k8:=((g8.alloc (.cells #[.int .i64 q1] 3)).below r2 hzb2).other ⟨z,0,none⟩ (by show _≠_;simp only[ne_eq];omega) (.slice ad4 ((aZ s.data.toList (a:Int) k).1.length+1) ca4);have kA:=((Arr.alloc hA3 (.cells #[.int .i64 q1] 3)).below r2 hzb3).other ⟨z,0,none⟩ (by show _≠_;simp only[ne_eq];omega) (.slice ad4 ((aZ s.data.toList (a:Int) k).1.length+1) ca4)
   have kB:=((hB3.alloc (o:=.cells #[.int .i64 q1] 3) (by omega)).trans (r2.mono (by omega))).setCell (p:=⟨z,0,none⟩) (aA _) (.slice ad4 ((aZ s.data.toList (a:Int) k).1.length+1) ca4);have hg:=HG.out
   go_roundg (n-(k+1))
   case measure=>omega
   case rel=>
    refine⟨k+1,p',q1,_,by omega,rfl,by go_num,rfl,a1,a2,by omega,hid ⟨by rw[HS.out],by rw[HS.out],by rw[HS.out],by rw[HS.out,aL,HK.out.2.2.2];rfl⟩,k6,k7,k8,kA,?_,kB,?_⟩
    ·rw[HS.out];rw[aL] at r1;refine Ow.kept r1 (gbS w4 z 0 _) ?_;rcases hob:(lK ad4 ((aZ s.data.toList (a:Int) k).1.length+[q1].length) ca4).ownBlock with _|kb
     ·exact .inl rfl
     ·have:=(Ow.lt r1 kb hob).1;refine .inr (fun e=>?_);have:=bW e;omega
    ·have:=r2.size;simp only[fV] at this;simp only[World.size_setCell];omega
  ·have v1:decide ((k:Int)<(n:Int))=false:=decide_eq_false (by omega);have hke:k=n:=by omega
   subst hke;have hEQ:=HEQ.out;rw[if_neg (fun q=>q HK.out.1),HK.out.2.2.1] at hEQ;have HF:=hid hEQ;obtain⟨adv,cav,rfl,_,_,_⟩:=(OwI.rd ho).open;have c6:=g6.cell (i:=0) rfl;have c7:=g7.cell (i:=0) rfl;have c8:=g8.cell (i:=0) rfl;have f6:=g6.free 0;have f7:=g7.free 0;have f8:=g8.free 0;have d0:=Arr.cell hA (i:=0) rfl;have d1:=Arr.cell hA (i:=1) rfl;clear hEQ hok;go_wp2_with fail
   go_region
   go_wp2_with fail;refine leaves_cons (f:=213) (args:=#[.pointer (some ⟨z,0,none⟩),.pointer (some ⟨z+1,0,none⟩),.pointer (some ⟨z+1+1,0,none⟩)]) (by simp) (by simp[go_sem]) ?_;refine(aPm ⟨z,0,none⟩ ⟨z+1,0,none⟩ ⟨z+1+1,0,none⟩ _).mono ?_;rintro e u' w'' ⟨rfl,rfl,rfl⟩;have hb3:=HZ.out;have k6:=((g6.set 0 (.slice adv (aZ s.data.toList (a:Int) k).1.length cav)).other ⟨z+1,0,none⟩ (by show _≠_;simp only[ne_eq];omega) (.int .i64 (p:Int))).other ⟨z+1+1,0,none⟩ (by show _≠_;simp only[ne_eq];omega) (.int .i64 0)
   have k7:=((g7.other ⟨z,0,none⟩ (by show _≠_;simp only[ne_eq];omega) (.slice adv (aZ s.data.toList (a:Int) k).1.length cav)).set 0 (.int .i64 (p:Int))).other ⟨z+1+1,0,none⟩ (by show _≠_;simp only[ne_eq];omega) (.int .i64 0);have k8:=((g8.other ⟨z,0,none⟩ (by show _≠_;simp only[ne_eq];omega) (.slice adv (aZ s.data.toList (a:Int) k).1.length cav)).other ⟨z+1,0,none⟩ (by show _≠_;simp only[ne_eq];omega) (.int .i64 (p:Int))).set 0 (.int .i64 0)
   have kB:=((hbel.setCell (p:=⟨z,0,none⟩) (aA _) (.slice adv (aZ s.data.toList (a:Int) k).1.length cav)).setCell (p:=⟨z+1,0,none⟩) (pI _) (.int .i64 (p:Int))).setCell (p:=⟨z+1+1,0,none⟩) (by show z<=z+1+1;omega) (.int .i64 0);have kv:∀(q:Nat) (V:Value) (W:World),q<z+1+1+1+1->OwI W (z+1+1+1+1) (lK adv (aZ s.data.toList (a:Int) k).1.length cav) (aZ s.data.toList (a:Int) k).1->OwI (W.setCell ⟨q,0,none⟩ V) (z+1+1+1+1) (lK adv (aZ s.data.toList (a:Int) k).1.length cav) (aZ s.data.toList (a:Int) k).1:=fun q V W hq h=>by
    refine Ow.kept h (gbS W q 0 V) ?_;rcases hob:(lK adv (aZ s.data.toList (a:Int) k).1.length cav).ownBlock with _|kb
    ·exact .inl rfl
    ·have:=(Ow.lt h kb hob).1;refine .inr (fun e=>?_);have:=bW e;omega
   have kO:=kv (z+1+1) (.int .i64 0) _ (by omega) (kv (z+1) (.int .i64 (p:Int)) _ (by omega) (kv z (.slice adv (aZ s.data.toList (a:Int) k).1.length cav) _ (by omega) ho));generalize ((wr.setCell ⟨z,0,none⟩ (.slice adv (aZ s.data.toList (a:Int) k).1.length cav)).setCell ⟨z+1,0,none⟩ (.int .i64 (p:Int))).setCell ⟨z+1+1,0,none⟩ (.int .i64 0)=w5 at*
   have k6:Arr w5.drew z 39 [.slice adv (aZ s.data.toList (a:Int) k).1.length cav]:=k6;have k7:Arr w5.drew (z+1) 3 [.int .i64 (p:Int)]:=k7;have k8:Arr w5.drew (z+1+1) 26 [.int .i64 0]:=k8;have kO:OwI w5.drew (z+1+1+1+1) (.slice adv (aZ s.data.toList (a:Int) k).1.length cav) (aZ s.data.toList (a:Int) k).1:=kO;have kB:=kB.drew;generalize w5.drew=w6 at*
   have c6:=k6.cell (i:=0) rfl;have c7:=k7.cell (i:=0) rfl;have c8:=k8.cell (i:=0) rfl;refine⟨_,ZS rfl _ w6 ⟨z,0,none⟩ ⟨z+1,0,none⟩ ⟨z+1+1,0,none⟩ (.slice adv (aZ s.data.toList (a:Int) k).1.length cav) (.int .i64 (p:Int)) (.int .i64 0) rfl rfl rfl (by simp[go_sem,c6]) (by simp[go_sem,c7]) (by simp[go_sem,c8]),?_⟩;exact⟨_,by rw[HF.out],by rw[HF.out];exact Ow.base kO (by omega),by rw[hb3];exact kB⟩
end
section
open Go.RowKit Go Go.Shelf
attribute [local go_sem] Oper.semAt_some
def vE:Nat->List UInt8->List (List UInt8)
 |0,_=>[]
 |_+1,[]=>[]
 |f+1,c::r=>(c::r).take (dX (c::r))::vE f ((c::r).drop (dX (c::r)))
theorem aBc:∀f g s,s.length<=f->s.length<=g->vE f s=vE g s
 |0,g,s,hf,hg=>by
  have:s=[]:=mV.1 (by omega);subst this
  cases g<;>rfl
 |f+1,0,s,hf,hg=>by
  have:s=[]:=mV.1 (by omega);subst this;rfl
 |f+1,g+1,[],_,_=>rfl
 |f+1,g+1,c::r,hf,hg=>by
  unfold vE;have:=pS (c::r) (by simp);rw[aBc f g _ (by rw[cI];simp only[cR] at*;omega) (by rw[cI];simp only[cR] at*;omega)]
def jX (s:List UInt8):List (List UInt8):=vE s.length s
theorem MZ:jX []=[]:=rfl
theorem NA (s:List UInt8) (h:s≠[]):jX s=s.take (dX s)::jX (s.drop (dX s)):=by
 cases s with
 |nil=>exact absurd rfl h
 |cons c r=>
  have:=pS (c::r) h;show vE (r.length+1) (c::r)=_;unfold vE jX;rw[aBc r.length ((c::r).drop (dX (c::r))).length _ (by rw[cI];simp only[cR] at*;omega) (aA _)]
def zX (x:List UInt8):Array Value:=#[.string (mkS x)]
theorem NB {B:Nat} {J:List (List UInt8)->World->Prop} (h:AbidesFrom B J) {s:List (List UInt8)} {A:World} (hs:J s A) (k:Nat):J s (A.drewN k):=
 h s A _ none hs ⟨rfl,rfl,rfl,aA _,fun _ _ _=>rfl⟩ (fun r e=>by cases e)
theorem aR0 (n:Nat) (hn:1<=n) (l Bs n₀:Nat) (all:ByteArray) (hall:all.size<=1000000) (J:List (List UInt8)->World->Prop) (hJb:∀s A v,J s A->J s (A.setCell ⟨Bs,0,none⟩ v)) (B:Nat) (hJa:AbidesFrom B J)
  (hY:∀pre x W1,J pre W1->(∃r,pre++x::r=jX all.data.toList)->YieldAt eA (n-1) Tryz.prog l (zX x) W1 fun e W'=>e=.returned (.bool true)/\J (pre++[x]) W'/\KpB n₀ Bs W1 W')
  (W:World) (hA:Arr W Bs 9 [.string all]) (h0:J [] W):
  mD eA n Tryz.prog 90 #[.func (.yield l) #[] #[],.pointer (some ⟨Bs,0,none⟩)] W fun e W'=>(∃v,e=.returned v)/\J (jX all.data.toList) W':=by
 refine tW Tryz.func90 rfl trivial ?_ rfl;simp only[Tryz.ntmps90,mY,cR,cX,lZ,mZ,lL,lM,lN,lO,iG,gE];have HALL:=hid (show ∃L,L=jX all.data.toList from⟨_,rfl⟩)
 gi_wp2_with fail
 gi_loopg [3] all.size (fun g _s3 wr=>∃(pre:List (List UInt8)) (s:ByteArray),g=s.size/\s.size<=1000000/\pre++jX s.data.toList=jX all.data.toList/\J pre wr/\Arr wr Bs 9 [.string s])
 case atStart=>exact⟨[],all,rfl,hall,rfl,h0,hA⟩
 case round=>
  obtain⟨pre,s,hg,hr6,hp,hJ,hA⟩:=hrel;have HG:=hid hg;have HP:=hid hp;have HL:=hid (show s.data.toList.length=s.size by simp);clear hg hp;have c0:=hA.cell (i:=0) rfl
  by_cases hne:s.data.toList=[]
  ·have te:s.toList.isEmpty=true:=by rw[Lib.toList_data,hne];rfl
   have hp:=HP.out;rw[hne,MZ,eE] at hp;have HP2:=hid hp;clear hp HP hne
   gi_wp2_with fail
   go_end0
   exact⟨⟨_,rfl⟩,by rw[<-HP2.out];exact hJ⟩
  ·have hrl:0<s.size:=by rw[<-HL.out];exact List.length_pos_iff.2 hne
   have te:s.toList.isEmpty=false:=LR hne;have HNE:=hid hne;clear hne
   gi_wp2_with fail
   gi_loopg [3] 255 (fun g s3 wx=>∃k:Nat,1<=k/\k<=255/\k<=s.size/\g=256-k/\s3=.int .i64 (k:Int)/\Hid (∀j,j<k->s.data.toList[j]? =s.data.toList[0]?)/\J pre wx/\Arr wx Bs 9 [.string s])
   case atStart=>exact⟨1,by omega,by omega,by omega,by omega,rfl,hid (fun j hj=>by rw[show j=0 by omega]),hJ,hA⟩
   case round=>
    obtain⟨k,hk1,hk2,hk3,hg,rfl,HJ,hJx,hAx⟩:=hrel;have HG1:=hid hg;clear hg c0;have c1:=hAx.cell (i:=0) rfl;obtain⟨T,hT⟩:∃T:Bool,T=decide (k<s.size/\k<255/\s.data.toList[k]? =s.data.toList[0]?):=⟨_,rfl⟩;have HT:=hid hT;clear hT;obtain⟨m,hm0,hm1,hm2⟩:=yI s.size 255 (by decide);have hm3:min (s.size:Int) 255=(m:Int):=by rw[<-hm0];omega
    gi_upto_region 2 with fail
    gi_cut [18,21,22,23,24,25,26,27,28,29] from 6 (fun c18 d21 d22 d23 d24 d25 d26 d27 d28 d29 wx=>(c18=.bool T/\d21=u21/\d22=u22/\d23=u23/\d24=u24/\d25=u25/\d26=u26/\d27=u27/\d28=u28/\d29=u29)/\J pre wx/\Arr wx Bs 9 [.string s])
    case first=>
     by_cases g1:k<m
     ·have u1:decide ((k:Int)<(m:Int))=true:=decide_eq_true (by omega);have g2:k<s.size:=by omega
      have e2:=eW s k g2;have e0:=eW s 0 hrl
      by_cases g3:s[k]=s[0]
      ·have u3:((s[k].toNat:Int)==(s[0].toNat:Int))=true:=by rw[g3];simp
       have u4:decide ((s[k].toNat:Int)=(s[0].toNat:Int))=true:=decide_eq_true (by rw[g3]);have HT2:=hid (show T=true by rw[HT.out,decide_eq_true];exact⟨g2,by omega,by rw[e2,e0,g3]⟩);clear g3 e2 e0
       gi_quiet (fail)
       gi_wp2_with fail
       gi_meet
       exact⟨⟨by rw[HT2.out],rfl,rfl,rfl,rfl,rfl,rfl,rfl,rfl,rfl⟩,NB hJa hJx _,hAx.drewN _⟩
      ·have hne:(s[k].toNat:Int)≠(s[0].toNat:Int):=fun e=>g3 (UInt8.toNat_inj.1 (by omega))
       have u3:((s[k].toNat:Int)==(s[0].toNat:Int))=false:=by rw[beq_eq_false_iff_ne];exact hne
       have u4:decide ((s[k].toNat:Int)=(s[0].toNat:Int))=false:=decide_eq_false hne;have HT2:=hid (show T=false by rw[HT.out,decide_eq_false];rintro⟨_,_,h3⟩;rw[e2,e0] at h3;injection h3 with h3;exact g3 h3);clear g3 e2 e0 hne
       gi_quiet (fail)
       gi_wp2_with fail
       gi_meet
       exact⟨⟨by rw[HT2.out],rfl,rfl,rfl,rfl,rfl,rfl,rfl,rfl,rfl⟩,NB hJa hJx _,hAx.drewN _⟩
     ·have u1:decide ((k:Int)<(m:Int))=false:=decide_eq_false (by omega);have HT2:=hid (show T=false by rw[HT.out,decide_eq_false];rintro⟨h1,h2,_⟩;omega)
      gi_quiet (fail)
      gi_wp2_with fail
      gi_meet
      exact⟨⟨by rw[HT2.out],rfl,rfl,rfl,rfl,rfl,rfl,rfl,rfl,rfl⟩,NB hJa hJx _,hAx.drewN _⟩
    case rest=>
     obtain⟨⟨rfl,rfl,rfl,rfl,rfl,rfl,rfl,rfl,rfl,rfl⟩,hJy,hAy⟩:=hcut;clear hm0 hm3 hm1 hm2 c1 hJx hAx
     cases T with
     |true=>
      have hgo:=of_decide_eq_true HT.out.symm;have HS:=hid hgo.2.2;have g1:=hgo.1;have g2:=hgo.2.1;clear hgo
      gi_wp2_with fail
      have hg:=HG1.out
      gi_roundg (256-(k+1))
      case measure=>omega
      case rel=>exact⟨k+1,by omega,by omega,by omega,rfl,by go_num,hid (fun j hj=>by rcases Nat.lt_or_ge j k with h|h;exact HJ.out j h;rw[show j=k by omega];exact HS.out),hJy,hAy⟩
     |false=>
      have hno:=of_decide_eq_false HT.out.symm;have hpn:dX s.data.toList=k:=DV hk2 (by rw[HL.out];exact hk3) HJ.out (by
       by_cases h1:k<s.size
       ·by_cases h2:k<255
        ·exact .inr (.inr (fun h3=>hno ⟨h1,h2,h3⟩))
        ·exact .inl (by omega)
       ·exact .inr (.inl (by rw[HL.out];omega)))
      have hpc:=NA s.data.toList HNE.out;rw[hpn] at hpc;have hx0:s.extract 0 k=mkS (s.data.toList.take k):=by rw[nT,AP,AF]
      obtain⟨s2,hs2⟩:∃s2,s2=s.extract k s.size:=⟨_,rfl⟩;have hd2:s2.data.toList=s.data.toList.drop k:=by
       rw[hs2,nT,fW,List.take_of_length_le (by rw[cI,HL.out];omega)]
      have hsz2:s2.size=s.size-k:=by
       have:s2.data.toList.length=s2.size:=by simp
       rw[<-this,hd2,cI,HL.out]
      obtain⟨x,hx⟩:∃x,x=s.data.toList.take k:=⟨_,rfl⟩;rw[<-hx] at hx0 hpc;have hpre:=HP.out;rw[hpc] at hpre;obtain⟨fn,tmps,assign,body,hy,hR⟩:=hY pre x wc hJy ⟨_,hpre⟩;unfold zX at hy;have hs2':s.extract k s.size=s2:=hs2.symm;have HPR:=hid (show(pre++[x])++jX s2.data.toList=jX all.data.toList by rw[hd2,cF];exact hpre);have c1:=hAy.cell (i:=0) rfl;clear hs2 hd2 hx hpc hpre hno hpn HT;have q1:(k:Int)<=(s.size:Int):=by omega
      gi_wp2_with fail
      refine hR.mono ?_;rintro e W3 ⟨rfl,hJ3,hk3'⟩;have hA3:Arr W3 Bs 9 [.string s]:=by unfold Arr;rw[hk3'.2];exact hAy
      have d0:=hA3.cell (i:=0) rfl;have f3:=hA3.free 0
      gi_wp2_with fail
      have hg:=HG.out
      gi_roundg s2.size
      case measure=>omega
      case rel=>exact⟨pre++[x],s2,rfl,by omega,HPR.out,hJb _ _ _ hJ3,hA3.set 0 _⟩
theorem aBd (n:Nat) (hn:1<=n) (Bs n₀:Nat) (all:ByteArray) (hall:all.size<=1000000) (w:World) (hA:Arr w Bs 9 [.string all]):
  MN n Tryz.prog 90 #[.pointer (some ⟨Bs,0,none⟩)] zX Bs (KpB n₀ Bs) (jX all.data.toList) w:=fun l J W hW hJa hJb hY h0=>
 aR0 n hn l Bs n₀ all hall J hJb _ hJa hY W (hA.below hW hA.lt) h0
theorem aBe (n:Nat) (all:ByteArray) (w:World):
  mD eA n Tryz.prog 57 #[.string all] w fun e w'=>e=.returned (.func (.func 90) #[] #[.pointer (some ⟨w.heap.size,0,none⟩)])/\w'=w.alloc (.cells #[.string all] 9):=by
 refine tW Tryz.func57 rfl trivial ?_ rfl;simp only[Tryz.ntmps57,mY,cR,cX,lZ,mZ,lL,lM,lN,lO,iG,gE]
 gi_wp2
 go_ret;exact⟨rfl,rfl⟩
def pkL (x:List UInt8):List UInt8:=x.take (min x.length 4)++if 4<=x.length then[eK (x.length-4)] else[]
theorem aR5 {s:List UInt8} {n:Nat} (h:n<=s.length):mN s n=pkL (s.take n):=by
 unfold mN pkL;rw[aX,Nat.min_eq_left h,List.take_take,show min (min n 4) n=min n 4 by omega]
theorem FE:∀(k:Nat) (s:List UInt8),s.length<=k->bC s=(jX s).flatMap pkL
 |0,s,h=>by
  have:s=[]:=mV.1 (by omega);subst this;rfl
 |k+1,s,h=>by
  by_cases hs:s=[]
  ·subst hs;rfl
  ·have hb:=pS s hs;rw[yU s hs,NA s hs,List.flatMap_cons,aR5 hb.2.2,FE k _ (by rw[cI];omega)]
theorem NC:∀(k:Nat) (s:List UInt8),s.length<=k->∀x∈jX s,1<=x.length/\x.length<=255
 |0,s,h,x,hx=>by
  have:s=[]:=mV.1 (by omega);subst this;rw[MZ] at hx;simp at hx
 |k+1,s,h,x,hx=>by
  by_cases hs:s=[]
  ·subst hs;rw[MZ] at hx;simp at hx
  ·have hb:=pS s hs;rw[NA s hs] at hx;rcases List.mem_cons.1 hx with rfl|hx
   ·rw[aX];omega
   ·exact NC k _ (by rw[cI];omega) x hx
theorem aBg {all:List UInt8} {pre r:List (List UInt8)} {x:List UInt8} (h:pre++x::r=jX all):(pre.flatMap pkL).length<=2*all.length:=by
 have h1:=(oS all.length all (aA _)).1;rw[FE all.length all (aA _),<-h,pZ,aL] at h1;omega
theorem Bld.same {w w':World} {B b:Nat} {l:List UInt8} (h:Bld w B b l) (hk:∀k o,w.heap[k]? =some o->o.isCells=true->(k=b\/∃c fz,o=.cells c 5 fz)->w'.heap[k]? =some o):Bld w' B b l:=by
 have key:∀p,Lib.BuilderAtF 88 5 B b p (nS l) w->Lib.BuilderAtF 88 5 B b p (nS l) w':=by
  rintro p ⟨hB,v,hb,hown,hne⟩;refine⟨hB,v,hk b _ hb rfl (.inl rfl),⟨hown.1,?_⟩,hne⟩;rcases hown.2 with hn|⟨g,cap,cur,fz,e,hBg,hg,rest⟩
  ·exact .inl hn
  ·exact .inr ⟨g,cap,cur,fz,e,hBg,hk g _ hg rfl (.inr ⟨_,_,rfl⟩),rest⟩
 exact h.elim (fun x=>.inl (key _ x)) (fun x=>.inr (key _ x))
theorem Bld.kept {w w':World} {B b:Nat} {l:List UInt8} {row:Option Nat} (h:Bld w B b l) (hg:w.grownBy w' row) (hr:∀r,row=some r->∃o:Obj,w.heap[r]? =some o/\o.isCells=false):Bld w' B b l:=
 h.same fun k o hk hc _=>(hg.block k (gQ.1 hk).1 (fun e=>by
  obtain⟨o',ho',hn⟩:=hr k e.symm;rw[hk] at ho'
  injection ho' with ho'
  rw[ho',hn] at hc;exact absurd hc (by decide))).trans hk
theorem Bld.setBox {w:World} {B b Bs:Nat} {l:List UInt8} (h:Bld w B b l) {x v:Value} (hA:Arr w Bs 9 [x]) (hne:b≠Bs):Bld (w.setCell ⟨Bs,0,none⟩ v) B b l:=
 h.same fun k o hk _ ho=>by
  have hkB:k≠Bs:=by
   rintro rfl;rcases ho with e|⟨c,fz,rfl⟩
   ·exact hne e.symm
   ·unfold Arr at hA;rw[hk] at hA
    injection hA with hA
    injection hA with _ h2 _
    exact absurd h2 (by decide)
  rw[kT w ⟨Bs,0,none⟩ k v (fun e=>hkB e)];exact hk
theorem Arr.keptB {w w':World} {b:Nat} {e:TypeId} {l:List Value} {row:Option Nat} (h:Arr w b e l) (hg:w.grownBy w' row) (hr:∀r,row=some r->∃o:Obj,w.heap[r]? =some o/\o.isCells=false):Arr w' b e l:=by
 have h2:w.heap[b]? =some (.cells l.toArray e (0,0)):=h;show w'.heap[b]? =_;rw[hg.block b h.lt (fun q=>by
  obtain⟨o',ho',hn⟩:=hr b q.symm;rw[h2] at ho'
  injection ho' with ho'
  rw[<-ho'] at hn;exact tQ hn)]
 exact h2
theorem Arr.others {w w':World} {g b:Nat} {x:Value} (h:Arr w g 9 [x]) (hk:GY 5 (some b) w w') (hne:g≠b):Arr w' g 9 [x]:=
 hk g _ h (fun e=>hne (by injection e)) (fun c fz e=>by injection e with _ h2 _;exact absurd h2 (by decide))
theorem aBh {B b:Nat} {w w':World} (hs:w.heap.size<=w'.heap.size) (hk:GY 5 (some b) w w') (hb:∀o,w.heap[b]? =some o->o.isCells=true):KeepsFrom B w w':=
 ⟨hs,fun k o _ ho hc=>hk k o ho (fun e=>by injection e with e;subst e;rw[hb o ho] at hc;exact absurd hc (by decide)) (fun c fz e=>by rw[e] at hc;exact tQ hc)⟩
theorem aR6 (n:Nat) (hn:3<=n) (s:ByteArray) (w:World) (hs:s.size<=1000000):
  mD eA n Tryz.prog 67 #[.string s] w fun e w'=>e=.returned (.string (mkS (bC s.data.toList)))/\Below w.heap.size w w':=by
 have h1:1<=n:=by omega
 refine xX Tryz.func67 rfl trivial ?_ rfl;simp only[Tryz.ntmps67,mY,cR,cX,lZ,mZ,lL,lM,lN,lO,iG,gE]
 gi_wp2_with fail
 refine⟨trivial,(aBe (n-1) s _).mono ?_⟩;rintro e w' ⟨rfl,rfl⟩
 gi_wp2_with fail
 have hB0:=aAp w;have hB1:Bld ((w.alloc (.cells #[.pointer none,.slice none 0 0] 88)).alloc (.cells #[.string s] 9)) w.heap.size w.heap.size []:=hB0.same fun k o hk _ _=>by rw[Below.heap_alloc _ _ _ (gQ.1 hk).1];exact hk
 have hA1:=Arr.new (w.alloc (.cells #[.pointer none,.slice none 0 0] 88)) 9 [.string s];rw[fV] at hA1;change Arr ((w.alloc (.cells #[.pointer none,.slice none 0 0] 88)).alloc (.cells #[.string s] 9)) _ _ _ at hA1;have hs1:((w.alloc (.cells #[.pointer none,.slice none 0 0] 88)).alloc (.cells #[.string s] 9)).heap.size=w.heap.size+1+1:=by simp
 have hb1:Below w.heap.size w ((w.alloc (.cells #[.pointer none,.slice none 0 0] 88)).alloc (.cells #[.string s] 9)):=((aB _ w).alloc (aA _) _).alloc (by simp) _;clear hB0;generalize (w.alloc (.cells #[.pointer none,.slice none 0 0] 88)).alloc (.cells #[.string s] 9)=w1 at*
 refine MO (w0:=w1) (Bs:=w.heap.size+1) h1 (gf:=90) (lb:=#[.pointer (some ⟨w.heap.size+1,0,none⟩)]) rfl (fN Tryz.func90 (by kernel_rfl) rfl)
  (aBd (n-1) (by omega) (w.heap.size+1) w.heap.size s hs w1 hA1) DZ (LM (by omega) (by omega)) (aB _ _) (fun _=>rfl) (by omega)
  (fun pre W=>(Bld W w.heap.size w.heap.size (pre.flatMap pkL)/\∃x,Arr W (w.heap.size+1) 9 [x])/\Below w.heap.size w W)
  (GS (Own.from (fun s A B row hs hg hr=>⟨hs.1.kept hg hr,by obtain⟨x,hx⟩:=hs.2;exact⟨x,hx.keptB hg hr⟩⟩) _) (GT (aA _) (by omega)))
  (fun pre A v ⟨⟨h1,x,h2⟩,h3⟩=>⟨⟨h1.setBox h2 (by omega),v,h2.set 0 v⟩,h3.setCell (p:=⟨w.heap.size+1,0,none⟩) (by show w.heap.size<=w.heap.size+1;omega) _⟩)
  ⟨⟨hB1,_,hA1⟩,hb1⟩
  (fun x=>{tmps:=#[.string s,undef,.string ⟨#[]⟩,.pointer (some ⟨w.heap.size,0,none⟩),.string (mkS x),.string s,.func (.func 90) #[] #[.pointer (some ⟨w.heap.size+1,0,none⟩)],.string (mkS x),undef,undef,undef,undef,undef,undef,undef,undef,undef,undef,undef,undef,undef,undef,undef],defers:=[]}) ?assign ?body ?done
 case assign=>
  intro l x W K hK;unfold zX
  gi_wp2
  exact hK
 case body=>
  rintro l pre x W ⟨⟨hB,y,hA⟩,hbel⟩ ⟨r,hr⟩;have hx:=NC s.data.toList.length s.data.toList (aA _) x (by rw[<-hr];simp);have hpl:=aBg hr;rw[show s.data.toList.length=s.size by simp] at hpl;obtain⟨m,hm0,hm1,hm2⟩:=yI x.length 4 (by decide);have hm3:min (x.length:Int) 4=(m:Int):=by rw[<-hm0];omega
  have hx0:(mkS x).extract 0 m=mkS (x.take m):=by rw[nT,AP,AF,fW]
  have hsz:=hbel.size;have hq:(m:Int)<=(x.length:Int):=by omega
  have hbc:∀o,W.heap[w.heap.size]? =some o->o.isCells=true:=fun o ho=>by
   rcases hB with⟨_,v,hb,_⟩|⟨_,v,hb,_⟩
   ·rw[hb] at ho;injection ho with ho;rw[<-ho];rfl
   ·rw[hb] at ho;injection ho with ho;rw[<-ho];rfl
  gi_wp2_with fail
  refine⟨trivial,fun _=>by omega,((callsIn_wide.2 (aQu w.heap.size w.heap.size _ (mkS (x.take m)) W hB (by rw[cP,aX];omega) hsz)).inRound l).mono ?_⟩;rintro e W2 ⟨rfl,hB2,hb2,ho2⟩;rw[fW] at hB2;have hA2:=hA.others ho2 (by omega);have hk2:=aBh (B:=w1.heap.size) hb2.size ho2 hbc;have hbel2:=hbel.trans hb2
  by_cases h4:4<=x.length
  ·have t1:decide ((x.length:Int)>=4)=true:=decide_eq_true (by omega);have t2:decide ((4:Int)<=(x.length:Int))=true:=decide_eq_true (by omega);obtain⟨d,hd⟩:∃d:Nat,d=x.length-4:=⟨_,rfl⟩;obtain⟨b,hb⟩:∃b:UInt8,b=eK d:=⟨_,rfl⟩;have hbt:b.toNat=d:=by rw[hb,UInt8.toNat_ofNat'];omega
   have m1:aI.wrap ((x.length:Int)-4)=(d:Int):=by rw[aM];omega
   have m2:(x.length:Int)-4=(d:Int):=by omega
   have m3:IntKind.u8.wrap (d:Int)=(b.toNat:Int):=by rw[hbt,IntKind.wrap_u8];omega
   have m4:(d:Int)%256=(b.toNat:Int):=by rw[hbt];omega
   have HPK:=hid (show pre.flatMap pkL++x.take m++[b]=(pre++[x]).flatMap pkL by
    rw[pZ,AN,cF]
    congr 1
    unfold pkL;rw[if_pos h4,hb,hd,show min x.length 4=m by omega])
   have hbc2:∀o,W2.heap[w.heap.size]? =some o->o.isCells=true:=fun o ho=>by
    rcases hB2 with⟨_,v,hb,_⟩|⟨_,v,hb,_⟩
    ·rw[hb] at ho;injection ho with ho;rw[<-ho];rfl
    ·rw[hb] at ho;injection ho with ho;rw[<-ho];rfl
   clear hb hbt hd
   gi_wp2_with fail
   refine⟨trivial,fun _=>by omega,((callsIn_wide.2 (aAm w.heap.size w.heap.size _ b W2 hB2 (by rw[aL,aX];omega) (by have:=hb2.size;omega))).inRound l).mono ?_⟩;rintro e W3 ⟨rfl,hB3,hb3,ho3⟩;have hA3:=hA2.others ho3 (by omega);have hk3:=aBh (B:=w1.heap.size) hb3.size ho3 hbc2
   gi_wp2_with fail
   exact⟨hk2.trans hk3,⟨hb2.trans hb3,hA3.trans hA.symm⟩,⟨by rw[<-HPK.out];exact hB3,_,hA3⟩,hbel2.trans hb3⟩
  ·have t1:decide ((x.length:Int)>=4)=false:=decide_eq_false (by omega);have t2:decide ((4:Int)<=(x.length:Int))=false:=decide_eq_false (by omega);have HPK:=hid (show pre.flatMap pkL++x.take m=(pre++[x]).flatMap pkL by
    rw[pZ,AN]
    congr 1
    unfold pkL;rw[if_neg h4,eE,show min x.length 4=m by omega])
   gi_wp2_with fail
   exact⟨hk2,⟨hb2,hA2.trans hA.symm⟩,⟨by rw[<-HPK.out];exact hB2,_,hA2⟩,hbel2⟩
 case done=>
  rintro D W hD ⟨⟨hB,y,hA⟩,hbel⟩ hK;rw[<-FE s.data.toList.length s.data.toList (aA _)] at hB;have hsz:=hbel.size
  gi_wp2_with fail
  refine⟨trivial,(callsIn_wide.2 (aAn w.heap.size w.heap.size _ W hB hsz)).mono ?_⟩;rintro e W2 ⟨rfl,_,hb2,ho2⟩;have hK2:W2.heap[D]? =some (.deferred (some [])):=ho2 D _ hK (fun e=>by injection e with e;omega) (fun c fz e=>by injection e)
  gi_wp2_with fail
  refine⟨by simp,.inl ⟨_,_,rfl,sJ hK2,?_⟩⟩;exact⟨_,results_tmp rfl _ _ _,rfl,(hbel.trans hb2).trans (belowK_b (w:=w1) (by omega) W2 D _ _ hD hK2 rfl rfl)⟩
theorem aR7 (s:ByteArray) (w:World) (hs:s.size<=1000000):
  Calls Tryz.prog 67 #[.string s] w fun e w'=>e=.returned (.string (mkS (bC s.data.toList)))/\Below w.heap.size w w':=
 callsIn_wide.1 (aR6 3 (aA _) s w hs)
def tL (n:Nat):Nat:=if n<4 then n else 5
theorem aR8 (n:Nat) (w:World):Calls Tryz.prog 58 #[.int .i64 (n:Int)] w fun e w'=>e=.returned (.int .i64 (tL n:Int))/\w'=w:=by
 unfold tL
 by_cases h:n<4
 ·have t1:decide ((n:Int)<4)=true:=decide_eq_true (by omega);rw[if_pos h];go_enter Tryz.func58,Tryz.ntmps58;go_wp2_with fail;go_ret;exact⟨rfl,rfl⟩
 ·have t1:decide ((n:Int)<4)=false:=decide_eq_false (by omega);rw[if_neg h];go_enter Tryz.func58,Tryz.ntmps58;go_wp2_with fail;go_ret;exact⟨rfl,rfl⟩
theorem aR9 (x:List UInt8):(pkL x).length=tL x.length:=by
 unfold pkL tL;rw[aL,aX]
 by_cases h:4<=x.length
 ·rw[if_pos h,if_neg (by omega)];simp;omega
 ·rw[if_neg h,if_pos (by omega)];simp;omega
def pC (l:List (List UInt8)):Nat:=(l.flatMap pkL).length
theorem aSa (l:List (List UInt8)) (x:List UInt8):pC (l++[x])=pC l+tL x.length:=by
 unfold pC;rw[pZ,aL,AN,aR9]
theorem aSb (n:Nat) (hn:3<=n) (s:ByteArray) (w:World) (hs:s.size<=1000000):
  mD eA n Tryz.prog 33 #[.string s] w fun e w'=>e=.returned (.int .i64 ((bC s.data.toList).length:Int))/\Below w.heap.size w w':=by
 have h1:1<=n:=by omega
 refine xX Tryz.func33 rfl trivial ?_ rfl;simp only[Tryz.ntmps33,mY,cR,cX,lZ,mZ,lL,lM,lN,lO,iG,gE]
 gi_wp2_with fail
 refine⟨trivial,(aBe (n-1) s _).mono ?_⟩;rintro e w' ⟨rfl,rfl⟩
 gi_wp2_with fail
 have hA0:=(Arr.new w 3 [.int .i64 0]).alloc (.cells #[.string s] 9);have hA1:=Arr.new (w.alloc (.cells #[.int .i64 0] 3)) 9 [.string s];rw[fV] at hA1;change Arr ((w.alloc (.cells #[.int .i64 0] 3)).alloc (.cells #[.string s] 9)) _ _ _ at hA1;change Arr ((w.alloc (.cells #[.int .i64 0] 3)).alloc (.cells #[.string s] 9)) _ _ _ at hA0;have hs1:((w.alloc (.cells #[.int .i64 0] 3)).alloc (.cells #[.string s] 9)).heap.size=w.heap.size+1+1:=by simp
 have hb1:Below w.heap.size w ((w.alloc (.cells #[.int .i64 0] 3)).alloc (.cells #[.string s] 9)):=((aB _ w).alloc (aA _) _).alloc (by simp) _;generalize (w.alloc (.cells #[.int .i64 0] 3)).alloc (.cells #[.string s] 9)=w1 at*
 refine MO (w0:=w1) (Bs:=w.heap.size+1) h1 (gf:=90) (lb:=#[.pointer (some ⟨w.heap.size+1,0,none⟩)]) rfl (fN Tryz.func90 (by kernel_rfl) rfl)
  (aBd (n-1) (by omega) (w.heap.size+1) w.heap.size s hs w1 hA1) DZ (LM (by omega) (by omega)) (aB _ _) (fun _=>rfl) (by omega)
  (fun pre W=>(Arr W w.heap.size 3 [.int .i64 (pC pre:Int)]/\∃x,Arr W (w.heap.size+1) 9 [x])/\Below w.heap.size w W)
  (GS (Own.from (fun s A B row hs hg hr=>⟨hs.1.keptB hg hr,by obtain⟨x,hx⟩:=hs.2;exact⟨x,hx.keptB hg hr⟩⟩) _) (GT (aA _) (by omega)))
  (fun pre A v ⟨⟨h1,x,h2⟩,h3⟩=>⟨⟨h1.other ⟨w.heap.size+1,0,none⟩ (by simp) v,v,h2.set 0 v⟩,h3.setCell (p:=⟨w.heap.size+1,0,none⟩) (by show w.heap.size<=w.heap.size+1;omega) _⟩)
  ⟨⟨hA0,_,hA1⟩,hb1⟩
  (fun x=>{tmps:=#[.string s,undef,.pointer (some ⟨w.heap.size,0,none⟩),.string (mkS x),.string s,.func (.func 90) #[] #[.pointer (some ⟨w.heap.size+1,0,none⟩)],.string (mkS x),undef,undef,undef,undef,undef,undef],defers:=[]}) ?assign ?body ?done
 case assign=>
  intro l x W K hK;unfold zX
  gi_wp2
  exact hK
 case body=>
  rintro l pre x W ⟨⟨hA,y,hAs⟩,hbel⟩ ⟨r,hr⟩;have hx:=NC s.data.toList.length s.data.toList (aA _) x (by rw[<-hr];simp);have hpl:=aBg hr;rw[show s.data.toList.length=s.size by simp] at hpl;change pC pre<=2*s.size at hpl;have hsz:=hbel.size;have c0:=hA.cell (i:=0) rfl;have f0:=hA.free 0;have HS:=hid (aSa pre x);have hlp:tL x.length<=5:=by unfold tL;split<;>omega
  obtain⟨q,hq⟩:∃q,q=tL x.length:=⟨_,rfl⟩;have hcall:=fun W=>(callsIn_wide (n:=n-1-1-1)).2 (aR8 x.length W)
  rw[<-hq] at hcall HS hlp;clear hq;obtain⟨a,ha⟩:∃a,a=pC pre:=⟨_,rfl⟩;rw[<-ha] at HS hpl c0;obtain⟨c,hc⟩:∃c:Nat,c=a+q:=⟨_,rfl⟩;have m1:aI.wrap ((a:Int)+(q:Int))=(c:Int):=by rw[aM];omega
  have m2:(a:Int)+(q:Int)=(c:Int):=by omega
  have m3:aI.wrap (c:Int)=(c:Int):=by rw[aM];omega
  have HC:=hid (show pC (pre++[x])=c by rw[HS.out,hc]);clear ha hc
  gi_wp2_with fail
  gi_region_with (refine⟨trivial,fun _=>by omega,((hcall _).inRound l).mono ?_⟩;rintro e w2 ⟨rfl,rfl⟩)
  all_goals
   gi_wp2_with fail
   refine⟨((iH W _ _).trans (aC3 _)).from _,⟨((aB w.heap.size W).setCell (p:=⟨w.heap.size,0,none⟩) (aA _) _).drew,kT W ⟨w.heap.size,0,none⟩ (w.heap.size+1) _ (by simp)⟩,⟨?_,y,hAs.other ⟨w.heap.size,0,none⟩ (by simp) _⟩,(hbel.setCell (p:=⟨w.heap.size,0,none⟩) (aA _) _).drew⟩;rw[HC.out];exact hA.set 0 _
 case done=>
  rintro D W hD ⟨⟨hA,y,hAs⟩,hbel⟩ hK;have c0:=hA.cell (i:=0) rfl;have f0:=hA.free 0;have HF:=hid (show pC (jX s.data.toList)=(bC s.data.toList).length by rw[FE _ _ (aA _)];rfl)
  gi_wp2_with fail
  have hK2:=(iH W ⟨w.heap.size,0,none⟩ (.int .i64 (pC (jX s.data.toList):Int))).same D _ hK rfl;refine⟨by simp,.inl ⟨_,_,rfl,sJ hK2,?_⟩⟩;have hc4:(W.setCell ⟨w.heap.size,0,none⟩ (.int .i64 (pC (jX s.data.toList):Int))).cell? ⟨w.heap.size,0,none⟩=some (.int .i64 (pC (jX s.data.toList):Int)):=World.cell?_setCell_same _ _ _ c0;have hc6:=cell_kept hc4 (grownBy_putObj' _ D (.deferred none)) (fun r e=>by cases e;exact⟨_,hK2,rfl⟩)
  refine⟨.int .i64 (pC (jX s.data.toList):Int),?_,by rw[HF.out],(hbel.setCell (p:=⟨w.heap.size,0,none⟩) (aA _) _).trans (belowK_b (w:=w1) (by omega) _ D _ _ hD hK2 rfl rfl)⟩;simp[results,Tryz.f33,go_sem,hc6]
theorem ND (s:ByteArray) (w:World) (hs:s.size<=1000000):
  Calls Tryz.prog 33 #[.string s] w fun e w'=>e=.returned (.int .i64 ((bC s.data.toList).length:Int))/\Below w.heap.size w w':=
 callsIn_wide.1 (aSb 3 (aA _) s w hs)
end
end Go.Proofs.YtpgmbhpbgkljdaaGreatDoor
