/-
  Texts put together (part 18): the walks and the plain laws on which the statement stands.
-/
import Derived.Test.YtihbnmlinkbnkaaGreatDoorZ12
import Derived.Test.YtihbnmlinkbnkaaGreatDoorZ13
import Derived.Test.YtihbnmlinkbnkaaGreatDoorZ14
import Derived.Test.YtihbnmlinkbnkaaGreatDoorZ16
set_option maxRecDepth 100000
set_option maxHeartbeats 12800000
set_option linter.unusedVariables false
set_option linter.unusedSimpArgs false
open Go.Proofs.Tryz
open Go.Proofs.Tryz renaming prog->pG
open Array renaming getElem?_eq_some_iff->fE
open Go renaming Program->fO,callsD_of_wpS->OT
open Go.Act renaming put->bJ
open Go.Calls renaming quiet_of_same->AY
open Go.Exit renaming thenS->OV
open Go.Fence renaming wide->cZ
open Go.Instr renaming typeAssert->tZ
open Go.IntKind renaming i64->aJ,wrap_i64->aM
open Go.RowKit.Below renaming refl->aH
open Go.Value renaming slice->mM
open Go.World renaming alloc_heap_new->AZ,cell?_setCell_other->lI,putObj_heap_other->qA,putObj_heap_same->BA,size_alloc->fP
open List renaming length_append->aL,setIfInBounds_toArray->bK,set_cons_succ->bB,set_cons_zero->bH
open Nat renaming le_refl->aD,le_succ->tJ
open Option.some renaming inj->cC,injEq->lJ
namespace Go.Proofs.YtihbnmlinkbnkaaGreatDoor
section
structure Ent where
 a:Int
 r:Int
 f:Int
 n:Int
 y:Int
def Ent.ok (d at':Int) (x:Ent):Prop:=x.f=d/\1<=x.n/\x.n<=18720/\40<=x.r/\x.r<=360/\x.r%40=0/\at'<x.a
instance (fr at':Int) (x:Ent):Decidable (x.ok fr at'):=inferInstanceAs (Decidable (_/\_))
def oL:Int->Int->List Ent->Prop
 |_,_,[]=>True
 |d,at',x::l=>x.ok d at'/\oL (x.f+x.n) x.a l
instance rightDec:(fr at':Int)->(l:List Ent)->Decidable (oL fr at' l)
 |_,_,[]=>isTrue trivial
 |fr,at',x::l=>by
  unfold oL;have:=rightDec (x.f+x.n) x.a l;exact inferInstance
end
section
open Go.RowKit Go Go.Shelf
def MJ (E:Int):List PanicEntry:=[{v:=.iface 276 (.agg #[.int .i64 E]),recovered:=false}]
def DRd (w:World) (b:Nat) (s:ByteArray) (a:Nat):Prop:=Arr w b 279 [.string s,.int .i64 (a:Int)]
theorem TO (b:Nat) (s:ByteArray) (a k:Nat) (W:World) (A:DRd W b s a) (U:s.size<=1000000) (Z:k<=40) (ha:a<=100000000):
  Calls pG 225 #[.pointer (some ⟨b,0,none⟩),.int .i64 (k:Int)] W fun e w'=>
   (aP s.size (a:Int) k=0/\e=.returned (.int .i64 (aK s.data.toList (a:Int) k:Int))/\DRd w' b s (a+k)/\W.grownBy w' (some b))\/(aP s.size (a:Int) k≠0/\e=.panicked (MJ (aP s.size (a:Int) k))/\W.grownBy w' (some b)):=by
 have I:=fun W=>uQ s (a:Int) k W U (by omega) (by omega) (by omega)
 have O:=jV s.data.toList (a:Int) k;have a0:aK s.data.toList (a:Int) k<1099511627776:=Nat.lt_of_lt_of_le O (Nat.le_trans (Nat.pow_le_pow_right (by decide) Z) (by decide));obtain⟨E,F⟩:∃E,E=aP s.size (a:Int) k:=⟨_,rfl⟩;obtain⟨V,G⟩:∃V,V=aK s.data.toList (a:Int) k:=⟨_,rfl⟩;rw[<-F,<-G];rw[<-F,<-G] at I;rw[<-G] at a0;have HE:=hid F;clear F G O;have c0:=Arr.cell A (i:=0) rfl;have c1:=Arr.cell A (i:=1) rfl;have f1:=Arr.free A 1;have m1:aJ.wrap (V:Int)=(V:Int):=by rw[aM];omega
 have m2:aJ.wrap ((a:Int)+(k:Int))=(a:Int)+(k:Int):=by rw[aM];omega
 go_enter func225,ntmps225
 by_cases J:E=0
 ·subst J;go_wp2_with fail
  go_quiet (first|(go_at_call 175;exact AY (I _)))
  generalize d:W.drewN nq=H at*
  have L:DRd H b s a:=by rw[<-d];exact A
  have M:W.grownBy H (some b):=by rw[<-d];exact⟨rfl,rfl,rfl,aD _,fun _ _ _=>rfl⟩
  have d1:=Arr.cell L (i:=1) rfl;have g1:=Arr.free L 1;clear d;go_wp2_with fail;go_ret;exact⟨rfl,by have:=Arr.set L 1 (.int .i64 ((a:Int)+(k:Int)));unfold DRd;push_cast;exact this,gbT M (gbS _ _ _ _)⟩
 ·have u1:(E != 0)=true:=by simpa using J
  go_wp2_with fail
  go_quiet (first|(go_at_call 175;exact AY (I _)))
  generalize d:W.drewN nq=H at*
  have M:W.grownBy H (some b):=by rw[<-d];exact⟨rfl,rfl,rfl,aD _,fun _ _ _=>rfl⟩
  clear d;go_wp2_with fail;exact⟨rfl,.inr ⟨J,rfl,M⟩⟩
theorem TP (b:Nat) (n:Int) (W:World):Calls pG 224 #[.pointer (some ⟨b,0,none⟩),.int .i64 n] W fun e w'=>
  ((1<=n/\n<=20)/\e=.returned (.int .i64 n)/\w'=W)\/(¬(1<=n/\n<=20)/\e=.panicked (MJ 3)/\w'=W):=by
 have A:=aF8 n
 by_cases h:1<=n/\n<=20
 ·have d:(decide (1<=n)&&decide (n<=20))=true:=by simp[h.1,h.2]
  rw[d] at A;have F:=hid h;clear h d;go_enter func224,ntmps224;go_wp2_with fail;refine(A _).mono ?_;rintro e w' ⟨rfl,rfl⟩;go_wp2_with fail;go_ret;exact .inl ⟨F.out,rfl,rfl⟩
 ·have d:(decide (1<=n)&&decide (n<=20))=false:=by
   rw[Bool.and_eq_false_iff];rcases Classical.em (1<=n) with q|q
   ·exact .inr (aE (fun k=>h ⟨q,k⟩))
   ·exact .inl (aE q)
  rw[d] at A;have F:=hid h;clear h d;go_enter func224,ntmps224;go_wp2_with fail;refine(A _).mono ?_;rintro e w' ⟨rfl,rfl⟩;go_wp2_with fail;exact⟨rfl,.inr ⟨F.out,rfl,rfl⟩⟩
theorem aY0 (b:Nat) (s:ByteArray) (a:Nat) (n:Int) (W:World) (hA:DRd W b s a) (hs:s.size<=1000000) (ha:a<=90000010) (b0:1<=n) (b1:n<=20):
  Calls pG 226 #[.pointer (some ⟨b,0,none⟩),.int .i64 n] W fun e w'=>
   ((fS s.data.toList (a:Int) n).2.2=0/\e=.returned (.int .i64 (fS s.data.toList (a:Int) n).1)/\(∃p:Nat,(fS s.data.toList (a:Int) n).2.1=(p:Int)/\DRd w' b s p)/\W.grownBy w' (some b))\/((fS s.data.toList (a:Int) n).2.2≠0/\e=.panicked (MJ (fS s.data.toList (a:Int) n).2.2)/\W.grownBy w' (some b)):=by
 have HL:=hid (show s.data.toList.length=s.size by simp);obtain⟨R,hR⟩:∃R,R=fS s.data.toList (a:Int) n:=⟨_,rfl⟩;rw[<-hR];have HR:=hid hR.symm;clear hR;have b4:∀(args:Array Value) (w:World),(callFunc 225 args).run pG w=.ok (.enter 225 args) w:=enters_of func225 (by kernel_rfl) rfl;go_enter func226,ntmps226;go_wp2_with fail
 go_loopg [1] (8*s.size+2-a) (fun g s1 wr=>∃(p:Nat) (m:Int),p<=90000012/\1<=m/\m<=20/\g=8*s.size+2-p/\s1=.int .i64 m/\Hid (fS s.data.toList (p:Int) m=R)/\DRd wr b s p/\W.grownBy wr (some b))
 case atStart=>exact⟨a,n,by omega,b0,b1,rfl,rfl,HR,hA,⟨rfl,rfl,rfl,aD _,fun _ _ _=>rfl⟩⟩
 case round=>
  obtain⟨p,m,hp,b5,b6,J,rfl,HP,b2,L⟩:=hrel;have HG:=hid J;clear J;have A:=BU s.data.toList (p:Int) m (by omega);rw[HP.out,HL.out] at A;have M:=TO b s p 1 wr b2 hs (by decide) (by omega);have a2:=iG (n:=s.size) (at':=(p:Int)) (k:=1);have a3:=iG (n:=s.size) (at':=((p:Int)+1)) (k:=1);have a4:=jV s.data.toList (p:Int) 1;have a5:=jV s.data.toList ((p:Int)+1) 1;have O:=fun W1 (h:DRd W1 b s (p+1))=>TO b s (p+1) 1 W1 h hs (by decide) (by omega)
  push_cast at O;obtain⟨E1,U⟩:∃E1,E1=aP s.size (p:Int) 1:=⟨_,rfl⟩;obtain⟨F,V⟩:∃F,F=aK s.data.toList (p:Int) 1:=⟨_,rfl⟩;obtain⟨E2,Z⟩:∃E2,E2=aP s.size ((p:Int)+1) 1:=⟨_,rfl⟩;obtain⟨G,a0⟩:∃G,G=aK s.data.toList ((p:Int)+1) 1:=⟨_,rfl⟩;rw[<-U,<-V,<-Z,<-a0] at A;rw[<-U,<-V] at M;rw[<-U] at a2;rw[<-Z] at a3;rw[<-V] at a4;rw[<-a0] at a5;simp only[<-Z,<-a0] at O;have a4:F<2:=a4;have a5:G<2:=a5;have b3:=hid O;clear U V Z a0 O;go_wp2_with fail;refine M.mono ?_;rintro e w1 (⟨h1,rfl,a8,H⟩|⟨h1,rfl,H⟩)
  ·subst h1;rw[aA (fun k=>k rfl)] at A;have a2:=a2 rfl
   by_cases h2:F=0
   ·subst h2;rw[aB rfl] at A;have d:=hid A;clear A;go_wp2_with fail;go_ret;exact .inl ⟨by rw[d.out],by rw[d.out];rfl,⟨p+1,by rw[d.out];push_cast;rfl,a8⟩,gbT L H⟩
   ·obtain rfl:F=1:=by omega
    rw[aA h2] at A;clear h2;have b7:aJ.wrap (m+1)=m+1:=by rw[aM];omega
    go_wp2_with fail;refine(b3.out w1 a8).mono ?_;rintro e w2 (⟨h3,rfl,a9,a6⟩|⟨h3,rfl,a6⟩)
    ·subst h3;rw[aA (fun k=>k rfl)] at A;have a3:=a3 rfl;have a1:=gbT (gbT L H) a6
     by_cases h4:G=0
     ·subst h4;rw[aB rfl] at A;have I:=hid A;have a7:=TP b (m+1);clear A M;go_wp2_with fail;refine(a7 _).mono ?_;rintro e w3 (⟨h5,rfl,rfl⟩|⟨h5,rfl,rfl⟩)
      ·have d:=hid (show fS s.data.toList ((p:Int)+2) (m+1)=R by rw[I.out,aA (by omega)]);go_wp2_with fail;have J:=HG.out
       go_roundg (8*s.size+2-(p+2))
       case measure=>omega
       case rel=>exact⟨p+2,m+1,by omega,by omega,by omega,rfl,rfl,by have:=d;push_cast;exact this,a9,a1⟩
      ·have d:=hid (show R=(0,0,3) by rw[I.out,aB (by omega)]);exact⟨rfl,.inr ⟨by rw[d.out];exact(by decide:(3:Int)≠0),by rw[d.out],a1⟩⟩
     ·obtain rfl:G=1:=by omega
      rw[aA h4] at A;have I:=hid A;have a7:=TP b (m-1);have b8:aJ.wrap (m+1-2)=m-1:=by rw[aM];omega
      have b9:m+1-2=m-1:=by omega
      have c0:aJ.wrap (m-1)=m-1:=by rw[aM];omega
      clear A M h4;go_wp2_with fail;refine(a7 _).mono ?_;rintro e w3 (⟨h5,rfl,rfl⟩|⟨h5,rfl,rfl⟩)
      ·have d:=hid (show fS s.data.toList ((p:Int)+2) (m-1)=R by rw[I.out,aA (by omega)]);go_wp2_with fail;have J:=HG.out
       go_roundg (8*s.size+2-(p+2))
       case measure=>omega
       case rel=>exact⟨p+2,m-1,by omega,by omega,by omega,rfl,rfl,by have:=d;push_cast;exact this,a9,a1⟩
      ·have d:=hid (show R=(0,0,3) by rw[I.out,aB (by omega)]);exact⟨rfl,.inr ⟨by rw[d.out];exact(by decide:(3:Int)≠0),by rw[d.out],a1⟩⟩
    ·rw[aB h3] at A;have d:=hid A;exact⟨rfl,.inr ⟨by rw[d.out];exact h3,by rw[d.out],gbT (gbT L H) a6⟩⟩
  ·rw[aB h1] at A;have d:=hid A;exact⟨rfl,.inr ⟨by rw[d.out];exact h1,by rw[d.out],gbT L H⟩⟩
theorem aY1 (p q r:Addr) (w:World):
  CallsD pG 223 #[.pointer (some p),.pointer (some q),.pointer (some r)] .returning w fun e d w'=>e=.returned (.tuple #[])/\d=.returning/\w'=w:=by
 refine OT func223 rfl fun A G F=>?_
 apply wpS_seq;apply wpS_region;simp[wpOpsS,go_sem,recoverD,F,ntmps223,OV];refine wpS_of_wp ?_;go_wp2
 cases A
 simp_all [bodyPostS,results,f223]
theorem xY {b c o p:Nat} (h:b≠c):(⟨b,o,none⟩:Addr)≠⟨c,p,none⟩:=by simp
theorem aY2 (v:Value) (d:TypeId) (w:World):(tZ (.iface 276 v) d 276 true).run pG w=.ok (.tuple #[v,.bool true]) w:=by
 simp[tZ,run_underlying underlying276]
theorem aY3 (z:Nat) (E:Int) (L:List PanicEntry) (w:World) (x6 x7 x8:Value) (G:Arr w z 26 [x6]) (H:Arr w (z+1) 3 [x7]) (A:Arr w (z+1+1) 29 [x8]):
  CallsD pG 223 #[.pointer (some ⟨z,0,none⟩),.pointer (some ⟨z+1,0,none⟩),.pointer (some ⟨z+1+1,0,none⟩)] (.panicking ({v:=.iface 276 (.agg #[.int .i64 E]),recovered:=false}::L)) w fun e u' w'=>
   e=.returned (.tuple #[])/\u'=.panicking ({v:=.iface 276 (.agg #[.int .i64 E]),recovered:=true}::L)/\Arr w' z 26 [.slice none 0 0]/\Arr w' (z+1) 3 [.int .i64 0]/\Arr w' (z+1+1) 29 [.int .i64 E]/\Below z w w':=by
 have e6:=G.cell (i:=0) rfl;have e7:=H.cell (i:=0) rfl;have e8:=A.cell (i:=0) rfl;have f6:=G.free 0;have f7:=H.free 0;have f8:=A.free 0;refine OT func223 rfl fun c₀ cs hu=>?_
 apply wpS_seq;apply wpS_region;simp[wpOpsS,go_sem,recoverD,hu,ntmps223,OV];refine wpS_of_wp ?_;simp only[Array.replicate_succ,Array.replicate_zero,List.push_toArray,List.append_toArray,List.nil_append,List.cons_append,bK,bH,bB];have b0:=aY2 (.agg #[.int .i64 E]);go_wp2_with fail;have a1:=G.alloc (.cells #[.int .i64 E] 276);have a2:=H.alloc (.cells #[.int .i64 E] 276);have a3:=A.alloc (.cells #[.int .i64 E] 276);have M:=bX w (.int .i64 E) 276;have a4:=A.lt
 have a5:Below z w (w.alloc (.cells #[.int .i64 E] 276)):=(aH z w).alloc (by omega) _;generalize w.alloc (.cells #[.int .i64 E] 276)=w1 at*
 obtain⟨d,a0⟩:∃d,d=w.heap.size:=⟨_,rfl⟩;rw[<-a0] at M a4 ⊢;clear e6 e7 e8 f6 f7 f8 a0 G H A;have a6:=a5.drew;have O:Arr w1.drew z 26 [x6]:=a1;have h7:Arr w1.drew (z+1) 3 [x7]:=a2;have h8:Arr w1.drew (z+1+1) 29 [x8]:=a3;have a7:w1.drew.cell? ⟨d,0,none⟩=some (.int .i64 E):=M;refine wp_region_held_drew (S:=fun w'=>w'.cell? ⟨d,0,none⟩=some (.int .i64 E)) (by kernel_rfl) M (fun b1=>?_);generalize w1.drew=w2 at*
 have U:=h7.other ⟨z,0,none⟩ (by show _≠_;simp only[ne_eq];omega) (.slice none 0 0);have V:=(h8.other ⟨z,0,none⟩ (by show _≠_;simp only[ne_eq];omega) (.slice none 0 0)).other ⟨z+1,0,none⟩ (by show _≠_;simp only[ne_eq];omega) (.int .i64 0);have e6:=O.cell (i:=0) rfl;have e7:=U.cell (i:=0) rfl;have e8:=V.cell (i:=0) rfl;have f6:=O.free 0;have f7:=U.free 0;have f8:=V.free 0;have I:(w2.setCell ⟨z,0,none⟩ (.slice none 0 0)).cell? ⟨d,0,none⟩=some (.int .i64 E):=by rw[lI _ _ _ _ (xY (by omega))];exact a7
 have J:((w2.setCell ⟨z,0,none⟩ (.slice none 0 0)).setCell ⟨z+1,0,none⟩ (.int .i64 0)).cell? ⟨d,0,none⟩=some (.int .i64 E):=by rw[lI _ _ _ _ (xY (by omega))];exact I
 have Z:(((w2.setCell ⟨z,0,none⟩ (.slice none 0 0)).setCell ⟨z+1,0,none⟩ (.int .i64 0)).setCell ⟨z+1+1,0,none⟩ (.int .i64 E)).cell? ⟨d,0,none⟩=some (.int .i64 E):=by rw[lI _ _ _ _ (xY (by omega))];exact J
 have q6:Arr (((w2.setCell ⟨z,0,none⟩ (.slice none 0 0)).setCell ⟨z+1,0,none⟩ (.int .i64 0)).setCell ⟨z+1+1,0,none⟩ (.int .i64 E)) z 26 [.slice none 0 0]:=((O.set 0 _).other _ (by show _≠_;simp only[ne_eq];omega) _).other _ (by show _≠_;simp only[ne_eq];omega) _;have q7:Arr (((w2.setCell ⟨z,0,none⟩ (.slice none 0 0)).setCell ⟨z+1,0,none⟩ (.int .i64 0)).setCell ⟨z+1+1,0,none⟩ (.int .i64 E)) (z+1) 3 [.int .i64 0]:=(U.set 0 _).other _ (by show _≠_;simp only[ne_eq];omega) _
 have q8:Arr (((w2.setCell ⟨z,0,none⟩ (.slice none 0 0)).setCell ⟨z+1,0,none⟩ (.int .i64 0)).setCell ⟨z+1+1,0,none⟩ (.int .i64 E)) (z+1+1) 29 [.int .i64 E]:=V.set 0 _;have a8:Below z w (((w2.setCell ⟨z,0,none⟩ (.slice none 0 0)).setCell ⟨z+1,0,none⟩ (.int .i64 0)).setCell ⟨z+1+1,0,none⟩ (.int .i64 E)):=((a6.setCell (p:=⟨z,0,none⟩) (aD _) _).setCell (p:=⟨z+1,0,none⟩) (tJ _) _).setCell (p:=⟨z+1+1,0,none⟩) (by show z<=z+1+1;omega) _
 iterate 2
  refine fV 0 0 (by simp only[List.size_toArray,List.length_cons,List.length_nil,Nat.reduceAdd,Nat.reduceSub]<;>rfl) (by simp only[List.getElem?_toArray,List.getElem?_cons_succ,List.getElem?_cons_zero];rfl) (by kernel_rfl) (by exact fun _ _ _ h=>h) (by first|exact Or.inr ⟨by rfl,rfl⟩|(refine Or.inl ⟨by rfl,?_⟩;intro w' a9;(try dsimp only at a9);(try go_simp);try with_reducible rfl)) (by assumption) ?_
  try simp only[bJ,bK,bH,bB]
 refine dJ (i:=2) (by kernel_rfl) rfl (fun K F=>?_);go_simp;refine F.out _ _ ?_ (fun _=>?_)
 ·first|exact I|exact J|exact Z
 try simp only[bJ,bK,bH,bB]
 refine dJ (i:=3) (by kernel_rfl) rfl (fun K F=>?_);go_simp;refine F.out _ _ ?_ (fun _=>?_)
 ·first|exact I|exact J|exact Z
 try simp only[bJ,bK,bH,bB]
 refine dJ (i:=4) (by kernel_rfl) rfl (fun K F=>?_);go_simp;refine F.out _ _ ?_ (fun _=>?_)
 ·first|exact I|exact J|exact Z
 try simp only[bJ,bK,bH,bB]
 refine wpAnyH_done (by kernel_rfl) ?_ _;go_wp2_with fail;refine⟨rfl,.panicking ({v:=.iface 276 (.agg #[.int .i64 E]),recovered:=true}::L),?_,.tuple #[],?_,rfl,rfl,q6,q7,q8,a8⟩
 ·first|rfl|(cases c₀;simp_all)
 ·simp[results,f223]
theorem aGn {P:fO} {G:Func} {p q r:Tmp} {H I J:TypeId} (h:G.results=#[.cell p H,.cell q I,.cell r J]) (tmps:Array Value) (w:World) (d A F:Addr) (L M O:Value)
  (U:tmps.getD p undef=.pointer (some d)) (V:tmps.getD q undef=.pointer (some A)) (Z:tmps.getD r undef=.pointer (some F))
  (hx:(loadVar H d).run P w=.ok L w) (hy:(loadVar I A).run P w=.ok M w) (hz:(loadVar J F).run P w=.ok O w):
  (results G tmps).run P w=.ok (.tuple #[L,M,O]) w:=by
 have a0:tmps[p]?.getD undef=.pointer (some d):=by simpa using U
 have a1:tmps[q]?.getD undef=.pointer (some A):=by simpa using V
 have a2:tmps[r]?.getD undef=.pointer (some F):=by simpa using Z
 simp[results,h,a0,a1,a2,asAddr,hx,hy,hz,Result.andThen]
theorem TQ {w W:World} {s:List UInt8} {a n z:Nat} {E:Int} {tmps:Array Value} {d A F:Value} (h:gS s (a:Int) (n:Int)=([],0,E)) (G:w.heap.size=z)
  (H:Arr W z 26 [d]) (I:Arr W (z+1) 3 [A]) (J:Arr W (z+1+1) 29 [F]) (L:Below z w W)
  (M:tmps.getD 6 undef=.pointer (some ⟨z,0,none⟩)) (O:tmps.getD 7 undef=.pointer (some ⟨z+1,0,none⟩)) (U:tmps.getD 8 undef=.pointer (some ⟨z+1+1,0,none⟩)):
  Leaves pG f177 tmps (fun e w'=>CL w w' s a n e) [{target:=.fn (.func 223) #[.pointer (some ⟨z,0,none⟩),.pointer (some ⟨z+1,0,none⟩),.pointer (some ⟨z+1+1,0,none⟩)],args:=#[]}] (.panicking (MJ E)) W:=by
 refine leaves_cons (f:=223) (args:=#[.pointer (some ⟨z,0,none⟩),.pointer (some ⟨z+1,0,none⟩),.pointer (some ⟨z+1+1,0,none⟩)]) (by simp) (by simp[go_sem]) ?_;refine(aY3 z E [] W d A F H I J).mono ?_;rintro e u' w' ⟨rfl,rfl,V,Z,h8,a0⟩;have c6:=V.cell (i:=0) rfl;have c7:=Z.cell (i:=0) rfl;have c8:=h8.cell (i:=0) rfl;refine⟨_,aGn rfl tmps w' _ _ _ (.slice none 0 0) (.int .i64 0) (.int .i64 E) M O U (by simp[go_sem,c6]) (by simp[go_sem,c7]) (by simp[go_sem,c8]),?_⟩;exact FL h (G▸L.trans a0)
theorem aY4 (w:World) (t1 A G:TypeId) (d F H:Value):∀W,W=((w.alloc (.cells #[d] t1)).alloc (.cells #[F] A)).alloc (.cells #[H] G)->
  (Arr W w.heap.size t1 [d]/\Arr W (w.heap.size+1) A [F]/\Arr W (w.heap.size+1+1) G [H])/\Below w.heap.size w W/\W.heap.size=w.heap.size+1+1+1:=by
 rintro W rfl;have L:=Arr.new w t1 [d];have I:=Arr.new (w.alloc (.cells #[d] t1)) A [F];have J:=Arr.new ((w.alloc (.cells #[d] t1)).alloc (.cells #[F] A)) G [H];have e:∀(W:World) (o:Obj),(W.alloc o).heap.size=W.heap.size+1:=fun W o=>by simp
 rw[e] at I;rw[e,e] at J;refine⟨⟨(L.alloc _).alloc _,I.alloc _,J⟩,?_,by simp⟩;exact(((aH _ w).alloc (aD _) _).alloc (by simp) _).alloc (by simp;omega) _
theorem aY5 (s:ByteArray) (a n:Nat) (w:World) (hs:s.size<=1000000) (ha:a<=90000000) (b3:2<=n) (b4:n<=258):
  Calls pG 177 #[.string s,.int .i64 (a:Int),.int .i64 (n:Int)] w fun e w'=>CL w w' s.data.toList a n e:=by
 have HL:=hid (show s.data.toList.length=s.size by simp);have t1:decide ((a:Int)<0)=false:=aE (by omega);have e4:∀(fn:Fn) (first cap:Array Value) (w:World),(Instr.makeFunc fn first cap).run pG w=.ok (.func fn first cap) w:=fun _ _ _ _=>rfl
 have b5:=hid (fun k U=>aGb (s:=s.data.toList) (a:=a) (k:=k) b3 b4 U);have d2:=hid (TL s.data.toList a n b3 b4);have h0:=aGc s.data.toList (a:Int);rw[HL.out] at h0;have H0:=hid h0;clear h0;have b6:=jV s.data.toList (a:Int) 5;have a8:=iG (n:=s.size) (at':=(a:Int)) (k:=5);have b6:aK s.data.toList (a:Int) 5<32:=b6
 go_enter_defers func177,ntmps177
 go_wp2_with fail;refine(aF7 n _ b3 b4).mono ?_;rintro e w' ⟨rfl,rfl⟩;obtain⟨⟨d,A,F⟩,b7,a9⟩:=aY4 w 26 3 29 (.slice none 0 0) (.int .i64 0) (.int .i64 0) _ rfl;generalize ((w.alloc (.cells #[.slice none 0 0] 26)).alloc (.cells #[.int .i64 0] 3)).alloc (.cells #[.int .i64 0] 29)=w0 at*
 obtain⟨z,hz⟩:∃z,w.heap.size=z:=⟨_,rfl⟩;rw[hz] at d A F b7 a9 ⊢;have HZ:=hid hz;clear hz;go_wp2_with fail;have b8:DRd (w0.alloc (.cells #[.string s,.int .i64 (a:Int)] 279)) w0.heap.size s a:=Arr.new w0 279 [.string s,.int .i64 (a:Int)];have d:=d.alloc (.cells #[.string s,.int .i64 (a:Int)] 279);have A:=A.alloc (.cells #[.string s,.int .i64 (a:Int)] 279);have F:=F.alloc (.cells #[.string s,.int .i64 (a:Int)] 279);have b9:=b7.alloc (o:=.cells #[.string s,.int .i64 (a:Int)] 279) (by omega);have d3:(w0.alloc (.cells #[.string s,.int .i64 (a:Int)] 279)).heap.size=z+1+1+1+1:=by simp[a9]
 rw[a9] at b8;generalize w0.alloc (.cells #[.string s,.int .i64 (a:Int)] 279)=w1 at*
 clear b7 a9;refine(TO (z+1+1+1) s a 5 w1 b8 hs (by decide) (by omega)).mono ?_;rintro e w2 (⟨h1,rfl,c3,L⟩|⟨h1,rfl,L⟩)
 rotate_left
 ·have d:=d.grown L (by simp only[ne_eq,lJ];omega);have A:=A.grown L (by simp only[ne_eq,lJ];omega);have F:=F.grown L (by simp only[ne_eq,lJ];omega);have a7:=b9.grown L (by omega) (fun k U=>by obtain rfl:=cC U;omega);have H:=H0.out;rw[aB h1] at H;have M:=b5.out 0 (by omega) (by rw[H];exact h1);rw[H] at M;go_wp2_with fail;exact TQ M HZ.out d A F a7 rfl rfl rfl
 have a8:=a8 h1;have H:=H0.out;rw[aA (fun k=>k h1)] at H;obtain⟨V,hV⟩:∃V,V=aK s.data.toList (a:Int) 5:=⟨_,rfl⟩;rw[<-hV] at H b6 ⊢;clear hV h1;have d:=d.grown L (by simp only[ne_eq,lJ];omega);have A:=A.grown L (by simp only[ne_eq,lJ];omega);have F:=F.grown L (by simp only[ne_eq,lJ];omega);have a7:=b9.grown L (by omega) (fun k U=>by obtain rfl:=cC U;omega);have c4:z+1+1+1+1<=w2.heap.size:=by have:=L.size;omega
 clear b9 d3 L b8;go_wp2_with fail;refine(TP (z+1+1+1) (V:Int) w2).mono ?_;rintro e w3 (⟨h2,rfl,rfl⟩|⟨h2,rfl,rfl⟩)
 rotate_left
 ·rw[aB (by omega)] at H;have M:=b5.out 0 (by omega) (by rw[H];exact(by decide:(3:Int)≠0));rw[H] at M;go_wp2_with fail;exact TQ M HZ.out d A F a7 rfl rfl rfl
 rw[aA (by omega)] at H;have H0:=hid H;clear H;go_wp2_with fail
 go_loopg [10,28] n (fun g d4 d5 wr=>∃(k p:Nat) (m:Int) (v:Value),k<=n/\g=n-k/\d5=.int .i64 (k:Int)/\d4=.int .i64 m/\1<=m/\m<=20/\p<=90000005/\Hid ((bC s.data.toList (a:Int) k).2.2.2=0/\(bC s.data.toList (a:Int) k).2.1=m/\(bC s.data.toList (a:Int) k).2.2.1=(p:Int)/\(bC s.data.toList (a:Int) k).1.length=k)/\
  Arr wr z 26 [v]/\Arr wr (z+1) 3 [.int .i64 0]/\Arr wr (z+1+1) 29 [.int .i64 0]/\DRd wr (z+1+1+1) s p/\OwI wr (z+1+1+1+1) v (bC s.data.toList (a:Int) k).1/\Below z w wr/\z+1+1+1+1<=wr.heap.size)
 case atStart=>exact⟨0,a+5,(V:Int),_,Nat.zero_le _,rfl,rfl,rfl,by omega,by omega,by omega,hid ⟨by rw[H0.out],by rw[H0.out],by rw[H0.out];push_cast;rfl,by rw[H0.out];rfl⟩,d,A,F,c3,by rw[H0.out];exact OwI.nil _ _,a7,c4⟩
 case round=>
  clear d A F c3 a7 c4;obtain⟨k,p,m,v,U,hg,rfl,rfl,c5,c9,e5,HK,d,A,F,hA,ho,b0,e7⟩:=hrel;have HG:=hid hg;clear hg
  by_cases e8:k<n
  ·have v1:decide ((k:Int)<(n:Int))=true:=aG (by omega);have Z:=aGd HK.out.1;rw[HK.out.2.1,HK.out.2.2.1] at Z;have b1:=aY0 (z+1+1+1) s p m wr hA hs (by omega) c5 c9;have a0:=KW s.data.toList (8*s.data.toList.length+2) (p:Int) m (by omega) c5 c9;rw[HL.out] at a0;rw[show lQ s.data.toList (8*s.size+2) (p:Int) m=fS s.data.toList (p:Int) m by unfold fS;rw[HL.out]] at a0;obtain⟨G,q2,q3,hq⟩:∃G q2 q3,fS s.data.toList (p:Int) m=(G,q2,q3):=⟨_,_,_,rfl⟩;rw[hq] at Z b1 a0;simp only at Z b1 a0;clear hq;go_wp2_with fail;refine b1.mono ?_
   rintro e w3 (⟨b2,rfl,⟨p',d6,d7⟩,O⟩|⟨b2,rfl,O⟩)
   rotate_left
   ·rw[aB b2] at Z;have M:=b5.out (k+1) (by omega) (by rw[Z];exact b2);rw[Z] at M;have d:=d.grown O (by simp only[ne_eq,lJ];omega);have A:=A.grown O (by simp only[ne_eq,lJ];omega);have F:=F.grown O (by simp only[ne_eq,lJ];omega);have c0:=b0.grown O (by omega) (fun k U=>by obtain rfl:=cC U;omega);go_wp2_with fail;exact TQ M HZ.out d A F c0 rfl rfl rfl
   subst b2;subst d6;rw[aA (fun k=>k rfl)] at Z;obtain⟨a1,a2,a3,a4⟩:=a0 rfl;have HS:=hid Z;clear Z;have e9:(bC s.data.toList (a:Int) k).1.length<=258:=by rw[HK.out.2.2.2];omega
   have d:=d.grown O (by simp only[ne_eq,lJ];omega);have A:=A.grown O (by simp only[ne_eq,lJ];omega);have F:=F.grown O (by simp only[ne_eq,lJ];omega);have f0:z+1+1+1+1<=w3.heap.size:=by have:=O.size;omega
   have d8:OwI w3 (z+1+1+1+1) v (bC s.data.toList (a:Int) k).1:=Ow.kept ho O (by
    rcases hob:v.ownBlock with _|kb
    ·exact .inl rfl
    ·have:=(Ow.lt ho kb hob).1;refine .inr (fun e=>?_);have:=cC e;omega)
   have c0:=b0.grown O (by omega) (fun k U=>by obtain rfl:=cC U;omega);have c6:=d.cell (i:=0) rfl;clear ho b0;have c1:z<z+1+1+1+1:=by omega
   have d9:z+1<z+1+1+1+1:=by omega
   have e0:z+1+1<z+1+1+1+1:=by omega
   have e1:z+1+1+1<z+1+1+1+1:=by omega
   clear b1 a0 a8;go_wp2_with (at_builtin;refine gK rfl _ _ rfl (z+1+1+1+1) _ _ rfl (OwI.alloc d8 _) _ G rfl (bX _ _ _) ?_ ?_ ?_;(omega);(simp;omega);intro v4 w4 r1 r2 r3;obtain⟨a5,a6,rfl,_,_,_⟩:=(OwI.rd r1).open;have f6:=((d.alloc (.cells #[.int .i64 G] 3)).below r2 c1).free 0;have e6:=((d.alloc (.cells #[.int .i64 G] 3)).below r2 c1).cell (i:=0) rfl);have k6:=((d.alloc (.cells #[.int .i64 G] 3)).below r2 c1).set 0 (.slice a5 ((bC s.data.toList (a:Int) k).1.length+1) a6)
   have k7:=((A.alloc (.cells #[.int .i64 G] 3)).below r2 d9).other ⟨z,0,none⟩ (by show _≠_;simp only[ne_eq];omega) (.slice a5 ((bC s.data.toList (a:Int) k).1.length+1) a6);have k8:=((F.alloc (.cells #[.int .i64 G] 3)).below r2 e0).other ⟨z,0,none⟩ (by show _≠_;simp only[ne_eq];omega) (.slice a5 ((bC s.data.toList (a:Int) k).1.length+1) a6);have kA:=((Arr.alloc d7 (.cells #[.int .i64 G] 3)).below r2 e1).other ⟨z,0,none⟩ (by show _≠_;simp only[ne_eq];omega) (.slice a5 ((bC s.data.toList (a:Int) k).1.length+1) a6)
   have kB:=((c0.alloc (o:=.cells #[.int .i64 G] 3) (by omega)).trans (r2.mono (by omega))).setCell (p:=⟨z,0,none⟩) (aD _) (.slice a5 ((bC s.data.toList (a:Int) k).1.length+1) a6);have hg:=HG.out
   go_roundg (n-(k+1))
   case measure=>omega
   case rel=>
    refine⟨k+1,p',G,_,by omega,rfl,by go_num,rfl,a1,a2,by omega,hid ⟨by rw[HS.out],by rw[HS.out],by rw[HS.out],by rw[HS.out,aL,HK.out.2.2.2];rfl⟩,k6,k7,k8,kA,?_,kB,?_⟩
    ·rw[HS.out];rw[aL] at r1;refine Ow.kept r1 (gbS w4 z 0 _) ?_;rcases hob:(mM a5 ((bC s.data.toList (a:Int) k).1.length+[G].length) a6).ownBlock with _|kb
     ·exact .inl rfl
     ·have:=(Ow.lt r1 kb hob).1;refine .inr (fun e=>?_);have:=cC e;omega
    ·have:=r2.size;simp only[fP] at this;simp only[World.size_setCell];omega
  ·have v1:decide ((k:Int)<(n:Int))=false:=aE (by omega);have e2:k=n:=by omega
   subst e2;have c2:=d2.out;rw[aA (fun q=>q HK.out.1),HK.out.2.2.1] at c2;have M:=hid c2;obtain⟨I,J,rfl,_,_,_⟩:=(OwI.rd ho).open;have c6:=d.cell (i:=0) rfl;have c7:=A.cell (i:=0) rfl;have c8:=F.cell (i:=0) rfl;have f6:=d.free 0;have f7:=A.free 0;have f8:=F.free 0;have d0:=Arr.cell hA (i:=0) rfl;have d1:=Arr.cell hA (i:=1) rfl;clear c2 a8;go_wp2_with fail
   go_region
   go_wp2_with fail;refine leaves_cons (f:=223) (args:=#[.pointer (some ⟨z,0,none⟩),.pointer (some ⟨z+1,0,none⟩),.pointer (some ⟨z+1+1,0,none⟩)]) (by simp) (by simp[go_sem]) ?_;refine(aY1 ⟨z,0,none⟩ ⟨z+1,0,none⟩ ⟨z+1+1,0,none⟩ _).mono ?_;rintro e u' f1 ⟨rfl,rfl,rfl⟩;have e3:=HZ.out;have k6:=((d.set 0 (.slice I (bC s.data.toList (a:Int) k).1.length J)).other ⟨z+1,0,none⟩ (by show _≠_;simp only[ne_eq];omega) (.int .i64 (p:Int))).other ⟨z+1+1,0,none⟩ (by show _≠_;simp only[ne_eq];omega) (.int .i64 0)
   have k7:=((A.other ⟨z,0,none⟩ (by show _≠_;simp only[ne_eq];omega) (.slice I (bC s.data.toList (a:Int) k).1.length J)).set 0 (.int .i64 (p:Int))).other ⟨z+1+1,0,none⟩ (by show _≠_;simp only[ne_eq];omega) (.int .i64 0);have k8:=((F.other ⟨z,0,none⟩ (by show _≠_;simp only[ne_eq];omega) (.slice I (bC s.data.toList (a:Int) k).1.length J)).other ⟨z+1,0,none⟩ (by show _≠_;simp only[ne_eq];omega) (.int .i64 (p:Int))).set 0 (.int .i64 0)
   have kB:=((b0.setCell (p:=⟨z,0,none⟩) (aD _) (.slice I (bC s.data.toList (a:Int) k).1.length J)).setCell (p:=⟨z+1,0,none⟩) (tJ _) (.int .i64 (p:Int))).setCell (p:=⟨z+1+1,0,none⟩) (by show z<=z+1+1;omega) (.int .i64 0);have kv:∀(q:Nat) (V:Value) (W:World),q<z+1+1+1+1->OwI W (z+1+1+1+1) (mM I (bC s.data.toList (a:Int) k).1.length J) (bC s.data.toList (a:Int) k).1->OwI (W.setCell ⟨q,0,none⟩ V) (z+1+1+1+1) (mM I (bC s.data.toList (a:Int) k).1.length J) (bC s.data.toList (a:Int) k).1:=fun q V W hq h=>by
    refine Ow.kept h (gbS W q 0 V) ?_;rcases hob:(mM I (bC s.data.toList (a:Int) k).1.length J).ownBlock with _|kb
    ·exact .inl rfl
    ·have:=(Ow.lt h kb hob).1;refine .inr (fun e=>?_);have:=cC e;omega
   have kO:=kv (z+1+1) (.int .i64 0) _ (by omega) (kv (z+1) (.int .i64 (p:Int)) _ (by omega) (kv z (.slice I (bC s.data.toList (a:Int) k).1.length J) _ (by omega) ho));generalize ((wr.setCell ⟨z,0,none⟩ (.slice I (bC s.data.toList (a:Int) k).1.length J)).setCell ⟨z+1,0,none⟩ (.int .i64 (p:Int))).setCell ⟨z+1+1,0,none⟩ (.int .i64 0)=w5 at*
   have k6:Arr w5.drew z 26 [.slice I (bC s.data.toList (a:Int) k).1.length J]:=k6;have k7:Arr w5.drew (z+1) 3 [.int .i64 (p:Int)]:=k7;have k8:Arr w5.drew (z+1+1) 29 [.int .i64 0]:=k8;have kO:OwI w5.drew (z+1+1+1+1) (.slice I (bC s.data.toList (a:Int) k).1.length J) (bC s.data.toList (a:Int) k).1:=kO;have kB:=kB.drew;generalize w5.drew=w6 at*
   have c6:=k6.cell (i:=0) rfl;have c7:=k7.cell (i:=0) rfl;have c8:=k8.cell (i:=0) rfl;refine⟨_,aGn rfl _ w6 ⟨z,0,none⟩ ⟨z+1,0,none⟩ ⟨z+1+1,0,none⟩ (.slice I (bC s.data.toList (a:Int) k).1.length J) (.int .i64 (p:Int)) (.int .i64 0) rfl rfl rfl (by simp[go_sem,c6]) (by simp[go_sem,c7]) (by simp[go_sem,c8]),?_⟩;exact⟨_,by rw[M.out],by rw[M.out];exact Ow.base kO (by omega),by rw[e3];exact kB⟩
def eS (T:List TypeId) (p:Option Nat) (A B:World):Prop:=A.heap.size<=B.heap.size/\∀k c e d,A.heap[k]? =some (.cells c e d)->e∈T->some k≠p->B.heap[k]? =some (.cells c e d)
theorem eS.of_kept {T:List TypeId} {p:Option Nat} {A B:World} (h:bW none A B):eS T p A B:=⟨h.1,fun k c e F d _ _=>h.2 k _ d rfl (fun q=>by cases q)⟩
theorem eS.of_below {T:List TypeId} {p:Option Nat} {A B:World} (h:Below A.heap.size A B):eS T p A B:=.of_kept (.of_below h)
theorem eS.trans {T:List TypeId} {p:Option Nat} {A B C:World} (h:eS T p A B) (k:eS T p B C):eS T p A C:=by grind [eS]
theorem eS.arr {T:List TypeId} {p:Option Nat} {A B:World} {b e:Nat} {l:List Value} (h:eS T p A B) (d:Arr A b e l) (F:e∈T) (G:some b≠p):Arr B b e l:=h.2 b _ _ _ d F G
theorem eS.own {T:List TypeId} {A B:World} {d e F n:Nat} {v:Value} {G:List Value} (h:eS T none A B) (H:A.ownsRow d e F v n G) (I:e∈T):B.ownsRow d e F v n G:=by
 refine⟨H.1,?_⟩;rcases H.2 with J|⟨g,cap,L,rfl,M,O,rest⟩
 ·exact .inl J
 ·exact .inr ⟨g,cap,L,rfl,M,h.2 g _ _ _ O I (fun q=>by cases q),rest⟩
theorem eS.box {T:List TypeId} {p:Option Nat} {w:World} {g i e:Nat} {l:List Value} (h:Arr w g e l) (A:e ∉ T) (v:Value):eS T p w (w.setCell ⟨g,i,none⟩ v):=
 ⟨by simp,fun k c F G d H _=>by
  have:k≠g:=fun q=>by grind [Arr,eS]
  rw[heap_setCell_other w ⟨g,i,none⟩ k v this];exact d⟩
theorem eS.grownBox {T:List TypeId} {p:Option Nat} {A B:World} {b e:Nat} {l:List Value} (h:A.grownBy B (some b)) (F:Arr A b e l) (G:e ∉ T):eS T p A B:=
 ⟨h.size,fun k c H I d J _=>(h.block k (fE.1 d).1 (fun q=>by grind [Arr,eS])).trans d⟩
theorem eS.app {T:List TypeId} {p:Option Nat} {e B A n:Nat} {w w':World} {v:Value} {F:List Value} (G:w.ownsRow B e A v n F) (h:w.grownBy w' v.ownBlock) (H:e ∉ T):eS T p w w':=
 ⟨h.size,fun k c I J d L _=>by
  refine(h.block k (fE.1 d).1 (fun q=>?_)).trans d;rcases G.2 with⟨rfl,_⟩|⟨g,cap,M,rfl,_,O,_⟩
  ·cases q
  ·obtain rfl:=cC q
   grind⟩
theorem eS.grown {T:List TypeId} {A B:World} {b:Nat} (h:A.grownBy B (some b)):eS T (some b) A B:=⟨h.size,fun k c e G d _ F=>(h.block k (fE.1 d).1 F).trans d⟩
def aIq {α:Type} (n:Nat) (P:fO) (g:Nat) (lb:Array Value) (encs:α->Array Value) (Ri Kp:World->World->Prop) (Ok:World->Prop) (Pre:List α->α->Prop) (I:List α->Prop) (w:World):Prop:=
 ∀(l:Nat) (J F:List α->World->Prop) (W:World),Below w.heap.size w W->(∀s A B,J s A->Below W.heap.size A B->Ri A B->J s B)->(∀s A B,F s A->Below W.heap.size A B->Ri A B->F s B)->(∀s A,J s A->Ok A)->
  (∀pre x G,J pre G->W.heap.size<=G.heap.size->Pre pre x->
   YieldAt cZ (n-1) P l (encs x) G fun e d=>(e=.returned (.bool true)/\J (pre++[x]) d/\Kp G d)\/(e=.returned (.bool false)/\F (pre++[x]) d))->
  J [] W->
  CallsIn cZ n P g (#[.func (.yield l) #[] #[]]++lb) W fun e d=>(∃v,e=.returned v)/\((∃H,I H/\J H d)\/∃pre,F pre d)
theorem bBz {α:Type} {n:Nat} {P:fO} {g:Operand} {ps:Array Tmp} {assign body:Code} {Q:Exit->Act->World->Prop} {a:Act} {w:World}
  (h1:1<=n) {gf:Nat} {lb:Array Value} (hg:a.eval g=.func (.func gf) #[] lb) (eg:∀args w,(callFunc gf args).run P w=.ok (.enter gf args) w)
  {encs:α->Array Value} {Ri Kp:World->World->Prop} {Ok:World->Prop} {Pre:List α->α->Prop} {b5:List α->Prop} {w0:World} (b8:aIq (n-1) P gf lb encs Ri Kp Ok Pre b5 w0) (b6:Below w0.heap.size w0 w) (b9:∀x,(encs x).size=ps.size)
  (b1:∀{A B C:World},Kp A B->Kp B C->Kp A C) (b2:∀A B,bW none A B->Kp A B) (Z:∀A B,bW none A B->Ri A B)
  (I:List α->World->Prop) (Ix:Code->List α->World->Prop) (hI:∀s A B,I s A->Below w.heap.size A B->Ri A B->I s B) (a7:∀c s A B,Ix c s A->Below w.heap.size A B->Ri A B->Ix c s B) (h0:I [] w) (c0:∀s A,I s A->Ok A)
  (Ax:α->Act->World->Prop) (c1:∀x O A A',Ax x O A->bW none A A'->Ax x O A')
  (c2:∀(l:Nat) (pre:List α) (x:α) (W:World) (K:Act->World->Prop),I pre W->w.heap.size<=W.heap.size->Pre pre x->(∀O W',Below W.heap.size W W'->Ax x O W'->K O W')->
   assign.wpIn (cZ.inRound l) (n-1-1) P (Exit.then K (fun _ _ _=>False)) {tmps:=(ps.zip (encs x)).foldl (fun t (p,v)=>t.setIfInBounds p v) a.tmps,defers:=[]} W)
  (hbody:∀(l:Nat) (pre:List α) (x:α) (O:Act) (W:World),I pre W->w.heap.size<=W.heap.size->Pre pre x->Ax x O W->body.wpIn (cZ.inRound l) (n-1-1) P (ownPostG w.heap.size Kp I Ix (pre++[x]) W) O W)
  (hdone:∀(D:Nat) (xs:List α) (W:World),w.heap.size<=D->b5 xs->I xs W->W.heap[D]? =some (.deferred (some []))->Q .normal {a with defers:={target:=.collected D,args:=#[]}::a.defers} W)
  (hstop:∀(D:Nat) (c:Code) (pre:List α) (W:World),w.heap.size<=D->Ix c pre W->W.heap[D]? =some (.deferred (some []))->c.wpIn cZ n P Q {a with defers:={target:=.collected D,args:=#[]}::a.defers} W):
  (Code.rangeFunc g ps assign body).wpIn cZ n P Q a w:=by
 refine wpIn_rangeFunc ?_;intro fn c3;rw[show cZ.round=none from rfl];obtain⟨d,U⟩:∃d:LoopState->Option Code->Loop,d=fun st pe=>{state:=st,pending:=pe,fn,tmps:=a.tmps,params:=ps,assign,body,defers:=w.heap.size}:=⟨_,rfl⟩
 obtain⟨H,a8⟩:∃H,(w.alloc (.deferred (some []))).alloc (.loop (d .ready none))=H:=⟨_,rfl⟩;have c4:H.heap[w.heap.size+1]? =some (.loop (d .ready none)):=by
  rw[<-a8];have:=AZ (w.alloc (.deferred (some []))) (.loop (d .ready none));rwa[fP] at this
 have c5:H.heap[w.heap.size]? =some (.deferred (some [])):=by
  rw[<-a8];exact(Below.heap_alloc _ _ _ (by simp)).trans (AZ w _)
 have b3:Below w.heap.size w H:=by rw[<-a8];exact((aH _ w).alloc (aD _) _).alloc (by simp) _
 have c6:I [] H:=hI _ _ _ h0 b3 (Z _ _ (bW.of_below b3));have d6:H.heap.size=w.heap.size+2:=by rw[<-a8];simp
 have c7:Below w0.heap.size w0 H:=b6.trans (b3.mono b6.size);have a0:∀(A:World) (l:Nat) (o o':Obj),w.heap.size<=l->A.heap[l]? =some o->o.isCells=false->o.isWalk=false->Below w.heap.size A (A.putObj l o'):=fun A l o o' G h k1 k2=>belowK_b (w:=w) (aD _) A l o o' G h k1 k2
 refine⟨w.heap.size+1,[{target:=.collected w.heap.size,args:=#[]}],H,{target:=.fn (.func gf) lb,args:=#[.func (.yield (w.heap.size+1)) #[] #[]]},H,gf,
  #[.func (.yield (w.heap.size+1)) #[] #[]]++lb,H,?_,?_,?_,?_,fun _=>h1,?_⟩
 ·rw[<-a8,U];exact run_enterLoop_outer _ _ _ _ _
 ·simp only[resolve,hg];simp[go_sem]
 ·exact fun _ _=>trivial
 ·simp[invoke,go_sem,eg]
 ·have a9:∀{A B:World} {k:Nat} {o:Obj},Below H.heap.size A B->k<H.heap.size->A.heap[k]? =some o->B.heap[k]? =some o:=fun h hk ho=>(h.block _ hk).trans ho
  refine(b8 (w.heap.size+1)
   (fun pre W=>I pre W/\W.heap[w.heap.size+1]? =some (.loop (d .ready none))/\W.heap[w.heap.size]? =some (.deferred (some [])))
   (fun pre W=>∃c,Ix c pre W/\W.heap[w.heap.size+1]? =some (.loop (d .done (some c)))/\W.heap[w.heap.size]? =some (.deferred (some [])))
   H c7
   (fun s A B hs a1 M=>⟨hI s A B hs.1 (a1.mono (by omega)) M,a9 a1 (by omega) hs.2.1,a9 a1 (by omega) hs.2.2⟩)
   (fun s A B hs a1 M=>by
    obtain⟨c,hc,G,hk⟩:=hs;exact⟨c,a7 c s A B hc (a1.mono (by omega)) M,a9 a1 (by omega) G,a9 a1 (by omega) hk⟩)
   (fun s A hs=>c0 s A hs.1) ?_ ⟨c6,c4,c5⟩).mono ?_
  ·rintro pre x W ⟨hi,G,hk⟩ d7 b7;have c8:w.heap.size+1<W.heap.size:=(fE.1 G).1;have hy:=run_yield (P:=P) (args:=encs x) G (by rw[U];exact b9 x);rw[U] at hy;refine⟨fn,_,assign,body,hy,roundIn_of_wpIn c3 (c2 _ pre x W _ hi (by omega) b7 ?_)⟩;clear hy;intro O Wa a6 c9;have b0:Wa.heap[w.heap.size+1]? =some (.loop (d .ready none)):=(a6.block _ c8).trans G;have d0:Wa.heap[w.heap.size]? =some (.deferred (some [])):=(a6.block _ (by omega)).trans hk;have d1:w.heap.size+1<Wa.heap.size:=(fE.1 b0).1
   have d2:I pre Wa:=hI _ _ _ hi (a6.mono (by omega)) (Z _ _ (bW.of_below a6));refine⟨_,run_beginRound b0 (by rw[U]),?_⟩;have d3:(Wa.putObj (w.heap.size+1) (.loop {d .ready none with state:=.busy})).heap[w.heap.size+1]? =some (.loop {d .ready none with state:=.busy}):=BA d1;have d4:(Wa.putObj (w.heap.size+1) (.loop {d .ready none with state:=.busy})).heap[w.heap.size]? =some (.deferred (some [])):=(qA (by omega)).trans d0
   have b4:∀bo,bW bo Wa (Wa.putObj (w.heap.size+1) (.loop {d .ready none with state:=.busy})):=fun bo=>bW.putObj _ _ b0 rfl
   refine wpIn_mono (hbody _ pre x O _ (hI _ _ _ d2 (a0 _ _ _ _ (by omega) b0 rfl rfl) (Z _ _ (b4 none))) (by have:=a6.size;simp;omega) b7 (c1 _ _ _ _ c9 (b4 none))) ?_;have fin:∀(J:Option Code) (L:World),KeepsFrom w.heap.size (Wa.putObj (w.heap.size+1) (.loop {d .ready none with state:=.busy})) L->
     (Instr.endRound (w.heap.size+1) J).run P L=.ok (.bool J.isNone) (L.putObj (w.heap.size+1) (.loop (d (if J.isNone then .ready else .done) J)))/\
     L.heap[w.heap.size+1]? =some (.loop {d .ready none with state:=.busy})/\
     (L.putObj (w.heap.size+1) (.loop (d (if J.isNone then .ready else .done) J))).heap[w.heap.size+1]? =some (.loop (d (if J.isNone then .ready else .done) J))/\
     (L.putObj (w.heap.size+1) (.loop (d (if J.isNone then .ready else .done) J))).heap[w.heap.size]? =some (.deferred (some [])):=fun J L V=>by
    have F:=V.same _ _ (by omega) d3 rfl;have:=run_endRound (P:=P) J F;rw[U] at this ⊢;exact⟨this,by rw[U] at F;exact F,BA (fE.1 F).1,(qA (by omega)).trans (V.same _ _ (aD _) d4 rfl)⟩
   rintro e a3 L hp
   cases e with
   |normal=>
    obtain⟨V,d5,a2⟩:=hp;obtain⟨M,F,a4,a5⟩:=fin none L V;exact⟨_,_,M,.inl ⟨rfl,⟨hI _ _ _ a2 (a0 _ _ _ _ (by omega) F rfl rfl) (Z _ _ (bW.putObj _ _ F rfl)),a4,a5⟩,b1 (b2 _ _ (bW.of_below a6)) (b1 (b2 _ _ (b4 none)) (b1 d5 (b2 _ _ (bW.putObj _ _ F rfl))))⟩⟩
   |ret=>
    obtain⟨V,a2⟩:=hp;obtain⟨M,F,a4,a5⟩:=fin (some .ret) L V;exact⟨_,_,M,.inr ⟨rfl,.ret,a7 _ _ _ _ a2 (a0 _ _ _ _ (by omega) F rfl rfl) (Z _ _ (bW.putObj _ _ F rfl)),a4,a5⟩⟩
   |exit id=>
    obtain⟨V,a2⟩:=hp;obtain⟨M,F,a4,a5⟩:=fin (some (.exit id)) L V;exact⟨_,_,M,.inr ⟨rfl,.exit id,a7 _ _ _ _ a2 (a0 _ _ _ _ (by omega) F rfl rfl) (Z _ _ (bW.putObj _ _ F rfl)),a4,a5⟩⟩
   |goto t=>
    obtain⟨V,a2⟩:=hp;obtain⟨M,F,a4,a5⟩:=fin (some (.goto t)) L V;exact⟨_,_,M,.inr ⟨rfl,.goto t,a7 _ _ _ _ a2 (a0 _ _ _ _ (by omega) F rfl rfl) (Z _ _ (bW.putObj _ _ F rfl)),a4,a5⟩⟩
   |panic ch=>exact hp.elim
   |outgrown=>exact hp.elim
  ·rintro e W2 ⟨⟨v,rfl⟩,(⟨xs,hS,hi,G,hk⟩|⟨pre,c,hi,G,hk⟩)⟩
   ·exact⟨none,_,by have:=run_endLoop (P:=P) G (by rw[U];simp);rw[U] at this;exact this,hdone _ xs _ (aD _) hS (hI _ _ _ hi (a0 _ _ _ _ (by omega) G rfl rfl) (Z _ _ (bW.putObj _ _ G rfl))) ((qA (by omega)).trans hk)⟩
   ·exact⟨some c,_,by have:=run_endLoop (P:=P) G (by rw[U];simp);rw[U] at this;exact this,hstop _ c pre _ (aD _) (a7 _ _ _ _ hi (a0 _ _ _ _ (by omega) G rfl rfl) (Z _ _ (bW.putObj _ _ G rfl))) ((qA (by omega)).trans hk)⟩
end
end Go.Proofs.YtihbnmlinkbnkaaGreatDoor
