/-
  Texts put together (part 21): the walks and the plain laws on which the statement stands.
-/
import Derived.LaidEql
import Derived.Stop.Asserts
import Derived.RowKitTokens
import Derived.Test.YtfplbbphficcjaaGreatDoorZ16
set_option maxRecDepth 100000
set_option maxHeartbeats 12800000
set_option linter.unusedVariables false
set_option linter.unusedSimpArgs false
open Go.Proofs.Tryz
open Go.Proofs.Tryz renaming prog->pG
open Go renaming run_callFunc_extern->rZ
open Go.Act renaming put->bJ
open Go.Extern.ReflectliteType renaming abiMethod->aLr,assignableTo->aLt,implements_->bGg,method->WZ,relation->OJ,toType->bGf,typeOf->OL
open Go.Extern.ReflectliteValue renaming elem->aLv,flagAddr->aLu,isNil->aLs,method->OI,methodAny->bGe,parts->IN,set->aLw,unpack->WY,valueError->IM
open Go.Extern.Rtype renaming directlyAssignable->bGh
open Go.Instr renaming typeAssert->tZ
open Go.IntKind renaming u8->oQ
open Go.Proofs renaming enters_of->gQ
open Go.Result renaming andThen->lW
open Go.RowKit.Below renaming refl->aH
open Go.Sem renaming run_bind->vI
open Go.Value renaming func->lK,int->bQ
open Go.World renaming block_lt_of_cell?->gV,cell?_alloc_lt->OO,setCell_alloc_new->aLq
open List renaming getElem?_cons_succ->gH,getElem?_cons_zero->gB,getElem?_toArray->gA,length_cons->aU,length_nil->aV,setIfInBounds_toArray->bK,set_cons_succ->bB,set_cons_zero->bH,size_toArray->dB
open Nat renaming le_refl->aD,lt_of_lt_of_le->fB,reduceAdd->cV,reduceSub->dC
namespace Go.Proofs.YtfplbbphficcjaaGreatDoor
section
open Go.RowKit Go.Shelf
theorem QT (x:Int) (w:World):Calls pG 154 #[.int .i64 x] w fun e w'=>e=.returned (.int .i64 x)/\w'=w:=by
 go_enter func154,ntmps154;go_wp2_with fail;go_ret;exact⟨rfl,rfl⟩
theorem aBc (x:Int) (w:World):Calls pG 158 #[.int .i64 x] w fun e w'=>e=.returned (.int .i64 (if x=0 then 0 else 3))/\w'=w:=by
 by_cases h:x=0
 ·subst h;go_enter func158,ntmps158;go_wp2_with fail;go_ret;exact⟨rfl,rfl⟩
 ·have d:(x != 0)=true:=by simpa using h
  rw[aA h];go_enter func158,ntmps158;go_wp2_with fail;go_ret;exact⟨rfl,rfl⟩
theorem QV {w d:World} {e:Nat} (h:Below w.heap.size w d) (i:Nat) (v:Value):w.grownBy (d.setCell ⟨e,i,none⟩ v) (some e):=qS (vY h _) i v
theorem OwI.setW {w e:World} {B d:Nat} {v:Value} {l:List Int} (h:OwI e B v l) (A:d<w.heap.size) (D:w.heap.size<=B) (i:Nat) (x:Value):RdI (e.setCell ⟨d,i,none⟩ x) v l:=
 (h.setLow (p:=⟨d,i,none⟩) (fB A D) x).rd
theorem aQ1 (d:Nat) (a:ByteArray) (o most:Int) (v G:Value) (m:List Int) (b:ByteArray) (w:World) (h:Arr w d 227 [.string a,.int .i64 o,v,.int .i64 most,G,.string b]) (H:RdI w G m) (I:m.length<=1000000) (J:∀x∈m,0<=x/\x<=1000000) (L: -9223372036854775808<=most) (M:most<=1000000):
  Calls pG 156 #[.pointer (some ⟨d,0,none⟩)] w fun e w'=>e=.returned (.int .i64 (rM m most))/\w.grownBy w' (some d)/\∃O,Arr w' d 227 [.string a,.int .i64 o,v,.int .i64 most,O,.string b]/\RdI w' O (sQ m most):=by
 obtain⟨A,D,rfl,a1,a2,_⟩:=H.open;have T:=h.lt;have c3:=h.cell (i:=3) rfl;have c4:=h.cell (i:=4) rfl;have Z:∀W:World,RdI W (.slice A m.length D) m->Hid (Calls pG 180 #[.slice A m.length D,.int .i64 most] W fun e w'=>∃F,e=.returned (.tuple #[F,.int .i64 (rM m most)])/\OwI w' W.heap.size F (sQ m most)/\Below W.heap.size W w'):=fun W hW=>hid (aP4 _ m most W hW I J L M)
 have a4:RdI w.drew (.slice A m.length D) m:=H;clear I J L M;go_enter func156,ntmps156;go_upto_region 1 with fail
 go_region_with (go_at_call 180;refine((Z _ (by assumption)).out).mono ?_;rintro e U ⟨F,rfl,V,hb⟩;obtain⟨a3,k3,e3,_,_,_⟩:=V.rd.open;subst e3;have Y:Below w.heap.size w U:=(aH _ _).drew.trans hb;have a0:OwI U w.heap.size _ _:=V;have k:=h.below Y T;have k4:=k.cell (i:=4) rfl;have k5:=k.free)
 all_goals go_wp2_with fail
 all_goals go_ret
 all_goals exact⟨rfl,QV Y 4 _,_,k.set 4 _,a0.setW T (aD _) 4 _⟩
theorem aQ2 (d:Nat) (a:ByteArray) (o most:Int) (v h:Value) (b:ByteArray) (w:World) (A:Arr w d 227 [.string a,.int .i64 o,v,.int .i64 most,h,.string b]) (D:RdI w h []):
  Calls pG 157 #[.pointer (some ⟨d,0,none⟩)] w fun e w'=>e=.returned (.int .i64 3)/\w'=w:=by
 obtain⟨F,G,rfl,_,_,_⟩:=D.open;have H:=A.cell (i:=4) rfl;go_enter func157,ntmps157;go_wp2_with fail;go_ret;exact⟨rfl,rfl⟩
theorem aQ3 (d:Nat) (a:ByteArray) (o most:Int) (v A:Value) (m:List Int) (b:ByteArray) (w:World) (h:Arr w d 227 [.string a,.int .i64 o,v,.int .i64 most,A,.string b]) (G:RdI w A m) (Z:0<m.length) (H:a.size<=1000) (I:m.length<=1000000) (J:a.data.toList.Nodup) (L:∀x∈m,0<=x/\x<(a.size:Int)):
  Calls pG 157 #[.pointer (some ⟨d,0,none⟩)] w fun e w'=>e=.returned (.int .i64 0)/\w.grownBy w' (some d)/\Arr w' d 227 [.string a,.int .i64 o,v,.int .i64 most,A,.string (mkS (unL a.data.toList m))]:=by
 obtain⟨D,F,rfl,_,_,_⟩:=G.open;have O:=h.lt;have c0:=h.cell (i:=0) rfl;have c4:=h.cell (i:=4) rfl;have t1:((m.length:Int)==0)=false:=by rw[cB];omega
 have t2:decide (m.length=0)=false:=aE (by omega);have T:∀W:World,RdI W (.slice D m.length F) m->Hid (Calls pG 181 #[.string a,.slice D m.length F] W fun e w'=>e=.returned (.tuple #[.string (mkS (unL a.data.toList m)),.int .i64 0])/\Below W.heap.size W w'):=fun W U=>hid (aOl a _ m W H I J U L)
 have a0:RdI w.drew (.slice D m.length F) m:=G;clear H I J L;go_enter func157,ntmps157;go_upto_region 3 with fail
 go_region_with (go_at_call 181;refine((T _ (by assumption)).out).mono ?_;rintro e V ⟨rfl,Y⟩;have M:Below w.heap.size w V:=(aH _ _).drew.trans Y;have k:=h.below M O;have k4:=k.cell (i:=5) rfl;have k5:=k.free)
 all_goals go_wp2_with fail
 all_goals go_ret
 all_goals exact⟨rfl,QV M 5 _,k.set 5 _⟩
theorem aQ4 (d:Nat) (a:ByteArray) (o most:Int) (v D:Value) (b:ByteArray) (w:World) (h:Arr w d 227 [.string a,.int .i64 o,v,.int .i64 most,D,.string b]) (A:b.size<=1000000000) (F: -9223372036854775808<=o) (G:o<=9223372036854775807):
  Calls pG 159 #[.pointer (some ⟨d,0,none⟩)] w fun e w'=>e=.returned (.int .i64 (rK b.data.toList o))/\w.grownBy w' (some d)/\Arr w' d 227 [.string a,.int .i64 o,v,.int .i64 most,D,.string (mkS (oU b.data.toList o))]:=by
 have I:=h.lt;have M:=h.cell (i:=1) rfl;have O:=h.cell (i:=5) rfl;have J:∀W:World,Hid (Calls pG 182 #[.string b,.int .i64 o] W fun e w'=>e=.returned (.tuple #[.string (mkS (oU b.data.toList o)),.int .i64 (rK b.data.toList o)])/\Below W.heap.size W w'):=fun W=>hid (aQt b o W A F G)
 clear A F G;go_enter func159,ntmps159;go_upto_region 1 with fail
 go_region_with (go_at_call 182;refine((J _).out).mono ?_;rintro e L ⟨rfl,A⟩;have H:Below w.heap.size w L:=(aH _ _).drew.trans A;have k:=h.below H I;have T:=k.cell (i:=5) rfl;have U:=k.free)
 all_goals go_wp2_with fail
 all_goals go_ret
 all_goals exact⟨rfl,QV H 5 _,k.set 5 _⟩
def QW (w:World) (d:Nat) (E:Nat->Int) (S:Nat->World->Prop) (e:Ending) (w':World):Prop:=
 w.grownBy w' (some d)/\((∃k,k<5/\E k≠0/\(∀j,j<k->E j=0)/\e=.returned (.iface 264 (.agg #[.int .i64 (k:Int),.iface 228 (.int .i64 (E k))])))\/((∀j,j<5->E j=0)/\S 5 w'/\e=.returned .nilIface))
theorem aQ5 {w w':World} {d:Nat} {E:Nat->Int} {S:Nat->World->Prop} {k:Nat} (e:w.grownBy w' (some d)) (h:k<5) (A:E k≠0) (D:∀j,j<k->E j=0):QW w d E S (.returned (.iface 264 (.agg #[.int .i64 (k:Int),.iface 228 (.int .i64 (E k))]))) w':=by grind [QW]
theorem aQ6 {w w':World} {d:Nat} {E:Nat->Int} {S:Nat->World->Prop} (e:w.grownBy w' (some d)) (h:∀j,j<5->E j=0) (A:S 5 w'):QW w d E S (.returned .nilIface) w':=by grind [QW]
abbrev vZ (W:World) (h e d y:Nat) (w':World):Prop:=w'.cell? ⟨e,0,none⟩=some (lK (.func d) #[] #[])/\w'.cell? ⟨e,1,none⟩=some (lK (.func y) #[] #[])/\W.grownBy w' (some h)/\e<w'.heap.size
theorem vZ.drew {W w:World} {e A d y:Nat} (h:vZ W e A d y w):vZ W e A d y w.drew:=⟨h.1,h.2.1,EJ h.2.2.1 ⟨rfl,rfl,rfl,aD _,fun _ _ _=>rfl⟩,h.2.2.2⟩
theorem vZ.keep {W w w':World} {e D d y:Nat} (h:vZ W e D d y w) (F:D≠e) (A:w.grownBy w' (some e)):vZ W e D d y w':=
 ⟨A.cell h.1 (by grind),A.cell h.2.1 (by grind),EJ h.2.2.1 A,fB h.2.2.2 A.size⟩
theorem aQ7 (A M:Nat) (w:World) (O T:Nat->Nat) (D E:Nat->Int) (S:Nat->World->Prop)
  (hc:∀k,k<5->w.cell? ⟨M,k*2,none⟩=some (lK (.func (O k)) #[] #[])/\w.cell? ⟨M,k*2+1,none⟩=some (lK (.func (T k)) #[] #[])) (a5:M≠A) (c0:A<w.heap.size)
  (a6:∀k,k<5->Enters pG (O k)) (a7:∀k,k<5->Enters pG (T k))
  (hd:∀k,k<5->∀W,S k W->w.grownBy W (some A)->(∀j,j<k->E j=0)->Calls pG (O k) #[.pointer (some ⟨A,0,none⟩)] W fun e F=>e=.returned (.int .i64 (D k))/\W.grownBy F (some A)/\(E k=0->S (k+1) F))
  (hy:∀k,k<5->∀W,Calls pG (T k) #[.int .i64 (D k)] W fun e F=>e=.returned (.int .i64 (E k))/\F=W)
  (hS:∀k W F,S k W->Below W.heap.size W F->S k F) (h0:S 0 w):
  Calls pG 152 #[.pointer (some ⟨A,0,none⟩),.slice (some ⟨M,0,none⟩) 5 5] w (QW w A E S):=by
 have HC:=hid hc;have b2:=hid a6;have b3:=hid a7;have HD:=hid hd;have HY:=hid hy;have HS:=hid hS;clear hc a6 a7 hd hy hS;go_enter func152,ntmps152;go_wp2_with fail
 go_loopg [10,5,6,7] 5 (fun gh b4 _s5 _s6 _s7 wr=>∃k:Nat,k<=5/\gh=5-k/\b4=.int .i64 k/\S k wr/\w.grownBy wr (some A)/\Hid (∀j,j<k->E j=0))
 case atStart=>exact⟨0,by omega,rfl,rfl,h0,vY (aH _ _) _,hid (fun j hj=>by omega)⟩
 case round=>
  obtain⟨k,hk,hg,rfl,a8,H,U⟩:=hrel;have HG:=hid hg;clear hg
  by_cases G:k<5
  ·obtain⟨p1,p2⟩:=HC.out k G;have c1:=H.cell p1 (by simpa using a5);have c2:=H.cell p2 (by simpa using a5);obtain⟨d,V⟩:∃d,d=O k:=⟨_,rfl⟩;obtain⟨y,Y⟩:∃y,y=T k:=⟨_,rfl⟩;obtain⟨xD,a1⟩:∃x,x=D k:=⟨_,rfl⟩;obtain⟨I,Z⟩:∃x,x=E k:=⟨_,rfl⟩;have c3:∀args W,(callFunc d args).run pG W=.ok (.enter d args) W:=by rw[V];exact b2.out k G
   have c4:∀args W,(callFunc y args).run pG W=.ok (.enter y args) W:=by rw[Y];exact b3.out k G
   have b5:Hid (∀W,S k W->w.grownBy W (some A)->Calls pG d #[.pointer (some ⟨A,0,none⟩)] W fun e F=>e=.returned (.int .i64 xD)/\W.grownBy F (some A)/\(I=0->S (k+1) F)):=hid (fun W h1 h2=>by rw[V,a1,Z];exact HD.out k G W h1 h2 U.out);have b6:Hid (∀W,Calls pG y #[.int .i64 xD] W fun e F=>e=.returned (.int .i64 I)/\F=W):=hid (fun W=>by rw[Y,a1,Z];exact HY.out k G W);rw[<-V] at c1;rw[<-Y] at c2;have a2:=hid Z;clear V Y a1 Z p1 p2
   have s1:(store ⟨wr.heap.size,0,none⟩ (lK (.func d) #[] #[])).run pG (wr.alloc (.cells #[.nilFunc,.nilFunc] 234))=.ok () (wr.alloc (.cells #[lK (.func d) #[] #[],.nilFunc] 234)):=by
    rw[run_store _ _ _ _ _ rfl];simp[aLq]
   have s2:(store ⟨wr.heap.size,1,none⟩ (lK (.func y) #[] #[])).run pG (wr.alloc (.cells #[lK (.func d) #[] #[],.nilFunc] 234))=.ok () (wr.alloc (.cells #[lK (.func d) #[] #[],lK (.func y) #[] #[]] 234)):=by
    rw[run_store _ _ _ _ _ rfl];simp[aLq]
   go_upto_region 4 with fail;have z0:vZ w A wr.heap.size d y (wr.alloc (.cells #[lK (.func d) #[] #[],lK (.func y) #[] #[]] 234)):=by
    have ha:=Arr.new wr 234 [lK (.func d) #[] #[],lK (.func y) #[] #[]];exact⟨ha.cell (i:=0) rfl,ha.cell (i:=1) rfl,EJ H (vY ((aH _ _).alloc (aD _) _) _),by simp⟩
   have z1:S k (wr.alloc (.cells #[lK (.func d) #[] #[],lK (.func y) #[] #[]] 234)).drew:=HS.out k _ _ a8 ((aH _ _).alloc (aD _) _).drew;have b7:wr.heap.size≠A:=by have:=H.size;omega
   generalize wr.alloc (.cells #[lK (.func d) #[] #[],lK (.func y) #[] #[]] 234)=wa at*
   refine wp_region_held_drew (S:=(fun w'=>w'.cell? ⟨wr.heap.size,0,none⟩=some (lK (.func d) #[] #[])/\w'.cell? ⟨wr.heap.size,1,none⟩=some (lK (.func y) #[] #[])/\w.grownBy w' (some A)/\wr.heap.size<w'.heap.size)) (by kernel_rfl) (vZ.drew z0) (fun a0=>?_)
   iterate 5
    refine fV 0 0 (by simp only[dB,aU,aV,cV,dC]<;>rfl) (by simp only[gA,gH,gB];rfl) (by kernel_rfl) (by exact fun _ _ _ h=>h) (by first|exact Or.inr ⟨by rfl,rfl⟩|(refine Or.inl ⟨by rfl,?_⟩;intro w' a3;(try dsimp only at a3);(try go_simp);try with_reducible rfl)) (by assumption) ?_
    try simp only[bJ,bK,bH,bB]
   refine dJ (i:=5) (by kernel_rfl) rfl (fun K J=>?_);go_simp;refine(b5.out _ z1 a0.2.2.1).mono ?_;rintro e w1 ⟨rfl,b8,a4⟩
   (try go_wp2_with fail)
   refine J.out _ _ (vZ.keep a0 b7 b8) (fun a9=>?_);clear J K
   try simp only[bJ,bK,bH,bB]
   refine dJ (i:=6) (by kernel_rfl) rfl (fun K J=>?_);go_simp;refine(b6.out _).mono ?_;rintro e w2 ⟨rfl,rfl⟩
   (try go_wp2_with fail)
   refine J.out _ _ a9 (fun b0=>?_);clear J K
   try simp only[bJ,bK,bH,bB]
   refine fV 0 0 (by simp only[dB,aU,aV,cV,dC]<;>rfl) (by simp only[gA,gH,gB];rfl) (by kernel_rfl) (by exact fun _ _ _ h=>h) (by first|exact Or.inr ⟨by rfl,rfl⟩|(refine Or.inl ⟨by rfl,?_⟩;intro w' a3;(try dsimp only at a3);(try go_simp);try with_reducible rfl)) (by assumption) ?_
   try simp only[bJ,bK,bH,bB]
   refine wpAnyH_done (by kernel_rfl) ?_ _;obtain⟨_,_,b1,_⟩:=a9
   by_cases L:I=0
   ·have b9:=hid (a4 L);have t1:(I != 0)=false:=by simp[L]
    clear b0 a0 a4 z0 z1 c1 c2;go_wp2_with fail;have hg:=HG.out
    go_roundg (5-(k+1))
    case measure=>omega
    case rel=>
     refine⟨k+1,by omega,rfl,by go_num,b9.out,b1,hid (fun j hj=>?_)⟩;rcases Nat.lt_succ_iff_lt_or_eq.1 hj with q|rfl
     ·exact U.out j q
     ·rw[<-a2.out];exact L
   ·have t1:(I != 0)=true:=by simpa using L
    clear b0 a0 a4 z0 z1 c1 c2;go_wp2_with fail;go_ret;rw[a2.out];exact aQ5 b1 G (by rw[<-a2.out];exact L) U.out
  ·go_wp2_with fail;go_ret;exact aQ6 H (fun j hj=>U.out j (by omega)) (by(obtain rfl:k=5:=(by omega));exact a8)
end
section
open Go.RowKit Go.Extern.Stop Go.Stop Go.Extern
theorem aQ8 (t:Addr) (w:World):(WY (.iface 236 (.pointer (some t)))).run pG w
  =.ok (.agg #[.pointer (some ⟨1,236,none⟩),.pointer (some ⟨w.heap.size,0,none⟩),.int .u64 150]) (w.alloc (.cells #[.pointer (some t)] 236)):=by kernel_rfl
theorem aQ9 (a:Addr) (w:World):(bGe (IM "reflectlite.Value.Type" 0) (fun t _ _ _=>bGf t) #[.agg #[.pointer (some ⟨1,236,none⟩),.pointer (some a),.int .u64 150]]).run pG w
  =.ok (.iface 155 (.agg #[.pointer (some ⟨1,236,none⟩)])) w:=by kernel_rfl
theorem aRa (w:World):((aLr fun t=>(fun a:Nat=>bQ oQ (a:Int)) <$> Rtype.kind t) #[.pointer (some ⟨1,236,none⟩)]).run pG w=.ok (.int .u8 22) w:=by kernel_rfl
theorem aRb (w:World):((aLr fun t=>(fun a:Nat=>bQ oQ (a:Int)) <$> Rtype.kind t) #[.pointer (some ⟨1,228,none⟩)]).run pG w=.ok (.int .u8 2) w:=by kernel_rfl
theorem aBd (z:Sem Value) (f:TypeId->Addr->Nat->Nat->Sem Value) (v:Value):
  OI z f #[v]=(do match<-IN v with|none=>z|some (t,a,fl)=>f t a fl (fl%32)):=rfl
theorem aBe (a:Addr) (w:World):(IN (.agg #[.pointer (some ⟨1,236,none⟩),.pointer (some a),.int .u64 150])).run pG w=.ok (some (236,a,150)) w:=by kernel_rfl
theorem aRc (a p:Addr) (W:World) (d:W.cell? a=some (.pointer (some p))):
  (OI (IM "reflectlite.Value.IsNil" 0) aLs #[.agg #[.pointer (some ⟨1,236,none⟩),.pointer (some a),.int .u64 150]]).run pG W=.ok (.bool false) W:=by
 rw[aBd];simp only[vI,aBe,lW];simp[aLs,loadVar,isAgg,underlying,underlying236,d,lW]
theorem aRd (h:Value) (w:World):(Go.method 431 155 (.agg #[h]) "Kind").run pG w=.ok (221,h) w:=by kernel_rfl
theorem aRe (h:Value) (w:World):(Go.method 431 155 (.agg #[h]) "Elem").run pG w=.ok (231,.agg #[h]) w:=by kernel_rfl
theorem aRf (h:Value) (w:World):(Go.method 431 155 (.agg #[h]) "Implements").run pG w=.ok (232,.agg #[h]) w:=by kernel_rfl
theorem aRg (h:Value) (w:World):(Go.method 431 155 (.agg #[h]) "AssignableTo").run pG w=.ok (229,.agg #[h]) w:=by kernel_rfl
theorem aRh (h:Value) (w:World):(Go.method 431 264 h "Unwrap").run pG w=.ok (242,h) w:=by kernel_rfl
theorem aRi (w:World):(WZ ReflectliteType.elem #[.agg #[.pointer (some ⟨1,236,none⟩)]]).run pG w=.ok (.iface 155 (.agg #[.pointer (some ⟨1,228,none⟩)])) w:=by kernel_rfl
theorem aRj (w:World):(OJ "Implements" bGg #[.agg #[.pointer (some ⟨1,228,none⟩)],.iface 155 (.agg #[.pointer (some ⟨1,68,none⟩)])]).run pG w=.ok (.bool true) w:=by kernel_rfl
theorem aRk (v:Value) (w:World):(OL #[.iface 264 v]).run pG w=.ok (.iface 155 (.agg #[.pointer (some ⟨1,264,none⟩)])) w:=by kernel_rfl
theorem aRl (v:Value) (w:World):(OL #[.iface 228 v]).run pG w=.ok (.iface 155 (.agg #[.pointer (some ⟨1,228,none⟩)])) w:=by kernel_rfl
theorem aRm (w:World):(OJ "AssignableTo" aLt #[.agg #[.pointer (some ⟨1,264,none⟩)],.iface 155 (.agg #[.pointer (some ⟨1,228,none⟩)])]).run pG w=.ok (.bool false) w:=by kernel_rfl
theorem aRn (w:World):(OJ "AssignableTo" aLt #[.agg #[.pointer (some ⟨1,228,none⟩)],.iface 155 (.agg #[.pointer (some ⟨1,228,none⟩)])]).run pG w=.ok (.bool true) w:=by kernel_rfl
theorem aRo (x:Int) (w:World):(WY (.iface 228 (.int .i64 x))).run pG w
  =.ok (.agg #[.pointer (some ⟨1,228,none⟩),.pointer (some ⟨w.heap.size,0,none⟩),.int .u64 130]) (w.alloc (.cells #[.int .i64 x] 228)):=by kernel_rfl
theorem aRp (w:World):(Rtype.elem? 236).run pG w=.ok (some 228) w:=by kernel_rfl
theorem aRq (p:Addr) (w:World):(ReflectliteValue.mk 228 p aLu).run pG w=.ok (.agg #[.pointer (some ⟨1,228,none⟩),.pointer (some p),.int .u64 386]) w:=by kernel_rfl
theorem aRr (a p:Addr) (W:World) (d:W.cell? a=some (.pointer (some p))):
  (OI (IM "reflectlite.Value.Elem" 0) aLv #[.agg #[.pointer (some ⟨1,236,none⟩),.pointer (some a),.int .u64 150]]).run pG W
   =.ok (.agg #[.pointer (some ⟨1,228,none⟩),.pointer (some p),.int .u64 386]) W:=by
 rw[aBd];simp only[vI,aBe,lW];simp[aLv,loadVar,isAgg,underlying,underlying236,d,lW,aRp,aRq]
theorem aRs (v x:Value):aLw #[v,x]=(do
  let(some (dst,a,fl),some (src,b,_)):=(<-IN v,<-IN x)
   |unsupported (.noEntry "extern/(internal/reflectlite.Value).Set.zeroValue")
  if fl/aLu%2==0 then unsupported (.noEntry "extern/(internal/reflectlite.Value).Set.unaddressable")
  let d<-loadVar src b
  if<-bGh dst src then storeVar dst a d
  else if<-Rtype.implements dst src then
   if(<-Rtype.kind src)==20 then
    match d with
    |.nilIface=>unsupported (.noEntry "extern/reflectlite: a nil value of one interface type handed on as a value of another")
    |_=>storeVar dst a d
   else storeVar dst a (.iface src d)
  else panicString ("reflectlite.Set: value of type "++(<-Rtype.spelt src)++ " is not assignable to type "++(<-Rtype.spelt dst))
  pure (.tuple #[])):=rfl
theorem aRt (a:Addr) (w:World):(IN (.agg #[.pointer (some ⟨1,228,none⟩),.pointer (some a),.int .u64 386])).run pG w=.ok (some (228,a,386)) w:=by kernel_rfl
theorem aRu (a:Addr) (w:World):(IN (.agg #[.pointer (some ⟨1,228,none⟩),.pointer (some a),.int .u64 130])).run pG w=.ok (some (228,a,130)) w:=by kernel_rfl
theorem aRv (w:World):(bGh 228 228).run pG w=.ok true w:=by kernel_rfl
theorem aRw (d b:Addr) (x:Int) (e:Value) (W:World) (h:W.cell? b=some (.int .i64 x)) (A:W.cell? d=some e) (D:W.frozen? d=false):
  (aLw #[.agg #[.pointer (some ⟨1,228,none⟩),.pointer (some d),.int .u64 386],.agg #[.pointer (some ⟨1,228,none⟩),.pointer (some b),.int .u64 130]]).run pG W
   =.ok (.tuple #[]) (W.setCell d (.int .i64 x)):=by
 rw[aRs];simp only[vI,aRt,aRu,lW];simp[aLu,loadVar,isAgg,underlying,underlying228,h,lW,aRv,storeVar,Value.cells,storeCells,Addr.add];rw[run_store pG W d _ _ (by rfl)];simp[A,D]
def dU (w:World):Prop:=w.cell? ⟨0,0,none⟩=some (.iface 155 (.agg #[.pointer (some ⟨1,68,none⟩)]))
theorem dU.lt {w:World} (h:dU w):0<w.heap.size:=gV w _ h
theorem dU.below {w w':World} (h:dU w) (d:Below w.heap.size w w'):dU w':=(d.cell (p:=⟨0,0,none⟩) h.lt).trans h
theorem dU.grown {w w':World} {g:Nat} (h:dU w) (d:w.grownBy w' (some g)) (e:0<g):dU w':=d.cell h (by simp;omega)
theorem aRx (v:Value) (w:World):(tZ (.iface 264 v) 68 293 true).run pG w=.ok (.tuple #[.nilIface,.bool false]) w:=run_typeAssert_lacksB underlying293 (by kernel_rfl) (by kernel_rfl) v _ w
theorem aRy (v:Value) (w:World):(tZ (.iface 264 v) 68 160 true).run pG w=.ok (.tuple #[.iface 264 v,.bool true]) w:=by kernel_rfl
theorem aRz (t:Value) (w:World):
  Calls pG 160 #[.nilIface,t] w fun e w'=>e=.returned (.bool false)/\w'=w:=by
 go_enter func160,ntmps160;go_wp2;go_ret;exact⟨rfl,rfl⟩
theorem aR0 (k x:Int) (d g:Addr) (I:Value) (w:World) (J:w.cell? g=some (.pointer (some d))) (F:w.cell? d=some I) (M:w.frozen? d=false):
  Calls pG 186 #[.iface 264 (.agg #[.int .i64 k,.iface 228 (.int .i64 x)]),.iface 236 (.pointer (some d)),.agg #[.pointer (some ⟨1,236,none⟩),.pointer (some g),.int .u64 150],.iface 155 (.agg #[.pointer (some ⟨1,228,none⟩)])] w
   fun e w'=>e=.returned (.bool true)/\w.grownBy w' (some d.block)/\w'.cell? d=some (.int .i64 x):=by
 have Z:=@rZ pG 70 _ OL func70 (by kernel_rfl) (by kernel_rfl) (by kernel_rfl) (by kernel_rfl);have a0:=@rZ pG 229 _ (OJ "AssignableTo" aLt) func229 (by kernel_rfl) (by kernel_rfl) (by kernel_rfl) (by kernel_rfl);have a1:=@rZ pG 199 _ (OI (IM "reflectlite.Value.Elem" 0) aLv) func199 (by kernel_rfl) (by kernel_rfl) (by kernel_rfl) (by kernel_rfl)
 have a2:=@rZ pG 183 _ (fun args=>WY (args.getD 0 (.tuple #[]))) func183 (by kernel_rfl) (by kernel_rfl) (by kernel_rfl) (by kernel_rfl);have a3:=@rZ pG 200 _ aLw func200 (by kernel_rfl) (by kernel_rfl) (by kernel_rfl) (by kernel_rfl);have tF:=aRk;have tC:=aRl;have mA:=aRg;have mU:=aRh;have aF:=aRm;have aC:=aRn;have uC:=aRo x;have q1:=aRx;have q2:=aRy;go_enter func186,ntmps186;go_wp2;refine wp_loop_rounds 2 ?_;rw[rounds_succ];go_wp2
 have O:=gV w _ J;have G:=gV w _ F;have A:Below w.heap.size w ((w.alloc (.cells #[.pointer (some ⟨1,236,none⟩),.pointer (some g),.int .u64 150] 269)).alloc (.cells #[.int .i64 k,.iface 228 (.int .i64 x)] 264)):=((aH _ _).alloc (aD _) _).alloc (by simp) _;have H:((w.alloc (.cells #[.pointer (some ⟨1,236,none⟩),.pointer (some g),.int .u64 150] 269)).alloc (.cells #[.int .i64 k,.iface 228 (.int .i64 x)] 264)).heap.size=w.heap.size+1+1:=by simp
 have D:∀i,i<3->((w.alloc (.cells #[.pointer (some ⟨1,236,none⟩),.pointer (some g),.int .u64 150] 269)).alloc (.cells #[.int .i64 k,.iface 228 (.int .i64 x)] 264)).cell? ⟨w.heap.size,i,none⟩=#[.pointer (some ⟨1,236,none⟩),.pointer (some g),.int .u64 150][i]? :=fun i T=>by
  rw[OO _ _ ⟨w.heap.size,i,none⟩ (by simp),World.cell?_alloc_at _ _ _ _ rfl]
 have v0:=D 0 (by decide);have v1:=D 1 (by decide);have v2:=D 2 (by decide);clear D;generalize (w.alloc (.cells #[.pointer (some ⟨1,236,none⟩),.pointer (some g),.int .u64 150] 269)).alloc (.cells #[.int .i64 k,.iface 228 (.int .i64 x)] 264)=h at*
 have eV:=aRr g d h (by rw[A.cell O];exact J);have U:h.heap.size=w.heap.size+1+1:=H;have L:=hid H;have sC:=aRw d ⟨h.heap.size,0,none⟩ x I (h.alloc (.cells #[.int .i64 x] 228)) (bX _ _ _)
  (by rw[OO _ _ d (by omega),A.cell G];exact F)
  (by rw[World.frozen?_alloc_old _ _ d (by omega),A.frozen G];exact M)
 clear H U;rw[rounds_succ];go_wp2;go_ret;have V:d.block<h.heap.size:=by have:=L.out;omega
 refine⟨rfl,EJ (b:=h.alloc (.cells #[.int .i64 x] 228)) (vY (A.alloc (by have:=L.out;omega) _) _) ?_,?_⟩
 ·exact⟨rfl,rfl,rfl,by simp,fun i T Y=>heap_setCell_other _ _ _ _ (fun e=>Y (by rw[e]))⟩
 ·exact World.cell?_setCell_same _ _ _ (by rw[OO _ _ d V,A.cell G];exact F)
theorem aR1 (k x:Int) (d:Addr) (I:Value) (w:World) (F:dU w) (G:w.cell? d=some I) (J:w.frozen? d=false):
  Calls pG 160 #[.iface 264 (.agg #[.int .i64 k,.iface 228 (.int .i64 x)]),.iface 236 (.pointer (some d))] w
   fun e w'=>e=.returned (.bool true)/\w.grownBy w' (some d.block)/\w'.cell? d=some (.int .i64 x):=by
 have a1:=@rZ pG 183 _ (fun args=>WY (args.getD 0 (.tuple #[]))) func183 (by kernel_rfl) (by kernel_rfl) (by kernel_rfl) (by kernel_rfl);have a2:=@rZ pG 184 _ (bGe (IM "reflectlite.Value.Type" 0) (fun t _ _ _=>bGf t)) func184 (by kernel_rfl) (by kernel_rfl) (by kernel_rfl) (by kernel_rfl)
 have a3:=@rZ pG 185 _ (OI (IM "reflectlite.Value.IsNil" 0) aLs) func185 (by kernel_rfl) (by kernel_rfl) (by kernel_rfl) (by kernel_rfl);have a4:=@rZ pG 221 _ (aLr fun t=>do pure (.int .u8 (<-Rtype.kind t))) func221 (by kernel_rfl) (by kernel_rfl) (by kernel_rfl) (by kernel_rfl);have a5:=@rZ pG 231 _ (WZ ReflectliteType.elem) func231 (by kernel_rfl) (by kernel_rfl) (by kernel_rfl) (by kernel_rfl)
 have a6:=@rZ pG 232 _ (OJ "Implements" bGg) func232 (by kernel_rfl) (by kernel_rfl) (by kernel_rfl) (by kernel_rfl);have uP:=aQ8 d;have tP:=aQ9;have mK:=aRd;have mE:=aRe;have mI:=aRf;have kP:=aRa;have kC:=aRb;have eP:=aRi;have iC:=aRj;have L:=gV w _ G;have U:=F.lt;have M:w.cell? ⟨0,0,none⟩=some (.iface 155 (.agg #[.pointer (some ⟨1,68,none⟩)])):=F
 obtain⟨h,A⟩:∃h,h=(w.alloc (.cells #[.pointer (some d)] 236)).alloc (.cells #[.pointer (some ⟨1,236,none⟩),.pointer (some ⟨w.heap.size,0,none⟩),.int .u64 150] 269):=⟨_,rfl⟩;have D:Below w.heap.size w h:=by rw[A];exact((aH _ _).alloc (aD _) _).alloc (by simp) _
 have H:h.cell? ⟨w.heap.size,0,none⟩=some (.pointer (some d)):=by
  rw[A,OO _ _ ⟨w.heap.size,0,none⟩ (by simp),bX]
 have V:=aRc ⟨w.heap.size,0,none⟩ d h H;have Y:h.cell? ⟨0,0,none⟩=some (.iface 155 (.agg #[.pointer (some ⟨1,68,none⟩)])):=by rw[D.cell (p:=⟨0,0,none⟩) U];exact M
 have O:=hid (aR0 k x d ⟨w.heap.size,0,none⟩ I h H (by rw[D.cell L];exact G) (by rw[D.frozen L];exact J));rw[A] at V Y O;have Z:=hid D;have HW:=hid A;clear D H A F M G J;go_enter func160,ntmps160;go_wp2_with (go_at_call 186;refine O.out.mono ?_;rintro e w4 ⟨rfl,T,a0⟩);go_ret;rw[<-HW.out] at T;exact⟨rfl,EJ (vY Z.out _) T,a0⟩
end
section
open Go.RowKit Go.Shelf
def stD (a:ByteArray) (o:Int) (l:List Int) (most:Int):Nat->Int
 |0=>if a.data.toList≠[]/\bY a.data.toList=a.data.toList then 0 else 1
 |1=>if jU l ((a.size:Int)+1) then 0 else 3
 |2=>rM (l.take (l.length-1)) most
 |3=>if dD l=[] then 3 else 0
 |_=>rK (unL a.data.toList (dD l)) o
def stE (a:ByteArray) (o:Int) (l:List Int) (most:Int):Nat->Int
 |4=>if stD a o l most 4=0 then 0 else 3
 |k=>stD a o l most k
def stF:Nat->Nat
 |0=>153
 |1=>155
 |2=>156
 |3=>157
 |_=>159
def stY:Nat->Nat
 |0|1|2=>154
 |_=>158
def stS (w0:World) (e:Nat) (a:ByteArray) (o:Int) (v:Value) (l:List Int) (most:Int) (k:Nat) (W:World):Prop:=
 ∃d b,Arr W e 227 [.string a,.int .i64 o,v,.int .i64 most,d,.string b]/\(k=2->RdI w0 d (l.take (l.length-1)))/\(k=3->RdI W d (dD l))/\(k=4->b=mkS (unL a.data.toList (dD l)))/\(k=5->b=mkS (oU (unL a.data.toList (dD l)) o))
theorem st0 {a:ByteArray} {o:Int} {l:List Int} {most:Int} (h:stE a o l most 0=0):a.data.toList≠[]/\bY a.data.toList=a.data.toList:=by
 by_cases q:a.data.toList≠[]/\bY a.data.toList=a.data.toList
 ·exact q
 ·exfalso;have:stE a o l most 0=if a.data.toList≠[]/\bY a.data.toList=a.data.toList then 0 else 1:=rfl
  grind
theorem st1 {a:ByteArray} {o:Int} {l:List Int} {most:Int} (h:stE a o l most 1=0):jU l ((a.size:Int)+1):=by
 by_cases q:jU l ((a.size:Int)+1)
 ·exact q
 ·exfalso;have:stE a o l most 1=if jU l ((a.size:Int)+1) then 0 else 3:=rfl
  grind
theorem st2 {a:ByteArray} {o:Int} {l:List Int} {most:Int} (h:stE a o l most 2=0):((dD l).length:Int)<=most:=by
 by_cases q:((dD l).length:Int)<=most
 ·exact q
 ·exfalso;have:stE a o l most 2=if((dD l).length:Int)<=most then 0 else 4:=rfl;omega
theorem st3 {a:ByteArray} {o:Int} {l:List Int} {most:Int} (h:stE a o l most 3=0):dD l≠[]:=fun q=>by
 have:stE a o l most 3=if dD l=[] then 3 else 0:=rfl
 grind
theorem aBf {L:List UInt8} {o:Int} (d:0<L.length):qD L o=true↔(0<=o/\o<(L.length:Int)):=by grind [qD]
theorem st4 {a:ByteArray} {o:Int} {l:List Int} {most:Int} (d:dD l≠[]):stE a o l most 4=0↔(0<=o/\o<((dD l).length:Int)):=by
 have h:(unL a.data.toList (dD l)).length=(dD l).length:=sL _ _;have A:0<(unL a.data.toList (dD l)).length:=by grind
 have e:stE a o l most 4=if(if qD (unL a.data.toList (dD l)) o then(0:Int) else 1)=0 then 0 else 3:=rfl
 grind [aBf,qD,unL,dD,stE]
theorem aR2 {a:ByteArray} {o:Int} {l:List Int} {most:Int} {k:Nat} (A:k<5) (h:stE a o l most k≠0) (d:∀j,j<k->stE a o l most j=0):rest a o l most=(dN,stE a o l most k):=by
 match k,A with
 |0,_=>
  have e:stE a o l most 0=if a.data.toList≠[]/\bY a.data.toList=a.data.toList then 0 else 1:=rfl
  by_cases q:a.data.toList≠[]/\bY a.data.toList=a.data.toList
  ·grind
  ·rw[e,aA q];exact KB q
 |1,_=>
  have e:stE a o l most 1=if jU l ((a.size:Int)+1) then 0 else 3:=rfl
  by_cases q:jU l ((a.size:Int)+1)
  ·grind
  ·grind [QQ,st0,stE,rest,dN]
 |2,_=>
  have e:stE a o l most 2=if((dD l).length:Int)<=most then 0 else 4:=rfl
  by_cases q:((dD l).length:Int)<=most
  ·grind
  ·rw[e,aA q];exact KC (st0 (d 0 (by omega))) (st1 (d 1 (by omega))) q
 |3,_=>
  have e:stE a o l most 3=if dD l=[] then 3 else 0:=rfl
  by_cases q:dD l=[]
  ·rw[e,aB q];exact KD (st0 (d 0 (by omega))) (st1 (d 1 (by omega))) (st2 (d 2 (by omega))) (by rw[q];simp)
  ·grind
 |4,_=>
  have D:=st3 (d 3 (by omega));have F:=fun q=>h ((st4 (a:=a) (most:=most) D).2 q)
  rw[KD (st0 (d 0 (by omega))) (st1 (d 1 (by omega))) (st2 (d 2 (by omega))) F];have e:stE a o l most 4=if stD a o l most 4=0 then 0 else 3:=rfl
  by_cases q:stD a o l most 4=0
  ·grind
  ·rw[e,aA q]
theorem aR3 {a:ByteArray} {o:Int} {l:List Int} {most:Int} (d:∀j,j<5->stE a o l most j=0):rest a o l most=(mkS (oU (unL a.data.toList (dD l)) o),0):=by
 have e:=st3 (d 3 (by omega));have h:=(st4 (a:=a) (most:=most) e).1 (d 4 (by omega));have A:(unL a.data.toList (dD l)).length=(dD l).length:=sL _ _;rw[KE (st0 (d 0 (by omega))) (st1 (d 1 (by omega))) (st2 (d 2 (by omega))) h]
 grind [oU,aBf,stE,rest,mkS,unL,dD]
theorem aR4 (w0 w:World) (d:Nat) (a:ByteArray) (o:Int) (v:Value) (l:List Int) (most:Int) (ha:a.size<=140737488355328) (hr:RdI w0 v l) (hl:l.length<=1000000) (a1: -9223372036854775808<=o) (a2:o<=9223372036854775807) (a3: -9223372036854775808<=most) (a4:most<=1000000) (U:Below w0.heap.size w0 w) (a8:w0.heap.size<=d):
  ∀k,k<5->∀W,stS w0 d a o v l most k W->w.grownBy W (some d)->(∀j,j<k->stE a o l most j=0)->Calls pG (stF k) #[.pointer (some ⟨d,0,none⟩)] W fun e H=>e=.returned (.int .i64 (stD a o l most k))/\W.grownBy H (some d)/\(stE a o l most k=0->stS w0 d a o v l most (k+1) H):=by
 intro k hk W hS hg G;obtain⟨A,b,D,s2,s3,s4,s5⟩:=hS;have V:Below w0.heap.size w0 W:=U.grown hg U.size (fun q e=>by grind);have Y:RdI W v l:=hr.below V
 match k,hk with
 |0,_=>
  refine(aQx d a o most v A b W ha D).mono ?_;rintro e H ⟨rfl,Z⟩;exact⟨rfl,vY Z _,fun _=>⟨A,b,D.below Z D.lt,by omega,by omega,by omega,by omega⟩⟩
 |1,_=>
  have I:=st0 (G 0 (by omega));have L:a.size<=256:=by
   have J:a.data.toList.length=a.size:=by simp
   rw[<-J,<-I.2];exact vX _
  have e1:stD a o l most 1=if jU l ((a.size:Int)+1) then 0 else 3:=rfl
  by_cases F:jU l ((a.size:Int)+1)
  ·rw[e1,aB F];refine(aQ0 d a o most v A l b W L D Y F).mono ?_
   grind [RdI,stS,stE,stF,stD]
  ·rw[e1,aA F];refine(aQz d a o most v A l b W L D Y F).mono ?_
   grind [vY,st1,RdI,stS,stE,stF,stD]
 |2,_=>
  have M:=st1 (G 1 (by omega));have L:a.size<=256:=by
   have I:=st0 (G 0 (by omega));have J:a.data.toList.length=a.size:=by simp
   rw[<-J,<-I.2];exact vX _
  refine(aQ1 d a o most v A (l.take (l.length-1)) b W D ((s2 rfl).below V) (by grind) (fun x hx=>by have:=M.2.2 x hx;omega) a3 a4).mono ?_;rintro e H ⟨rfl,O,a5,T,a0⟩;refine⟨rfl,O,fun h=>⟨a5,b,T,by omega,fun _=>?_,by omega,by omega⟩⟩;rw[(BN (m:=l.take (l.length-1)) (st2 h)).1] at a0;exact a0
 |3,_=>
  have I:=st0 (G 0 (by omega));have M:=st1 (G 1 (by omega));have h2:=st2 (G 2 (by omega));have J:a.data.toList.length=a.size:=by simp
  have L:a.size<=256:=by rw[<-J,<-I.2];exact vX _
  have a6:0<a.size:=by grind
  have e3:stD a o l most 3=if dD l=[] then 3 else 0:=rfl
  by_cases F:dD l=[]
  ·rw[e3,aB F];refine(aQ2 d a o most v A b W D (by grind)).mono ?_;rintro e H ⟨rfl,rfl⟩;exact⟨rfl,vY (aH _ _) _,fun h=>absurd F (st3 h)⟩
  ·rw[e3,aA F];refine(aQ3 d a o most v A (dD l) b W D (s3 rfl) (List.length_pos_iff.2 F) (by omega) (by omega) (by rw[<-I.2];exact JE _) (QS M a6)).mono ?_
   grind [RdI,stS,stE,stF,stD]
 |4,_=>
  have h2:=st2 (G 2 (by omega));obtain rfl:=s4 rfl;have a7:(mkS (unL a.data.toList (dD l))).size<=1000000000:=by rw[cS,sL];omega
  refine(aQ4 d a o most v A _ W D a7 a1 a2).mono ?_;rintro e H ⟨rfl,O,T⟩;exact⟨rfl,O,fun _=>⟨A,_,T,by omega,by omega,by omega,fun _=>rfl⟩⟩
theorem aR5 (a:ByteArray) (o:Int) (l:List Int) (most:Int):∀k,k<5->∀W,Calls pG (stY k) #[.int .i64 (stD a o l most k)] W fun e d=>e=.returned (.int .i64 (stE a o l most k))/\d=W:=by
 intro k h W
 match k,h with
 |0,_=>exact QT _ W
 |1,_=>exact QT _ W
 |2,_=>exact QT _ W
 |3,_=>
  refine(aBc (stD a o l most 3) W).mono ?_;rintro e d ⟨rfl,rfl⟩;refine⟨eI ?_,rfl⟩;have A:stD a o l most 3=if dD l=[] then 3 else 0:=rfl;have D:stE a o l most 3=if dD l=[] then 3 else 0:=rfl;rw[A,D]
  by_cases F:dD l=[]
  ·simp
  ·simp
 |4,_=>exact aBc (stD a o l most 4) W
theorem aR6 (w0:World) (d:Nat) (a:ByteArray) (o:Int) (v:Value) (l:List Int) (most:Int) (k:Nat) (W A:World) (h:stS w0 d a o v l most k W) (D:Below W.heap.size W A):stS w0 d a o v l most k A:=by
 obtain⟨G,b,F,H,I,J,L⟩:=h;exact⟨G,b,F.below D F.lt,H,fun e=>(I e).below D,J,L⟩
theorem aR7:∀k,k<5->Enters pG (stF k):=by
 intro k d
 match k,d with
 |0,_=>exact gQ func153 rfl rfl
 |1,_=>exact gQ func155 rfl rfl
 |2,_=>exact gQ func156 rfl rfl
 |3,_=>exact gQ func157 rfl rfl
 |4,_=>exact gQ func159 rfl rfl
theorem aR8:∀k,k<5->Enters pG (stY k):=by
 intro k d
 match k,d with
 |0,_=>exact gQ func154 rfl rfl
 |1,_=>exact gQ func154 rfl rfl
 |2,_=>exact gQ func154 rfl rfl
 |3,_=>exact gQ func158 rfl rfl
 |4,_=>exact gQ func158 rfl rfl
theorem aR9 (a:ByteArray) (o:Int) (v:Value) (l:List Int) (most:Int) (w:World) (hE:dU w) (ha:a.size<=140737488355328) (T:RdI w v l) (hl:l.length<=1000000) (a3: -9223372036854775808<=o) (a4:o<=9223372036854775807) (a5: -9223372036854775808<=most) (a6:most<=1000000):
  Calls pG 144 #[.agg #[.string a,.int .i64 o,v],.int .i64 most] w fun e w'=>e=.returned (.tuple #[.string (rest a o l most).1,.int .i64 (rest a o l most).2])/\Below w.heap.size w w':=by
 have a7:=hid (fun D wb a8 a9=>aR4 w D wb a o v l most ha T hl a3 a4 a5 a6 a8 a9);obtain⟨d,A,rfl,b5,b6,_⟩:=T.open;go_enter func144,ntmps144;go_wp2_with fail;have U:(w.alloc (.cells #[.string a,.int .i64 o,.slice d l.length A] 107)).heap.size=w.heap.size+1:=by simp
 have G:Below w.heap.size w ((((w.alloc (.cells #[.string a,.int .i64 o,.slice d l.length A] 107)).alloc (.cells #[.string a,.int .i64 o,.slice d l.length A,.int .i64 most,.slice none 0 0,.string {data:=#[]}] 227)).alloc (.cells #[.int .i64 0] 228)).alloc (.cells #[.func (.func 153) #[] #[],.func (.func 154) #[] #[],.func (.func 155) #[] #[],.func (.func 154) #[] #[],.func (.func 156) #[] #[],.func (.func 154) #[] #[],.func (.func 157) #[] #[],.func (.func 158) #[] #[],.func (.func 159) #[] #[],.func (.func 158) #[] #[]] 234)):=((((aH _ _).alloc (aD _) _).alloc (by simp) _).alloc (by simp;omega) _).alloc (by simp;omega) _
 have M:Arr ((((w.alloc (.cells #[.string a,.int .i64 o,.slice d l.length A] 107)).alloc (.cells #[.string a,.int .i64 o,.slice d l.length A,.int .i64 most,.slice none 0 0,.string {data:=#[]}] 227)).alloc (.cells #[.int .i64 0] 228)).alloc (.cells #[.func (.func 153) #[] #[],.func (.func 154) #[] #[],.func (.func 155) #[] #[],.func (.func 154) #[] #[],.func (.func 156) #[] #[],.func (.func 154) #[] #[],.func (.func 157) #[] #[],.func (.func 158) #[] #[],.func (.func 159) #[] #[],.func (.func 158) #[] #[]] 234)) (w.heap.size+1) 227 [.string a,.int .i64 o,.slice d l.length A,.int .i64 most,.slice none 0 0,.string {data:=#[]}]:=by
  have:=((Arr.new (w.alloc (.cells #[.string a,.int .i64 o,.slice d l.length A] 107)) 227 [.string a,.int .i64 o,.slice d l.length A,.int .i64 most,.slice none 0 0,.string {data:=#[]}]).alloc (.cells #[.int .i64 0] 228)).alloc (.cells #[.func (.func 153) #[] #[],.func (.func 154) #[] #[],.func (.func 155) #[] #[],.func (.func 154) #[] #[],.func (.func 156) #[] #[],.func (.func 154) #[] #[],.func (.func 157) #[] #[],.func (.func 158) #[] #[],.func (.func 159) #[] #[],.func (.func 158) #[] #[]] 234);rwa[U] at this
 have H:Arr ((((w.alloc (.cells #[.string a,.int .i64 o,.slice d l.length A] 107)).alloc (.cells #[.string a,.int .i64 o,.slice d l.length A,.int .i64 most,.slice none 0 0,.string {data:=#[]}] 227)).alloc (.cells #[.int .i64 0] 228)).alloc (.cells #[.func (.func 153) #[] #[],.func (.func 154) #[] #[],.func (.func 155) #[] #[],.func (.func 154) #[] #[],.func (.func 156) #[] #[],.func (.func 154) #[] #[],.func (.func 157) #[] #[],.func (.func 158) #[] #[],.func (.func 159) #[] #[],.func (.func 158) #[] #[]] 234)) (w.heap.size+1+1) 228 [.int .i64 0]:=by
  have:=(Arr.new ((w.alloc (.cells #[.string a,.int .i64 o,.slice d l.length A] 107)).alloc (.cells #[.string a,.int .i64 o,.slice d l.length A,.int .i64 most,.slice none 0 0,.string {data:=#[]}] 227)) 228 [.int .i64 0]).alloc (.cells #[.func (.func 153) #[] #[],.func (.func 154) #[] #[],.func (.func 155) #[] #[],.func (.func 154) #[] #[],.func (.func 156) #[] #[],.func (.func 154) #[] #[],.func (.func 157) #[] #[],.func (.func 158) #[] #[],.func (.func 159) #[] #[],.func (.func 158) #[] #[]] 234)
  rwa[show((w.alloc (.cells #[.string a,.int .i64 o,.slice d l.length A] 107)).alloc (.cells #[.string a,.int .i64 o,.slice d l.length A,.int .i64 most,.slice none 0 0,.string {data:=#[]}] 227)).heap.size=w.heap.size+1+1 by simp] at this
 have hF:Arr ((((w.alloc (.cells #[.string a,.int .i64 o,.slice d l.length A] 107)).alloc (.cells #[.string a,.int .i64 o,.slice d l.length A,.int .i64 most,.slice none 0 0,.string {data:=#[]}] 227)).alloc (.cells #[.int .i64 0] 228)).alloc (.cells #[.func (.func 153) #[] #[],.func (.func 154) #[] #[],.func (.func 155) #[] #[],.func (.func 154) #[] #[],.func (.func 156) #[] #[],.func (.func 154) #[] #[],.func (.func 157) #[] #[],.func (.func 158) #[] #[],.func (.func 159) #[] #[],.func (.func 158) #[] #[]] 234)) (w.heap.size+1+1+1) 234 [.func (.func 153) #[] #[],.func (.func 154) #[] #[],.func (.func 155) #[] #[],.func (.func 154) #[] #[],.func (.func 156) #[] #[],.func (.func 154) #[] #[],.func (.func 157) #[] #[],.func (.func 158) #[] #[],.func (.func 159) #[] #[],.func (.func 158) #[] #[]]:=by
  have:=Arr.new (((w.alloc (.cells #[.string a,.int .i64 o,.slice d l.length A] 107)).alloc (.cells #[.string a,.int .i64 o,.slice d l.length A,.int .i64 most,.slice none 0 0,.string {data:=#[]}] 227)).alloc (.cells #[.int .i64 0] 228)) 234 [.func (.func 153) #[] #[],.func (.func 154) #[] #[],.func (.func 155) #[] #[],.func (.func 154) #[] #[],.func (.func 156) #[] #[],.func (.func 154) #[] #[],.func (.func 157) #[] #[],.func (.func 158) #[] #[],.func (.func 159) #[] #[],.func (.func 158) #[] #[]]
  rwa[show(((w.alloc (.cells #[.string a,.int .i64 o,.slice d l.length A] 107)).alloc (.cells #[.string a,.int .i64 o,.slice d l.length A,.int .i64 most,.slice none 0 0,.string {data:=#[]}] 227)).alloc (.cells #[.int .i64 0] 228)).heap.size=w.heap.size+1+1+1 by simp] at this
 generalize ((((w.alloc (.cells #[.string a,.int .i64 o,.slice d l.length A] 107)).alloc (.cells #[.string a,.int .i64 o,.slice d l.length A,.int .i64 most,.slice none 0 0,.string {data:=#[]}] 227)).alloc (.cells #[.int .i64 0] 228)).alloc (.cells #[.func (.func 153) #[] #[],.func (.func 154) #[] #[],.func (.func 155) #[] #[],.func (.func 154) #[] #[],.func (.func 156) #[] #[],.func (.func 154) #[] #[],.func (.func 157) #[] #[],.func (.func 158) #[] #[],.func (.func 159) #[] #[],.func (.func 158) #[] #[]] 234))=wc at*
 have V:∀k,k<5->wc.cell? ⟨w.heap.size+1+1+1,k*2,none⟩=some (lK (.func (stF k)) #[] #[])/\wc.cell? ⟨w.heap.size+1+1+1,k*2+1,none⟩=some (lK (.func (stY k)) #[] #[]):=fun k O=>by
  match k,O with
  |0,_=>exact⟨hF.cell (i:=0) rfl,hF.cell (i:=1) rfl⟩
  |1,_=>exact⟨hF.cell (i:=2) rfl,hF.cell (i:=3) rfl⟩
  |2,_=>exact⟨hF.cell (i:=4) rfl,hF.cell (i:=5) rfl⟩
  |3,_=>exact⟨hF.cell (i:=6) rfl,hF.cell (i:=7) rfl⟩
  |4,_=>exact⟨hF.cell (i:=8) rfl,hF.cell (i:=9) rfl⟩
 have Y:=M.lt;refine(aQ7 (w.heap.size+1) (w.heap.size+1+1+1) wc stF stY (stD a o l most) (stE a o l most) (stS w (w.heap.size+1) a o (.slice d l.length A) l most) V (by omega) Y aR7 aR8 (a7.out wc (w.heap.size+1) G (by omega)) (aR5 a o l most) (fun k W W' h hb=>aR6 w _ a o _ l most k W W' h hb) ⟨_,_,M,by omega,by omega,by omega,by omega⟩).mono ?_;rintro e D ⟨I,b0⟩;have J:Below w.heap.size w D:=G.grown I G.size (fun q e=>by injection e with e;omega);have Z:D.cell? ⟨w.heap.size+1+1,0,none⟩=some (.int .i64 0):=I.cell (H.cell (i:=0) rfl) (by simp)
 have a0:D.frozen? ⟨w.heap.size+1+1,0,none⟩=false:=by rw[World.frozen?_of_block (I.block _ H.lt (by simp))];exact H.free 0
 have b1:dU D:=hE.below J;clear U G M H hF V Y I;rcases b0 with⟨k,O,a1,F,rfl⟩|⟨F,hS,rfl⟩
 ·have L:=hid (aR2 O a1 F);obtain⟨x,hx⟩:∃x,x=stE a o l most k:=⟨_,rfl⟩;rw[<-hx] at L ⊢;clear a1 F hx;have HA:=hid (aR1 k x ⟨w.heap.size+1+1,0,none⟩ (.int .i64 0) D b1 Z a0);clear Z a0;go_wp2_with fail;refine HA.out.mono ?_;rintro e w2 ⟨rfl,b2,b7⟩;have b3:Below w.heap.size w w2:=J.grown b2 J.size (fun q e=>by injection e with e;omega);go_wp2_with fail
  go_quiet (fail)
  go_wp2_with fail
  go_ret2
  rw[L.out];exact⟨rfl,kY b3 _⟩
 ·have L:=hid (aR3 F);obtain⟨lv,b,b4,_,_,_,a2⟩:=hS;obtain rfl:=a2 rfl;have d5:=b4.cell (i:=5) rfl;clear F a2;go_wp2_with (go_at_call 160;refine(aRz _ _).mono ?_;rintro e w2 ⟨rfl,rfl⟩)
  go_ret2
  rw[L.out];exact⟨rfl,J⟩
end
end Go.Proofs.YtfplbbphficcjaaGreatDoor
