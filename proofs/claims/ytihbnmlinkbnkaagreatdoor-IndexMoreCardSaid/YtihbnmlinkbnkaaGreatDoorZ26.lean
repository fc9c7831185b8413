/-
  Texts put together (part 26): the walks and the plain laws on which the statement stands.
-/
import Derived.Test.YtihbnmlinkbnkaaGreatDoorZ12
import Derived.Test.YtihbnmlinkbnkaaGreatDoorZ20
import Derived.Test.YtihbnmlinkbnkaaGreatDoorZ23
set_option maxRecDepth 100000
set_option maxHeartbeats 12800000
set_option linter.unusedVariables false
set_option linter.unusedSimpArgs false
open Go.Proofs.Tryz
open Go.Proofs.Tryz renaming prog->pG
open ByteArray renaming size_append->rG
open Go renaming run_callFunc_extern->rZ
open Go.Extern.ReflectliteType renaming abiMethod->aLr,assignableTo->aLt,implements_->bGg,method->WZ,relation->OJ,toType->bGf,typeOf->OL
open Go.Extern.ReflectliteValue renaming elem->aLv,isNil->aLs,method->OI,methodAny->bGe,set->aLw,unpack->WY,valueError->IM
open Go.Instr renaming typeAssert->tZ
open Go.Proofs renaming enters_of->gQ
open Go.RowKit.Below renaming refl->aH
open Go.Value renaming func->lK
open Go.World renaming block_lt_of_cell?->gV,cell?_alloc_lt->OO
open List renaming getElem?_eq_getElem->aN
open Nat renaming eq_zero_or_pos->jE,le_refl->aD,zero_le->aO
namespace Go.Proofs.YtihbnmlinkbnkaaGreatDoor
section
open Go.RowKit Go.Extern.Stop Go.Stop Go.Extern
def dU (w:World):Prop:=w.cell? ⟨0,0,none⟩=some (.iface 328 (.agg #[.pointer (some ⟨2,107,none⟩)]))
theorem dU.lt {w:World} (h:dU w):0<w.heap.size:=gV w _ h
theorem dU.below {w w':World} (h:dU w) (d:Below w.heap.size w w'):dU w':=(d.cell (p:=⟨0,0,none⟩) h.lt).trans h
theorem dU.grown {w w':World} {g:Nat} (h:dU w) (d:w.grownBy w' (some g)) (A:0<g):dU w':=d.cell h (by simp;omega)
theorem aRx (v:Value) (w:World):(tZ (.iface 284 v) 107 333 true).run pG w=.ok (.tuple #[.nilIface,.bool false]) w:=run_typeAssert_lacksB underlying333 (by kernel_rfl) (by kernel_rfl) v _ w
theorem aRy (v:Value) (w:World):(tZ (.iface 284 v) 107 336 true).run pG w=.ok (.tuple #[.iface 284 v,.bool true]) w:=by kernel_rfl
theorem aRz (t:Value) (w:World):
  Calls pG 188 #[.nilIface,t] w fun e w'=>e=.returned (.bool false)/\w'=w:=by
 go_enter func188,ntmps188;go_wp2;go_ret;exact⟨rfl,rfl⟩
theorem aR0 (k x:Int) (d g:Addr) (L:Value) (w:World) (M:w.cell? g=some (.pointer (some d))) (H:w.cell? d=some L) (U:w.frozen? d=false):
  Calls pG 236 #[.iface 284 (.agg #[.int .i64 k,.iface 237 (.int .i64 x)]),.iface 245 (.pointer (some d)),.agg #[.pointer (some ⟨2,245,none⟩),.pointer (some g),.int .u64 150],.iface 328 (.agg #[.pointer (some ⟨2,237,none⟩)])] w
   fun e w'=>e=.returned (.bool true)/\w.grownBy w' (some d.block)/\w'.cell? d=some (.int .i64 x):=by
 have a2:=@rZ pG 266 _ OL func266 (by kernel_rfl) (by kernel_rfl) (by kernel_rfl) (by kernel_rfl);have a3:=@rZ pG 337 _ (OJ "AssignableTo" aLt) func337 (by kernel_rfl) (by kernel_rfl) (by kernel_rfl) (by kernel_rfl);have a4:=@rZ pG 267 _ (OI (IM "reflectlite.Value.Elem" 0) aLv) func267 (by kernel_rfl) (by kernel_rfl) (by kernel_rfl) (by kernel_rfl)
 have a5:=@rZ pG 233 _ (fun args=>WY (args.getD 0 (.tuple #[]))) func233 (by kernel_rfl) (by kernel_rfl) (by kernel_rfl) (by kernel_rfl);have a6:=@rZ pG 268 _ aLw func268 (by kernel_rfl) (by kernel_rfl) (by kernel_rfl) (by kernel_rfl);have tF:=aRk;have tC:=aRl;have mA:=aRg;have mU:=aRh;have aF:=aRm;have aC:=aRn;have uC:=aRo x;have q1:=aRx;have q2:=aRy;go_enter func236,ntmps236;go_wp2;refine wp_loop_rounds 2 ?_;rw[rounds_succ];go_wp2
 have V:=gV w _ M;have I:=gV w _ H;have F:Below w.heap.size w ((w.alloc (.cells #[.pointer (some ⟨2,245,none⟩),.pointer (some g),.int .u64 150] 288)).alloc (.cells #[.int .i64 k,.iface 237 (.int .i64 x)] 284)):=((aH _ _).alloc (aD _) _).alloc (by simp) _;have J:((w.alloc (.cells #[.pointer (some ⟨2,245,none⟩),.pointer (some g),.int .u64 150] 288)).alloc (.cells #[.int .i64 k,.iface 237 (.int .i64 x)] 284)).heap.size=w.heap.size+1+1:=by simp
 have G:∀i,i<3->((w.alloc (.cells #[.pointer (some ⟨2,245,none⟩),.pointer (some g),.int .u64 150] 288)).alloc (.cells #[.int .i64 k,.iface 237 (.int .i64 x)] 284)).cell? ⟨w.heap.size,i,none⟩=#[.pointer (some ⟨2,245,none⟩),.pointer (some g),.int .u64 150][i]? :=fun i hi=>by
  rw[OO _ _ ⟨w.heap.size,i,none⟩ (by simp),World.cell?_alloc_at _ _ _ _ rfl]
 have v0:=G 0 (by decide);have v1:=G 1 (by decide);have v2:=G 2 (by decide);clear G;generalize (w.alloc (.cells #[.pointer (some ⟨2,245,none⟩),.pointer (some g),.int .u64 150] 288)).alloc (.cells #[.int .i64 k,.iface 237 (.int .i64 x)] 284)=A at*
 have eV:=aRr g d A (by rw[F.cell V];exact M);have Z:A.heap.size=w.heap.size+1+1:=J;have O:=hid J;have sC:=aRw d ⟨A.heap.size,0,none⟩ x L (A.alloc (.cells #[.int .i64 x] 237)) (bX _ _ _)
  (by rw[OO _ _ d (by omega),F.cell I];exact H)
  (by rw[World.frozen?_alloc_old _ _ d (by omega),F.frozen I];exact U)
 clear J Z;rw[rounds_succ];go_wp2;go_ret;have a0:d.block<A.heap.size:=by have:=O.out;omega
 refine⟨rfl,EJ (b:=A.alloc (.cells #[.int .i64 x] 237)) (vY (F.alloc (by have:=O.out;omega) _) _) ?_,?_⟩
 ·exact⟨rfl,rfl,rfl,by simp,fun i hi a1=>heap_setCell_other _ _ _ _ (fun e=>a1 (by rw[e]))⟩
 ·exact World.cell?_setCell_same _ _ _ (by rw[OO _ _ d a0,F.cell I];exact H)
theorem aR1 (k x:Int) (d:Addr) (J:Value) (w:World) (G:dU w) (H:w.cell? d=some J) (L:w.frozen? d=false):
  Calls pG 188 #[.iface 284 (.agg #[.int .i64 k,.iface 237 (.int .i64 x)]),.iface 245 (.pointer (some d))] w
   fun e w'=>e=.returned (.bool true)/\w.grownBy w' (some d.block)/\w'.cell? d=some (.int .i64 x):=by
 have a2:=@rZ pG 233 _ (fun args=>WY (args.getD 0 (.tuple #[]))) func233 (by kernel_rfl) (by kernel_rfl) (by kernel_rfl) (by kernel_rfl);have a3:=@rZ pG 234 _ (bGe (IM "reflectlite.Value.Type" 0) (fun t _ _ _=>bGf t)) func234 (by kernel_rfl) (by kernel_rfl) (by kernel_rfl) (by kernel_rfl)
 have a4:=@rZ pG 235 _ (OI (IM "reflectlite.Value.IsNil" 0) aLs) func235 (by kernel_rfl) (by kernel_rfl) (by kernel_rfl) (by kernel_rfl);have a5:=@rZ pG 326 _ (aLr fun t=>do pure (.int .u8 (<-Rtype.kind t))) func326 (by kernel_rfl) (by kernel_rfl) (by kernel_rfl) (by kernel_rfl);have a6:=@rZ pG 339 _ (WZ ReflectliteType.elem) func339 (by kernel_rfl) (by kernel_rfl) (by kernel_rfl) (by kernel_rfl)
 have a7:=@rZ pG 340 _ (OJ "Implements" bGg) func340 (by kernel_rfl) (by kernel_rfl) (by kernel_rfl) (by kernel_rfl);have uP:=aQ8 d;have tP:=aQ9;have mK:=aRd;have mE:=aRe;have mI:=aRf;have kP:=aRa;have kC:=aRb;have eP:=aRi;have iC:=aRj;have M:=gV w _ H;have Z:=G.lt;have O:w.cell? ⟨0,0,none⟩=some (.iface 328 (.agg #[.pointer (some ⟨2,107,none⟩)])):=G
 obtain⟨w2,A⟩:∃w2,w2=(w.alloc (.cells #[.pointer (some d)] 245)).alloc (.cells #[.pointer (some ⟨2,245,none⟩),.pointer (some ⟨w.heap.size,0,none⟩),.int .u64 150] 288):=⟨_,rfl⟩;have F:Below w.heap.size w w2:=by rw[A];exact((aH _ _).alloc (aD _) _).alloc (by simp) _
 have I:w2.cell? ⟨w.heap.size,0,none⟩=some (.pointer (some d)):=by
  rw[A,OO _ _ ⟨w.heap.size,0,none⟩ (by simp),bX]
 have n8:=aRc ⟨w.heap.size,0,none⟩ d w2 I;have a0:w2.cell? ⟨0,0,none⟩=some (.iface 328 (.agg #[.pointer (some ⟨2,107,none⟩)])):=by rw[F.cell (p:=⟨0,0,none⟩) Z];exact O
 have U:=hid (aR0 k x d ⟨w.heap.size,0,none⟩ J w2 I (by rw[F.cell M];exact H) (by rw[F.frozen M];exact L));rw[A] at n8 a0 U;have HB:=hid F;have HW:=hid A;clear F I A G O H L;go_enter func188,ntmps188;go_wp2_with (go_at_call 236;refine U.out.mono ?_;rintro e w4 ⟨rfl,V,a1⟩);go_ret;rw[<-HW.out] at V;exact⟨rfl,EJ (vY HB.out _) V,a1⟩
end
section
open Go.RowKit Go.Shelf
def stD (a:ByteArray) (o:Int) (l:List Int) (most:Int):Nat->Int
 |0=>if a.data.toList≠[]/\bY a.data.toList=a.data.toList then 0 else 1
 |1=>if jU l ((a.size:Int)+1) then 0 else 3
 |2=>rM (l.take (l.length-1)) most
 |3=>if dD l=[] then 3 else 0
 |_=>rK (unL a.data.toList (dD l)) o
def stE (a:ByteArray) (o:Int) (l:List Int) (most:Int):Nat->Int
 |4=>if stD a o l most 4=0 then 0 else 3
 |k=>stD a o l most k
def stF:Nat->Nat
 |0=>181
 |1=>183
 |2=>184
 |3=>185
 |_=>187
def stY:Nat->Nat
 |0|1|2=>182
 |_=>186
def stS (w0:World) (d:Nat) (a:ByteArray) (o:Int) (v:Value) (l:List Int) (most:Int) (k:Nat) (W:World):Prop:=
 ∃lv b,Arr W d 236 [.string a,.int .i64 o,v,.int .i64 most,lv,.string b]/\(k=2->RdI w0 lv (l.take (l.length-1)))/\(k=3->RdI W lv (dD l))/\(k=4->b=mkS (unL a.data.toList (dD l)))/\(k=5->b=mkS (oU (unL a.data.toList (dD l)) o))
theorem st0 {a:ByteArray} {o:Int} {l:List Int} {most:Int} (h:stE a o l most 0=0):a.data.toList≠[]/\bY a.data.toList=a.data.toList:=by
 by_cases q:a.data.toList≠[]/\bY a.data.toList=a.data.toList
 ·exact q
 ·exfalso;have:stE a o l most 0=if a.data.toList≠[]/\bY a.data.toList=a.data.toList then 0 else 1:=rfl
  grind
theorem st1 {a:ByteArray} {o:Int} {l:List Int} {most:Int} (h:stE a o l most 1=0):jU l ((a.size:Int)+1):=by
 by_cases q:jU l ((a.size:Int)+1)
 ·exact q
 ·exfalso;have:stE a o l most 1=if jU l ((a.size:Int)+1) then 0 else 3:=rfl
  grind
theorem st2 {a:ByteArray} {o:Int} {l:List Int} {most:Int} (h:stE a o l most 2=0):((dD l).length:Int)<=most:=by
 by_cases q:((dD l).length:Int)<=most
 ·exact q
 ·exfalso;have:stE a o l most 2=if((dD l).length:Int)<=most then 0 else 4:=rfl;omega
theorem st3 {a:ByteArray} {o:Int} {l:List Int} {most:Int} (h:stE a o l most 3=0):dD l≠[]:=fun q=>by
 have:stE a o l most 3=if dD l=[] then 3 else 0:=rfl
 grind
theorem aBf {L:List UInt8} {o:Int} (d:0<L.length):qD L o=true↔(0<=o/\o<(L.length:Int)):=by grind [qD]
theorem st4 {a:ByteArray} {o:Int} {l:List Int} {most:Int} (d:dD l≠[]):stE a o l most 4=0↔(0<=o/\o<((dD l).length:Int)):=by
 have A:(unL a.data.toList (dD l)).length=(dD l).length:=sL _ _;have F:0<(unL a.data.toList (dD l)).length:=by grind
 have e:stE a o l most 4=if(if qD (unL a.data.toList (dD l)) o then(0:Int) else 1)=0 then 0 else 3:=rfl
 grind [aBf,qD,unL,dD,stE]
theorem aR2 {a:ByteArray} {o:Int} {l:List Int} {most:Int} {k:Nat} (A:k<5) (h:stE a o l most k≠0) (d:∀j,j<k->stE a o l most j=0):rest a o l most=(dN,stE a o l most k):=by
 match k,A with
 |0,_=>
  have e:stE a o l most 0=if a.data.toList≠[]/\bY a.data.toList=a.data.toList then 0 else 1:=rfl
  by_cases q:a.data.toList≠[]/\bY a.data.toList=a.data.toList
  ·grind
  ·rw[e,aA q];exact KB q
 |1,_=>
  have e:stE a o l most 1=if jU l ((a.size:Int)+1) then 0 else 3:=rfl
  by_cases q:jU l ((a.size:Int)+1)
  ·grind
  ·grind [QQ,st0,stE,rest,dN]
 |2,_=>
  have e:stE a o l most 2=if((dD l).length:Int)<=most then 0 else 4:=rfl
  by_cases q:((dD l).length:Int)<=most
  ·grind
  ·rw[e,aA q];exact KC (st0 (d 0 (by omega))) (st1 (d 1 (by omega))) q
 |3,_=>
  have e:stE a o l most 3=if dD l=[] then 3 else 0:=rfl
  by_cases q:dD l=[]
  ·rw[e,aB q];exact KD (st0 (d 0 (by omega))) (st1 (d 1 (by omega))) (st2 (d 2 (by omega))) (by rw[q];simp)
  ·grind
 |4,_=>
  have F:=st3 (d 3 (by omega));have G:=fun q=>h ((st4 (a:=a) (most:=most) F).2 q)
  rw[KD (st0 (d 0 (by omega))) (st1 (d 1 (by omega))) (st2 (d 2 (by omega))) G];have e:stE a o l most 4=if stD a o l most 4=0 then 0 else 3:=rfl
  by_cases q:stD a o l most 4=0
  ·grind
  ·rw[e,aA q]
theorem aR3 {a:ByteArray} {o:Int} {l:List Int} {most:Int} (d:∀j,j<5->stE a o l most j=0):rest a o l most=(mkS (oU (unL a.data.toList (dD l)) o),0):=by
 have A:=st3 (d 3 (by omega));have F:=(st4 (a:=a) (most:=most) A).1 (d 4 (by omega));have G:(unL a.data.toList (dD l)).length=(dD l).length:=sL _ _;rw[KE (st0 (d 0 (by omega))) (st1 (d 1 (by omega))) (st2 (d 2 (by omega))) F]
 grind [oU,aBf,stE,rest,mkS,unL,dD]
theorem aR4 (w0 w:World) (d:Nat) (a:ByteArray) (o:Int) (v:Value) (l:List Int) (most:Int) (ha:a.size<=140737488355328) (hr:RdI w0 v l) (hl:l.length<=1000000) (a2: -9223372036854775808<=o) (a3:o<=9223372036854775807) (a4: -9223372036854775808<=most) (a5:most<=1000000) (V:Below w0.heap.size w0 w) (a9:w0.heap.size<=d):
  ∀k,k<5->∀W,stS w0 d a o v l most k W->w.grownBy W (some d)->(∀j,j<k->stE a o l most j=0)->Calls pG (stF k) #[.pointer (some ⟨d,0,none⟩)] W fun e H=>e=.returned (.int .i64 (stD a o l most k))/\W.grownBy H (some d)/\(stE a o l most k=0->stS w0 d a o v l most (k+1) H):=by
 intro k hk W hS hg G;obtain⟨lv,b,A,s2,s3,s4,s5⟩:=hS;have Z:Below w0.heap.size w0 W:=V.grown hg V.size (fun q e=>by grind);have a0:RdI W v l:=hr.below Z
 match k,hk with
 |0,_=>
  refine(aQx d a o most v lv b W ha A).mono ?_;rintro e H ⟨rfl,hb⟩;exact⟨rfl,vY hb _,fun _=>⟨lv,b,A.below hb A.lt,by omega,by omega,by omega,by omega⟩⟩
 |1,_=>
  have I:=st0 (G 0 (by omega));have L:a.size<=256:=by
   have J:a.data.toList.length=a.size:=by simp
   rw[<-J,<-I.2];exact vX _
  have e1:stD a o l most 1=if jU l ((a.size:Int)+1) then 0 else 3:=rfl
  by_cases F:jU l ((a.size:Int)+1)
  ·rw[e1,aB F];refine(aQ0 d a o most v lv l b W L A a0 F).mono ?_
   grind [RdI,stS,stE,stF,stD]
  ·rw[e1,aA F];refine(aQz d a o most v lv l b W L A a0 F).mono ?_
   grind [vY,st1,RdI,stS,stE,stF,stD]
 |2,_=>
  have M:=st1 (G 1 (by omega));have L:a.size<=256:=by
   have I:=st0 (G 0 (by omega));have J:a.data.toList.length=a.size:=by simp
   rw[<-J,<-I.2];exact vX _
  refine(aQ1 d a o most v lv (l.take (l.length-1)) b W A ((s2 rfl).below Z) (by grind) (fun x hx=>by have:=M.2.2 x hx;omega) a4 a5).mono ?_;rintro e H ⟨rfl,O,a6,U,a1⟩;refine⟨rfl,O,fun h=>⟨a6,b,U,by omega,fun _=>?_,by omega,by omega⟩⟩;rw[(BN (m:=l.take (l.length-1)) (st2 h)).1] at a1;exact a1
 |3,_=>
  have I:=st0 (G 0 (by omega));have M:=st1 (G 1 (by omega));have h2:=st2 (G 2 (by omega));have J:a.data.toList.length=a.size:=by simp
  have L:a.size<=256:=by rw[<-J,<-I.2];exact vX _
  have a7:0<a.size:=by grind
  have e3:stD a o l most 3=if dD l=[] then 3 else 0:=rfl
  by_cases F:dD l=[]
  ·rw[e3,aB F];refine(aQ2 d a o most v lv b W A (by grind)).mono ?_;rintro e H ⟨rfl,rfl⟩;exact⟨rfl,vY (aH _ _) _,fun h=>absurd F (st3 h)⟩
  ·rw[e3,aA F];refine(aQ3 d a o most v lv (dD l) b W A (s3 rfl) (List.length_pos_iff.2 F) (by omega) (by omega) (by rw[<-I.2];exact JE _) (QS M a7)).mono ?_
   grind [RdI,stS,stE,stF,stD]
 |4,_=>
  have h2:=st2 (G 2 (by omega));obtain rfl:=s4 rfl;have a8:(mkS (unL a.data.toList (dD l))).size<=1000000000:=by rw[cS,sL];omega
  refine(aQ4 d a o most v lv _ W A a8 a2 a3).mono ?_;rintro e H ⟨rfl,O,U⟩;exact⟨rfl,O,fun _=>⟨lv,_,U,by omega,by omega,by omega,fun _=>rfl⟩⟩
theorem aR5 (a:ByteArray) (o:Int) (l:List Int) (most:Int):∀k,k<5->∀W,Calls pG (stY k) #[.int .i64 (stD a o l most k)] W fun e d=>e=.returned (.int .i64 (stE a o l most k))/\d=W:=by
 intro k A W
 match k,A with
 |0,_=>exact QT _ W
 |1,_=>exact QT _ W
 |2,_=>exact QT _ W
 |3,_=>
  refine(aBc (stD a o l most 3) W).mono ?_;rintro e d ⟨rfl,rfl⟩;refine⟨eI ?_,rfl⟩;have F:stD a o l most 3=if dD l=[] then 3 else 0:=rfl;have G:stE a o l most 3=if dD l=[] then 3 else 0:=rfl;rw[F,G]
  by_cases H:dD l=[]
  ·simp
  ·simp
 |4,_=>exact aBc (stD a o l most 4) W
theorem aR6 (w0:World) (d:Nat) (a:ByteArray) (o:Int) (v:Value) (l:List Int) (most:Int) (k:Nat) (W A:World) (h:stS w0 d a o v l most k W) (F:Below W.heap.size W A):stS w0 d a o v l most k A:=by
 obtain⟨lv,b,G,H,I,J,L⟩:=h;exact⟨lv,b,G.below F G.lt,H,fun e=>(I e).below F,J,L⟩
theorem aR7:∀k,k<5->Enters pG (stF k):=by
 intro k d
 match k,d with
 |0,_=>exact gQ func181 rfl rfl
 |1,_=>exact gQ func183 rfl rfl
 |2,_=>exact gQ func184 rfl rfl
 |3,_=>exact gQ func185 rfl rfl
 |4,_=>exact gQ func187 rfl rfl
theorem aR8:∀k,k<5->Enters pG (stY k):=by
 intro k d
 match k,d with
 |0,_=>exact gQ func182 rfl rfl
 |1,_=>exact gQ func182 rfl rfl
 |2,_=>exact gQ func182 rfl rfl
 |3,_=>exact gQ func186 rfl rfl
 |4,_=>exact gQ func186 rfl rfl
theorem aR9 (a:ByteArray) (o:Int) (v:Value) (l:List Int) (most:Int) (w:World) (hE:dU w) (ha:a.size<=140737488355328) (U:RdI w v l) (hl:l.length<=1000000) (a5: -9223372036854775808<=o) (a6:o<=9223372036854775807) (a7: -9223372036854775808<=most) (a8:most<=1000000):
  Calls pG 123 #[.agg #[.string a,.int .i64 o,v],.int .i64 most] w fun e w'=>e=.returned (.tuple #[.string (rest a o l most).1,.int .i64 (rest a o l most).2])/\Below w.heap.size w w':=by
 have a9:=hid (fun w1 wb b0 b1=>aR4 w w1 wb a o v l most ha U hl a5 a6 a7 a8 b0 b1);obtain⟨d,A,rfl,b7,b8,_⟩:=U.open;go_enter func123,ntmps123;go_wp2_with fail;have V:(w.alloc (.cells #[.string a,.int .i64 o,.slice d l.length A] 131)).heap.size=w.heap.size+1:=by simp
 have G:Below w.heap.size w ((((w.alloc (.cells #[.string a,.int .i64 o,.slice d l.length A] 131)).alloc (.cells #[.string a,.int .i64 o,.slice d l.length A,.int .i64 most,.slice none 0 0,.string {data:=#[]}] 236)).alloc (.cells #[.int .i64 0] 237)).alloc (.cells #[.func (.func 181) #[] #[],.func (.func 182) #[] #[],.func (.func 183) #[] #[],.func (.func 182) #[] #[],.func (.func 184) #[] #[],.func (.func 182) #[] #[],.func (.func 185) #[] #[],.func (.func 186) #[] #[],.func (.func 187) #[] #[],.func (.func 186) #[] #[]] 243)):=((((aH _ _).alloc (aD _) _).alloc (by simp) _).alloc (by simp;omega) _).alloc (by simp;omega) _
 have M:Arr ((((w.alloc (.cells #[.string a,.int .i64 o,.slice d l.length A] 131)).alloc (.cells #[.string a,.int .i64 o,.slice d l.length A,.int .i64 most,.slice none 0 0,.string {data:=#[]}] 236)).alloc (.cells #[.int .i64 0] 237)).alloc (.cells #[.func (.func 181) #[] #[],.func (.func 182) #[] #[],.func (.func 183) #[] #[],.func (.func 182) #[] #[],.func (.func 184) #[] #[],.func (.func 182) #[] #[],.func (.func 185) #[] #[],.func (.func 186) #[] #[],.func (.func 187) #[] #[],.func (.func 186) #[] #[]] 243)) (w.heap.size+1) 236 [.string a,.int .i64 o,.slice d l.length A,.int .i64 most,.slice none 0 0,.string {data:=#[]}]:=by
  have:=((Arr.new (w.alloc (.cells #[.string a,.int .i64 o,.slice d l.length A] 131)) 236 [.string a,.int .i64 o,.slice d l.length A,.int .i64 most,.slice none 0 0,.string {data:=#[]}]).alloc (.cells #[.int .i64 0] 237)).alloc (.cells #[.func (.func 181) #[] #[],.func (.func 182) #[] #[],.func (.func 183) #[] #[],.func (.func 182) #[] #[],.func (.func 184) #[] #[],.func (.func 182) #[] #[],.func (.func 185) #[] #[],.func (.func 186) #[] #[],.func (.func 187) #[] #[],.func (.func 186) #[] #[]] 243);rwa[V] at this
 have H:Arr ((((w.alloc (.cells #[.string a,.int .i64 o,.slice d l.length A] 131)).alloc (.cells #[.string a,.int .i64 o,.slice d l.length A,.int .i64 most,.slice none 0 0,.string {data:=#[]}] 236)).alloc (.cells #[.int .i64 0] 237)).alloc (.cells #[.func (.func 181) #[] #[],.func (.func 182) #[] #[],.func (.func 183) #[] #[],.func (.func 182) #[] #[],.func (.func 184) #[] #[],.func (.func 182) #[] #[],.func (.func 185) #[] #[],.func (.func 186) #[] #[],.func (.func 187) #[] #[],.func (.func 186) #[] #[]] 243)) (w.heap.size+1+1) 237 [.int .i64 0]:=by
  have:=(Arr.new ((w.alloc (.cells #[.string a,.int .i64 o,.slice d l.length A] 131)).alloc (.cells #[.string a,.int .i64 o,.slice d l.length A,.int .i64 most,.slice none 0 0,.string {data:=#[]}] 236)) 237 [.int .i64 0]).alloc (.cells #[.func (.func 181) #[] #[],.func (.func 182) #[] #[],.func (.func 183) #[] #[],.func (.func 182) #[] #[],.func (.func 184) #[] #[],.func (.func 182) #[] #[],.func (.func 185) #[] #[],.func (.func 186) #[] #[],.func (.func 187) #[] #[],.func (.func 186) #[] #[]] 243)
  rwa[show((w.alloc (.cells #[.string a,.int .i64 o,.slice d l.length A] 131)).alloc (.cells #[.string a,.int .i64 o,.slice d l.length A,.int .i64 most,.slice none 0 0,.string {data:=#[]}] 236)).heap.size=w.heap.size+1+1 by simp] at this
 have hF:Arr ((((w.alloc (.cells #[.string a,.int .i64 o,.slice d l.length A] 131)).alloc (.cells #[.string a,.int .i64 o,.slice d l.length A,.int .i64 most,.slice none 0 0,.string {data:=#[]}] 236)).alloc (.cells #[.int .i64 0] 237)).alloc (.cells #[.func (.func 181) #[] #[],.func (.func 182) #[] #[],.func (.func 183) #[] #[],.func (.func 182) #[] #[],.func (.func 184) #[] #[],.func (.func 182) #[] #[],.func (.func 185) #[] #[],.func (.func 186) #[] #[],.func (.func 187) #[] #[],.func (.func 186) #[] #[]] 243)) (w.heap.size+1+1+1) 243 [.func (.func 181) #[] #[],.func (.func 182) #[] #[],.func (.func 183) #[] #[],.func (.func 182) #[] #[],.func (.func 184) #[] #[],.func (.func 182) #[] #[],.func (.func 185) #[] #[],.func (.func 186) #[] #[],.func (.func 187) #[] #[],.func (.func 186) #[] #[]]:=by
  have:=Arr.new (((w.alloc (.cells #[.string a,.int .i64 o,.slice d l.length A] 131)).alloc (.cells #[.string a,.int .i64 o,.slice d l.length A,.int .i64 most,.slice none 0 0,.string {data:=#[]}] 236)).alloc (.cells #[.int .i64 0] 237)) 243 [.func (.func 181) #[] #[],.func (.func 182) #[] #[],.func (.func 183) #[] #[],.func (.func 182) #[] #[],.func (.func 184) #[] #[],.func (.func 182) #[] #[],.func (.func 185) #[] #[],.func (.func 186) #[] #[],.func (.func 187) #[] #[],.func (.func 186) #[] #[]]
  rwa[show(((w.alloc (.cells #[.string a,.int .i64 o,.slice d l.length A] 131)).alloc (.cells #[.string a,.int .i64 o,.slice d l.length A,.int .i64 most,.slice none 0 0,.string {data:=#[]}] 236)).alloc (.cells #[.int .i64 0] 237)).heap.size=w.heap.size+1+1+1 by simp] at this
 generalize ((((w.alloc (.cells #[.string a,.int .i64 o,.slice d l.length A] 131)).alloc (.cells #[.string a,.int .i64 o,.slice d l.length A,.int .i64 most,.slice none 0 0,.string {data:=#[]}] 236)).alloc (.cells #[.int .i64 0] 237)).alloc (.cells #[.func (.func 181) #[] #[],.func (.func 182) #[] #[],.func (.func 183) #[] #[],.func (.func 182) #[] #[],.func (.func 184) #[] #[],.func (.func 182) #[] #[],.func (.func 185) #[] #[],.func (.func 186) #[] #[],.func (.func 187) #[] #[],.func (.func 186) #[] #[]] 243))=wc at*
 have Z:∀k,k<5->wc.cell? ⟨w.heap.size+1+1+1,k*2,none⟩=some (lK (.func (stF k)) #[] #[])/\wc.cell? ⟨w.heap.size+1+1+1,k*2+1,none⟩=some (lK (.func (stY k)) #[] #[]):=fun k O=>by
  match k,O with
  |0,_=>exact⟨hF.cell (i:=0) rfl,hF.cell (i:=1) rfl⟩
  |1,_=>exact⟨hF.cell (i:=2) rfl,hF.cell (i:=3) rfl⟩
  |2,_=>exact⟨hF.cell (i:=4) rfl,hF.cell (i:=5) rfl⟩
  |3,_=>exact⟨hF.cell (i:=6) rfl,hF.cell (i:=7) rfl⟩
  |4,_=>exact⟨hF.cell (i:=8) rfl,hF.cell (i:=9) rfl⟩
 have a0:=M.lt;refine(aQ7 (w.heap.size+1) (w.heap.size+1+1+1) wc stF stY (stD a o l most) (stE a o l most) (stS w (w.heap.size+1) a o (.slice d l.length A) l most) Z (by omega) a0 aR7 aR8 (a9.out wc (w.heap.size+1) G (by omega)) (aR5 a o l most) (fun k W W' h hb=>aR6 w _ a o _ l most k W W' h hb) ⟨_,_,M,by omega,by omega,by omega,by omega⟩).mono ?_;rintro e w1 ⟨I,b2⟩;have J:Below w.heap.size w w1:=G.grown I G.size (fun q e=>by injection e with e;omega);have a1:w1.cell? ⟨w.heap.size+1+1,0,none⟩=some (.int .i64 0):=I.cell (H.cell (i:=0) rfl) (by simp)
 have a2:w1.frozen? ⟨w.heap.size+1+1,0,none⟩=false:=by rw[World.frozen?_of_block (I.block _ H.lt (by simp))];exact H.free 0
 have b3:dU w1:=hE.below J;clear V G M H hF Z a0 I;rcases b2 with⟨k,O,a3,F,rfl⟩|⟨F,hS,rfl⟩
 ·have L:=hid (aR2 O a3 F);obtain⟨x,hx⟩:∃x,x=stE a o l most k:=⟨_,rfl⟩;rw[<-hx] at L ⊢;clear a3 F hx;have HA:=hid (aR1 k x ⟨w.heap.size+1+1,0,none⟩ (.int .i64 0) w1 b3 a1 a2);clear a1 a2;go_wp2_with fail;refine HA.out.mono ?_;rintro e w2 ⟨rfl,b4,b9⟩;have b5:Below w.heap.size w w2:=J.grown b4 J.size (fun q e=>by injection e with e;omega);go_wp2_with fail
  go_quiet (fail)
  go_wp2_with fail
  go_ret2
  rw[L.out];exact⟨rfl,kY b5 _⟩
 ·have L:=hid (aR3 F);obtain⟨lv,b,b6,_,_,_,a4⟩:=hS;obtain rfl:=a4 rfl;have d5:=b6.cell (i:=5) rfl;clear F a4;go_wp2_with (go_at_call 188;refine(aRz _ _).mono ?_;rintro e w2 ⟨rfl,rfl⟩)
  go_ret2
  rw[L.out];exact⟨rfl,J⟩
noncomputable def oOf (s:ByteArray):Nat->Int:=Classical.epsilon (fun o=>Ord (cQ s) s.size s.size o)
def iZ (s:ByteArray):Prop:=Ord (cQ s) s.size s.size (oOf s)
theorem QX {s:ByteArray} {o:Nat->Int} (h:Ord (cQ s) s.size s.size o):iZ s:=Classical.epsilon_spec (p:=fun o=>Ord (cQ s) s.size s.size o) ⟨o,h⟩
noncomputable def sR (s:ByteArray):List UInt8:=eM s (oOf s) s.size
noncomputable def sqA (s:ByteArray):ByteArray:=if s.size=0 then dN else mkS (bY s.data.toList)
noncomputable def sqO (s:ByteArray):Int:=if s.size=0 then 0 else((gX (oOf s) s.size:Nat):Int)
noncomputable def sqS (s:ByteArray):List Int:=if s.size=0 then[] else rN s (oOf s)
def sqE (s:ByteArray):Int:=if s.size=0 then 1 else 0
theorem aBi {s:ByteArray} {o:Nat->Int} (h:Ord (cQ s) s.size s.size o):rN s o=rN s (oOf s)/\gX o s.size=gX (oOf s) s.size:=by
 have d:=h.uniq (QX h)
 grind [rN,aQe,aQf,cQ,oOf,gX]
theorem aBj {s:ByteArray} (h:s.size=0):s=dN:=by
 rw[<-qB s,List.length_eq_zero_iff.1 (show s.data.toList.length=0 by simpa using h)];rfl
theorem aSi (s:ByteArray) (w:World) (M:s.size<=65536):
  Calls pG 81 #[.string s] w fun e w'=>∃v,e=.returned (.tuple #[.agg #[.string (sqA s),.int .i64 (sqO s),v],.int .i64 (sqE s)])/\RdI w' v (sqS s)/\Below w.heap.size w w'/\(0<s.size->iZ s):=by
 rcases jE s.size with d|d
 ·have F:sqA s=dN:=aB d;have G:sqO s=0:=aB d;have H:sqS s=[]:=aB d;have I:sqE s=1:=aB d;rw[F,G,H,I];have:=aBj d;subst this;refine(aP5 w).mono ?_;rintro e w' ⟨rfl,J⟩;exact⟨_,rfl,⟨none,0,rfl,aD _,by simp[maxLen],.inl rfl⟩,J,fun h=>absurd h (by omega)⟩
 ·have A:¬s.size=0:=by omega
  refine(aP6 s w d M).mono ?_;rintro e w' ⟨o,v,L,rfl,O,J⟩;obtain⟨U,V⟩:=aBi L;have F:sqA s=mkS (bY s.data.toList):=aA A;have G:sqO s=((gX (oOf s) s.size:Nat):Int):=aA A;have H:sqS s=rN s (oOf s):=aA A;have I:sqE s=0:=aA A;rw[F,G,H,I,<-U,<-V];exact⟨v,rfl,O.rd,J,fun _=>QX L⟩
theorem aSf (s:ByteArray) (w:World) (M:s.size<=65536):
  Calls pG 100 #[.string s] w fun e w'=>∃v,e=.returned (.tuple #[.agg #[.string (sqA s),.int .i64 (sqO s),v],.int .i64 (sqE s)])/\RdI w' v (sqS s)/\Below w.heap.size w w'/\(0<s.size->iZ s):=by
 rcases jE s.size with d|d
 ·have F:sqA s=dN:=aB d;have G:sqO s=0:=aB d;have H:sqS s=[]:=aB d;have I:sqE s=1:=aB d;rw[F,G,H,I];have:=aBj d;subst this;refine(aQl w).mono ?_;rintro e w' ⟨rfl,J⟩;exact⟨_,rfl,⟨none,0,rfl,aD _,by simp[maxLen],.inl rfl⟩,J,fun h=>absurd h (by omega)⟩
 ·have A:¬s.size=0:=by omega
  refine(aQm s w d M).mono ?_;rintro e w' ⟨o,v,L,rfl,O,J⟩;obtain⟨U,V⟩:=aBi L;have F:sqA s=mkS (bY s.data.toList):=aA A;have G:sqO s=((gX (oOf s) s.size:Nat):Int):=aA A;have H:sqS s=rN s (oOf s):=aA A;have I:sqE s=0:=aA A;rw[F,G,H,I,<-U,<-V];exact⟨v,rfl,O.rd,J,fun _=>QX L⟩
theorem aBk (s:ByteArray):(sR s).length=s.size:=by unfold sR eM;simp
theorem aSg {s:ByteArray} (h:iZ s):(sR s).Perm s.data.toList:=QK s h
theorem aSh (s:ByteArray):rN s (oOf s)=dM 0 (dL (bY s.data.toList) (sR s))++[((bY s.data.toList).length:Int)+1]:=rfl
theorem aBl {s:ByteArray} (h:iZ s):∀b∈sR s,b∈bY s.data.toList:=by grind [DS,aSg,iZ,sR,bY]
theorem aBm {s:ByteArray} (h:iZ s):∀x∈dL (bY s.data.toList) (sR s),0<=x/\x<((bY s.data.toList).length:Int):=BH _ _ (aBl h)
theorem QY (s:ByteArray):(sqS s).length<=s.size+1/\(0<s.size->2<=(sqS s).length):=by grind [sqS,aSh,PM,dL,bY,sR,vQ,aBk]
theorem KH (c n:Int) (w:World) (F: -9223372036854775808<=c) (G:c<=9223372036854775807) (H:1<=n) (I:n<=1000000000):
  Calls pG 78 #[.int .i64 c,.int .i64 n] w fun e w'=>e=.returned (.int .i64 (cK c n))/\w=w':=by
 by_cases A:c<0
 ·have d:=hid (show cK c n=(-(c+1))%n from by simp[cK,A]);go_enter func78,ntmps78;go_wp2;go_ret;exact⟨eI (by rw[d.out];rw[<-Int.neg_tmod,Int.tmod_eq_emod_of_nonneg (by omega)]),rfl⟩
 ·have d:=hid (show cK c n=c%n from by simp[cK,A]);have J:0<=c:=by omega
  go_enter func78,ntmps78;go_wp2;go_ret;exact⟨eI (by rw[d.out]),rfl⟩
def RdP (w:World) (v:Value) (l:List (Int×Int)):Prop:=
 ∃a cap,v=.slice a l.length cap/\l.length<=cap/\cap<=maxLen/\
  (0<l.length->∃b off,a=some ⟨b,off,none⟩/\b<w.heap.size/\∀j p,l[j]? =some p->w.cell? ⟨b,off+j*2,none⟩=some (.int .i64 p.1)/\w.cell? ⟨b,off+j*2+1,none⟩=some (.int .i64 p.2))
def WfP (l:List (Int×Int)):Prop:=∀p∈l,(-9223372036854775808<=p.1/\p.1<=9223372036854775807)/\(-9223372036854775808<=p.2/\p.2<=9223372036854775807)
theorem RdP.below {w w':World} {v:Value} {l:List (Int×Int)} (h:RdP w v l) (d:Below w.heap.size w w'):RdP w' v l:=by
 obtain⟨a,cap,rfl,A,F,G⟩:=h;refine⟨a,cap,rfl,A,F,fun h=>?_⟩;obtain⟨b,off,rfl,H,I⟩:=G h;exact⟨b,off,rfl,Nat.lt_of_lt_of_le H d.size,fun j p J=>by grind [pJ,RdP]⟩
theorem aBn (b:UInt8) (W:World):(convert 48 9 (.slice (some ⟨W.heap.size,0,none⟩) 1 1)).run pG (W.alloc (.cells #[.int .u8 (b.toNat:Int)] 5))=.ok (.string (mkS [b])) (W.alloc (.cells #[.int .u8 (b.toNat:Int)] 5)):=
 mP (l:=[b]) ((Arr.new W 5 [.int .u8 (b.toNat:Int)]).rdB (l:=[b]) rfl (by decide))
theorem aBo (v:Value) (A:List (Int×Int)) (most:Int) (w:World) (hr:RdP w v A) (a8:WfP A) (a9:0<=most) (c0:most<=1000):
  Calls pG 50 #[v,.int .i64 most] w fun e w'=>∃s:ByteArray,e=.returned (.string s)/\(s.size:Int)<=most/\Below w.heap.size w w':=by
 obtain⟨a,ca,rfl,c2,b0,Z⟩:=hr;unfold maxLen at b0;go_enter func50,ntmps50;go_wp2
 go_loopg [5,6,7,8] A.length (fun g out i _c _k wr=>∃(k:Nat) (s:ByteArray),k<=A.length/\g=A.length-k/\i=.int .i64 k/\out=.string s/\(s.size:Int)<=most/\Below w.heap.size w wr)
 case atStart=>exact⟨0,_,aO _,rfl,rfl,rfl,a9,aH _ _⟩
 case round=>
  obtain⟨k,s,hk,G,rfl,rfl,J,d⟩:=hrel;have HG:=hid G;clear G;have b2:s.size<=1000:=by omega
  by_cases L:k<A.length
  ·by_cases M:(s.size:Int)<most
   ·obtain⟨H,O,rfl,a0,a1⟩:=Z (by omega);obtain⟨p,I⟩:∃p,A[k]? =some p:=⟨_,aN L⟩;obtain⟨⟨c3,c4⟩,c5,c6⟩:=a8 p (List.mem_of_getElem? I);obtain⟨a2,a3⟩:=a1 k p I;obtain⟨x,y⟩:=p;have hn:=d.size;have c1:∀o,(wr.alloc o).cell? ⟨H,O+k*2,none⟩=some (.int .i64 x):=fun o=>by
     rw[World.cell?_alloc_past _ _ _ (by show H<wr.heap.size;omega),d.cell (p:=⟨H,O+k*2,none⟩) a0];exact a2
    have hd:decide ((s.size:Int)<most)=true:=by simpa using M
    obtain⟨U,a4⟩:=lN x 6 (by decide);obtain⟨q,hq⟩:=Int.eq_ofNat_of_zero_le U;have b3:q<6:=by omega
    have HQ:=hid hq;have HP:=hid I;have b4:=hid a3;clear Z a1 I a2 a3 hq U a4;have a5:q=0\/q=1\/q=2\/q=3\/q=4\/q=5:=by omega
    go_upto_region 5 with fail
    go_cut [7] (fun c7 wx=>(∃b:UInt8,c7=.int .u8 (b.toNat:Int))/\Below w.heap.size w wx)
    case first=>
     rcases a5 with rfl|rfl|rfl|rfl|rfl|rfl
     all_goals
      go_wp2_with (go_at_call 78;refine(KH _ _ _ ?_ ?_ ?_ ?_).mono ?_;omega;omega;decide;decide;rintro e w' ⟨rfl,rfl⟩;rw[HQ.out]);go_meet
     ·exact⟨⟨0,rfl⟩,d.alloc (by omega) _⟩
     ·exact⟨⟨1,rfl⟩,d.alloc (by omega) _⟩
     ·exact⟨⟨4,rfl⟩,d.alloc (by omega) _⟩
     ·exact⟨⟨97,rfl⟩,d.alloc (by omega) _⟩
     ·exact⟨⟨98,rfl⟩,d.alloc (by omega) _⟩
     ·exact⟨⟨255,rfl⟩,d.alloc (by omega) _⟩
    case rest=>
     obtain⟨⟨b,rfl⟩,b5⟩:=hcut;clear c1 a5 b3 HQ hd M b2 d hn;have b6:=hid L;go_wp2;obtain⟨U,a4⟩:=lN y 300 (by decide)
     go_loopg [8,5] 300 (fun g s8 s5 wr=>∃(j:Nat) (t:ByteArray),j<=300/\g=300-j/\s8=.int .i64 j/\s5=.string t/\(t.size:Int)<=most/\Below w.heap.size w wr)
     case atStart=>exact⟨0,s,by omega,rfl,rfl,rfl,J,b5⟩
     case round=>
      obtain⟨j,t,hj,V,rfl,rfl,ht,F⟩:=hrel;have b7:=hid V;clear V;have L:=b6.out;have c8:t.size<=1000:=by omega
      have cy:=(F.cell (p:=⟨H,O+k*2+1,none⟩) a0).trans b4.out
      by_cases a6:(j:Int)<1+cK y 300
      ·have b8:decide ((j:Int)<1+cK y 300)=true:=by simpa using a6
       by_cases a7:(t.size:Int)<most
       ·have b9:decide ((t.size:Int)<most)=true:=by simpa using a7
        have c9:=aBn b;go_wp2_with (go_at_call 78;refine(KH _ _ _ ?_ ?_ ?_ ?_).mono ?_;omega;omega;decide;decide;rintro e w' ⟨rfl,rfl⟩);have V:=b7.out
        go_roundg (300-(j+1))
        case measure=>omega
        case rel=>exact⟨j+1,_,by omega,rfl,by go_num,rfl,by rw[rG,cS];simp;omega,F.alloc (by have:=F.size;omega) _⟩
       ·have b9:decide ((t.size:Int)<most)=false:=by simpa using a7
        go_wp2_with (go_at_call 78;refine(KH _ _ _ ?_ ?_ ?_ ?_).mono ?_;omega;omega;decide;decide;rintro e w' ⟨rfl,rfl⟩);have G:=HG.out
        go_roundg (A.length-(k+1))
        case measure=>omega
        case rel=>exact⟨k+1,_,by omega,rfl,by go_num,rfl,ht,F⟩
      ·have b8:decide ((j:Int)<1+cK y 300)=false:=by simpa using a6
       go_wp2_with (go_at_call 78;refine(KH _ _ _ ?_ ?_ ?_ ?_).mono ?_;omega;omega;decide;decide;rintro e w' ⟨rfl,rfl⟩);have G:=HG.out
       go_roundg (A.length-(k+1))
       case measure=>omega
       case rel=>exact⟨k+1,_,by omega,rfl,by go_num,rfl,ht,F⟩
   ·have hd:decide ((s.size:Int)<most)=false:=by simpa using M
    go_wp2;go_ret;exact⟨s,rfl,J,d⟩
  ·go_wp2;go_ret;exact⟨s,rfl,J,d⟩
end
section
open Go.RowKit Go Go.Shelf
theorem MM {m:List Int} {j:Nat} {g:List Int} (h:(dA m)[j]? =some g):(∀x∈g,x∈m)/\g.length<=10:=by grind [kR,BY,dA]
theorem yA {m:List Int} {n wh:Nat} (d:m.length<=20000) (h:∀x∈m,0<=x/\x<(n:Int)):(mW m n wh).length=n/\(mW m n wh).sum<=20000/\∀x∈mW m n wh,0<=x/\x<=20000:=by
 obtain⟨A,F,G⟩:=BZ m n wh h m.length (aD _)
 grind [mW,xO]
theorem LOK.two {w:World} {x y:Value} {a b:List Int} (d:RdI w x a) (A:RdI w y b):LOK w [x,y] [a,b]:=(LOK.nil w |>.snoc d).snoc A
def aHd (w w':World) (m:List Int) (n:Nat) (e:Ending):Prop:=
 ∃v u,e=.returned (.tuple #[v,u,.int .i64 0])/\RdL w' v [eN m n 0,eN m n 1]/\OwI w' w.heap.size u (dS m n)/\Below w.heap.size w w'
theorem bAc (v:Value) (m:List Int) (n:Nat) (w:World) (O:RdI w v m) (i2:0<m.length) (H:m.length<=20000) (U:2<=n) (V:n<=258) (d:∀x∈m,0<=x/\x<(n:Int)):
  Calls pG 101 #[v,.int .i64 (n:Int)] w fun e w'=>aHd w w' m n e:=by
 have c3:=hid (xR (which:=0) U V d H);have c4:=hid (xR (which:=1) U V d H);have c6:=hid (wF (which:=0) U V d H).2;have c7:=hid (wF (which:=1) U V d H).2;have HX:=hid d;obtain⟨a,ca,rfl,i3,i4,hA⟩:=O.open;have t1:decide ((n:Int)<2)=false:=aE (by omega);have t2:decide ((n:Int)>258)=false:=aE (by omega);have t3:decide (258<(n:Int))=false:=aE (by omega);have t4:((m.length:Int)==0)=false:=by rw[cB];omega
 have t5:decide ((m.length:Int)>1048576)=false:=aE (by omega);have t6:decide (1048576<(m.length:Int))=false:=aE (by omega);have t7:(m.length==0)=false:=by rw[cB];omega
 have c8:=aFy _ m n w O d;have a9:=fun(wh:Nat) (hw:wh<=1) W h=>aYg (.slice a m.length ca) m n wh W h (by omega) (by omega) hw d
 have b0:=fun(wh:Nat) u W (h:RdI W u (mW m n wh))=>aYa u (mW m n wh) W h (by rw[(yA H d).1];exact U) (by rw[(yA H d).1];exact V) (yA H d).2.2 (yA H d).2.1
 have c9:=a9 0 (by decide);have d0:=a9 1 (by decide);have d1:=fun W h=>aYf (.slice a m.length ca) m W h (by omega)
 clear a9 hA d;go_enter func101,ntmps101;go_wp2_with fail;refine c8.mono ?_;rintro e w0 ⟨rfl,rfl⟩;go_wp2_with fail;refine(c9 _ O).mono ?_;rintro e w1 ⟨v1,rfl,d2,b1⟩;have d3:=O.below b1;go_wp2_with fail;refine(b0 0 v1 _ (OwI.rd d2)).mono ?_;rintro e w2 ⟨v2,rfl,d4,b2⟩;have b3:=d3.below b2;have b4:=aW b1 b2;have d5:=OwI.rd d4;have i5:w0.heap.size<=w2.heap.size:=b4.size;clear d3 d2 b1 b2 d4;go_wp2_with fail;refine(d0 _ b3).mono ?_;rintro e w3 ⟨v3,rfl,d6,a1⟩;have d7:=b3.below a1;have d8:=d5.below a1;have d9:=aW b4 a1;clear b3 d5 b4;go_wp2_with fail
 refine(b0 1 v3 _ (OwI.rd d6)).mono ?_;rintro e w4 ⟨v4,rfl,e0,a2⟩;have e1:=d7.below a2;have e2:=d8.below a2;have e3:=aW d9 a2;have e4:=OwI.rd e0;clear d7 d8 d9 d6 a1 e0 a2;go_wp2_with fail;refine(d1 _ e1).mono ?_;rintro e Z ⟨v5,rfl,e5,J⟩;have a3:=e2.below J;have a4:=e4.below J;have e6:=aW e3 J;rw[show qX (mW m n 0)=eN m n 0 from rfl] at a3;rw[show qX (mW m n 1)=eN m n 1 from rfl] at a4;obtain⟨A,a6⟩:∃A,A=eN m n 0:=⟨_,rfl⟩;obtain⟨C,a7⟩:∃C,C=eN m n 1:=⟨_,rfl⟩;rw[<-a6] at a3 c3 c6;rw[<-a7] at a4 c4 c7;obtain⟨a5,c5,rfl,e7,g1,a8⟩:=e5.open;unfold maxLen at g1
 rw[kR] at e7 a8;rw[kR];obtain⟨G,hG⟩:∃G,G=(m.length+9)/10:=⟨_,rfl⟩;rw[<-hG] at e7 a8 ⊢;have HA:=hid a6;have HC:=hid a7;have e8:=hid hG;have i6:G<=2001:=by omega
 have g2:=hid (fun j g (h:(dA m)[j]? =some g)=>MM h);have e9:=fun(g:List Int) u W (h:RdI W u g) (hv:RdI W v2 A) (h1:∀x∈g,x∈m) (h3:g.length<=10)=>aF1 v2 u A g W hv h c3.out (by rw[c6.out];exact fun x d=>HX.out x (h1 x d)) (by omega)
 have f0:=fun(g:List Int) u W (h:RdI W u g) (hv:RdI W v4 C) (h1:∀x∈g,x∈m) (h3:g.length<=10)=>aF1 v4 u C g W hv h c4.out (by rw[c7.out];exact fun x d=>HX.out x (h1 x d)) (by omega)
 have g3:=hid e9;have g4:=hid f0;have g5:=hid (show dS m n=(dA m).map (rO A C) by unfold dS;rw[a6,a7]);clear c8 c9 d0 b0 d1 O e1 e2 e4 e3 J e5 e9 f0 a6 a7 hG;go_wp2_with fail
 go_loopg [12,13,14,15,16,17] G (fun g g6 g7 _s14 _s15 _s16 _s17 wr=>∃(k:Nat) (u:Value),k<=G/\g=G-k/\u=g6/\g7=.int .i64 (k:Int)/\OwI wr Z.heap.size u (((dA m).take k).map (rO A C))/\Below Z.heap.size Z wr)
 case atStart=>exact⟨0,_,aO _,rfl,rfl,rfl,OwI.nil _ _,aH _ _⟩
 case round=>
  obtain⟨k,u,hk,F,rfl,rfl,ho,I⟩:=hrel;have HG:=hid F;clear F;have i7:=I.size;have i8:(((dA m).take k).map (rO A C)).length<=3000:=by rw[List.length_map,List.length_take];omega
  by_cases g8:k<G
  ·have u1:decide ((k:Int)<(G:Int))=true:=aG (by omega);obtain⟨b5,o5,rfl,J,f1⟩:=a8 (by omega);obtain⟨g,F⟩:∃g,(dA m)[k]? =some g:=⟨_,aN (by rw[kR,<-e8.out];exact g8)⟩;obtain⟨x,f2,f3⟩:=f1 k g F;have c1:=(I.cell (p:=⟨b5,o5+k,none⟩) J).trans f2;have b6:=f3.below I;have f4:=a3.below I;obtain⟨q1,q2⟩:=g2.out k g F;have b7:=g3.out g x wr b6 f4 q1 q2;have HT:=hid (show((dA m).take (k+1)).map (rO A C)=((dA m).take k).map (rO A C)++[if qW C g<qW A g then 1 else 0] by rw[List.take_add_one,F,List.map_append];rfl);have HQ:=hid q1
   obtain⟨p0,f5⟩:∃p0,p0=qW A g:=⟨_,rfl⟩;obtain⟨p1,b8⟩:∃p1,p1=qW C g:=⟨_,rfl⟩;rw[<-f5] at b7 HT;rw[<-b8] at HT;have g9:=hid b8;obtain⟨ax,cx,rfl,_,_,_⟩:=f3.open;clear f1 F f2 a8 f5 b8;go_wp2_with fail;refine b7.mono ?_;rintro e w6 ⟨rfl,a0⟩;have b9:=aW I a0;have c1:=(a0.cell (p:=⟨b5,o5+k,none⟩) (by show b5<wr.heap.size;omega)).trans c1;have c0:=g4.out g _ w6 (b6.below a0) (a4.below b9) HQ.out q2;rw[<-g9.out] at c0;have f6:=OwI.below ho a0 (aD _);have i9:=b9.size;clear b7 b6 f4 a0 ho;go_wp2_with fail;refine c0.mono ?_;rintro e w7 ⟨rfl,L⟩;have c2:=aW b9 L
   have f7:=OwI.below f6 L (aD _);have f8:=c2.size;clear c0 L f6 c1
   by_cases M:p1<p0
   ·have u2:decide (p1<p0)=true:=aG M;rw[aB M] at HT;clear M;go_wp2_with (at_builtin;refine gK rfl _ _ rfl Z.heap.size _ _ rfl (OwI.alloc f7 _) _ 1 rfl (bX _ _ _) ?_ ?_ ?_;(omega);(simp;omega);intro v8 w8 r1 r2 r3);have F:=HG.out
    go_roundg (G-(k+1))
    case measure=>omega
    case rel=>exact⟨k+1,_,by omega,rfl,rfl,by go_num,by rw[HT.out];exact r1,(c2.alloc f8 _).trans r2⟩
   ·have u2:decide (p1<p0)=false:=aE M;rw[aA M] at HT;clear M;go_wp2_with (at_builtin;refine gK rfl _ _ rfl Z.heap.size _ _ rfl (OwI.alloc f7 _) _ 0 rfl (bX _ _ _) ?_ ?_ ?_;(omega);(simp;omega);intro v8 w8 r1 r2 r3);have F:=HG.out
    go_roundg (G-(k+1))
    case measure=>omega
    case rel=>exact⟨k+1,_,by omega,rfl,rfl,by go_num,by rw[HT.out];exact r1,(c2.alloc f8 _).trans r2⟩
  ·have u1:decide ((k:Int)<(G:Int))=false:=aE (by omega);rw[List.take_of_length_le (by rw[kR,<-e8.out];omega),<-g5.out] at ho;have f9:=a3.below I;have g0:=a4.below I;have i0:=aW e6 I;have j0:=e6.size;obtain⟨av,cv,rfl,_,_,_⟩:=f9.open;obtain⟨aw,cw,rfl,_,_,_⟩:=g0.open;go_wp2_with fail
   go_ret3
   have i1:=uF wr 26 [.slice av A.length cv,.slice aw C.length cw] 2 rfl (by decide);have L:=bD (aH wr.heap.size wr) (.cells #[.slice av A.length cv,.slice aw C.length cw] 26);refine⟨_,_,rfl,⟨[.slice av A.length cv,.slice aw C.length cw],i1,?_⟩,Ow.base (OwI.alloc ho _) (by omega),bD i0 _⟩;rw[<-HA.out,<-HC.out];exact LOK.two (f9.below L) (g0.below L)
theorem UA {s:List UInt8} {a c:Int} {k:Nat} (h:(bO s a c k).2.2=0):bO s a c (k+1)=
  if(gS s (bO s a c k).2.1 c).2.2≠0 then((bO s a c k).1,(bO s a c k).2.1,(gS s (bO s a c k).2.1 c).2.2)
  else if bM (gS s (bO s a c k).2.1 c).1≠0 then((bO s a c k).1,(bO s a c k).2.1,bM (gS s (bO s a c k).2.1 c).1)
  else((bO s a c k).1++[(gS s (bO s a c k).2.1 c).1],(gS s (bO s a c k).2.1 c).2.1,0):=by grind [bO,gS,bM]
theorem MN {s:List UInt8} {a c:Int} {k:Nat} (h:(bO s a c k).2.2≠0):∀j,(bO s a c (k+j)).2.2=(bO s a c k).2.2
 |0=>rfl
 |j+1=>by
  have d:=MN h j
  grind [bO]
theorem MO {s:List UInt8} {a c:Int} (d:0<=a):∀k,(bO s a c k).2.2=0->a<=(bO s a c k).2.1/\((bO s a c k).2.1=a\/(bO s a c k).2.1<=8*(s.length:Int))
 |0,_=>⟨Int.le_refl _,.inl rfl⟩
 |k+1,h=>by
  have A:(bO s a c k).2.2=0:=by grind [bO,MN]
  obtain⟨F,G⟩:=MO (s:=s) (c:=c) d k A
  grind [UA,gS,EP,bO,bC]
def iE (w:World) (B:Nat) (d:List Value) (gs:List (List Int)):Prop:=d.length=gs.length/\∀(j:Nat) (x:Value) (g:List Int),d[j]? =some x->gs[j]? =some g->OwI w B x g
theorem iE.nil (w:World) (B:Nat):iE w B [] []:=by simp[iE]
theorem iE.map {w w':World} {B B':Nat} {d:List Value} {gs:List (List Int)} (h:iE w B d gs) (k:∀(x:Value) (g:List Int),OwI w B x g->OwI w' B' x g):iE w' B' d gs:=by grind [iE,OwI]
theorem iE.below {w w':World} {B:Nat} {d:List Value} {gs:List (List Int)} (h:iE w B d gs) (A:Below w.heap.size w w'):iE w' B d gs:=by grind [OwI.below,iE]
theorem iE.alloc {w:World} {B:Nat} {d:List Value} {gs:List (List Int)} (h:iE w B d gs) (o:Obj):iE (w.alloc o) B d gs:=by grind [OwI.alloc,iE]
theorem iE.ok {w:World} {B:Nat} {d:List Value} {gs:List (List Int)} (h:iE w B d gs):LOK w d gs:=by grind [OwI.rd,iE,LOK]
theorem iE.app {w w':World} {B B':Nat} {d A:List Value} {gs:List (List Int)} {v:Value} (h:iE w B d gs) (F:Ow w B' 26 v A) (G:w.grownBy w' v.ownBlock):iE w' B d gs:=h.map (fun _ _ k=>Ow.kept k G (uV k F (by decide)))
theorem iE.snoc {w:World} {B:Nat} {d:List Value} {gs:List (List Int)} (h:iE w B d gs) {x:Value} {g:List Int} (A:OwI w B x g):iE w B (d++[x]) (gs++[g]):=by grind [iE,OwI]
end
end Go.Proofs.YtihbnmlinkbnkaaGreatDoor
