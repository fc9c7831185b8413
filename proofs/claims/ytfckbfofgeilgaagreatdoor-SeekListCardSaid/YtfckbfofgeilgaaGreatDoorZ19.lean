/-
  Texts put together (part 19): the walks and the plain laws on which the statement stands.
-/
import Derived.Test.YtfckbfofgeilgaaGreatDoorZ15
import Derived.Test.YtfckbfofgeilgaaGreatDoorZ16
set_option maxRecDepth 100000
set_option maxHeartbeats 12800000
set_option linter.unusedVariables false
set_option linter.unusedSimpArgs false
open Go.Proofs.Tryz
open Go.Proofs.Tryz renaming prog->pG
open ByteArray renaming size_append->rG
open Go renaming run_callFunc_extern->rZ
open Go.Extern.ReflectliteType renaming abiMethod->aLr,assignableTo->aLt,implements_->bGg,method->WZ,relation->OJ,toType->bGf,typeOf->OL
open Go.Extern.ReflectliteValue renaming elem->aLv,isNil->aLs,method->OI,methodAny->bGe,set->aLw,unpack->WY,valueError->IM
open Go.Instr renaming typeAssert->tZ
open Go.IntKind renaming i64->aJ,wrap_i64->aM
open Go.Proofs renaming enters_of->gQ
open Go.RowKit.Below renaming refl->aH
open Go.Value renaming func->lK,int->bQ
open Go.World renaming block_lt_of_cell?->gV,cell?_alloc_lt->OO
open Int renaming toNat_natCast->fL
open List renaming getD_eq_getElem?_getD->bV,getElem?_eq_getElem->aN,mem_of_getElem?->cN,replicate->aX
open Nat renaming le_refl->aD,zero_le->aO
namespace Go.Proofs.YtfckbfofgeilgaaGreatDoor
section
open Go.RowKit Go.Extern.Stop Go.Stop Go.Extern
def dU (w:World):Prop:=w.cell? ⟨0,0,none⟩=some (.iface 279 (.agg #[.pointer (some ⟨1,93,none⟩)]))
theorem dU.lt {w:World} (h:dU w):0<w.heap.size:=gV w _ h
theorem dU.below {w w':World} (h:dU w) (d:Below w.heap.size w w'):dU w':=(d.cell (p:=⟨0,0,none⟩) h.lt).trans h
theorem dU.grown {w w':World} {g:Nat} (h:dU w) (d:w.grownBy w' (some g)) (e:0<g):dU w':=d.cell h (by simp;omega)
theorem aRx (v:Value) (w:World):(tZ (.iface 354 v) 93 385 true).run pG w=.ok (.tuple #[.nilIface,.bool false]) w:=run_typeAssert_lacksB underlying385 (by kernel_rfl) (by kernel_rfl) v _ w
theorem aRy (v:Value) (w:World):(tZ (.iface 354 v) 93 284 true).run pG w=.ok (.tuple #[.iface 354 v,.bool true]) w:=by kernel_rfl
theorem aRz (t:Value) (w:World):
  Calls pG 208 #[.nilIface,t] w fun e w'=>e=.returned (.bool false)/\w'=w:=by
 go_enter func208,ntmps208;go_wp2;go_ret;exact⟨rfl,rfl⟩
theorem aR0 (k x:Int) (d g:Addr) (L:Value) (w:World) (M:w.cell? g=some (.pointer (some d))) (G:w.cell? d=some L) (R:w.frozen? d=false):
  Calls pG 238 #[.iface 354 (.agg #[.int .i64 k,.iface 316 (.int .i64 x)]),.iface 324 (.pointer (some d)),.agg #[.pointer (some ⟨1,324,none⟩),.pointer (some g),.int .u64 150],.iface 279 (.agg #[.pointer (some ⟨1,316,none⟩)])] w
   fun e w'=>e=.returned (.bool true)/\w.grownBy w' (some d.block)/\w'.cell? d=some (.int .i64 x):=by
 have a1:=@rZ pG 151 _ OL func151 (by kernel_rfl) (by kernel_rfl) (by kernel_rfl) (by kernel_rfl);have a2:=@rZ pG 281 _ (OJ "AssignableTo" aLt) func281 (by kernel_rfl) (by kernel_rfl) (by kernel_rfl) (by kernel_rfl);have a3:=@rZ pG 251 _ (OI (IM "reflectlite.Value.Elem" 0) aLv) func251 (by kernel_rfl) (by kernel_rfl) (by kernel_rfl) (by kernel_rfl)
 have a4:=@rZ pG 235 _ (fun args=>WY (args.getD 0 (.tuple #[]))) func235 (by kernel_rfl) (by kernel_rfl) (by kernel_rfl) (by kernel_rfl);have a5:=@rZ pG 252 _ aLw func252 (by kernel_rfl) (by kernel_rfl) (by kernel_rfl) (by kernel_rfl);have tF:=aRk;have tC:=aRl;have mA:=aRg;have mU:=aRh;have aF:=aRm;have aC:=aRn;have uC:=aRo x;have q1:=aRx;have q2:=aRy;go_enter func238,ntmps238;go_wp2;refine wp_loop_rounds 2 ?_;rw[rounds_succ];go_wp2
 have U:=gV w _ M;have I:=gV w _ G;have D:Below w.heap.size w ((w.alloc (.cells #[.pointer (some ⟨1,324,none⟩),.pointer (some g),.int .u64 150] 359)).alloc (.cells #[.int .i64 k,.iface 316 (.int .i64 x)] 354)):=((aH _ _).alloc (aD _) _).alloc (by simp) _;have J:((w.alloc (.cells #[.pointer (some ⟨1,324,none⟩),.pointer (some g),.int .u64 150] 359)).alloc (.cells #[.int .i64 k,.iface 316 (.int .i64 x)] 354)).heap.size=w.heap.size+1+1:=by simp
 have F:∀i,i<3->((w.alloc (.cells #[.pointer (some ⟨1,324,none⟩),.pointer (some g),.int .u64 150] 359)).alloc (.cells #[.int .i64 k,.iface 316 (.int .i64 x)] 354)).cell? ⟨w.heap.size,i,none⟩=#[.pointer (some ⟨1,324,none⟩),.pointer (some g),.int .u64 150][i]? :=fun i V=>by
  rw[OO _ _ ⟨w.heap.size,i,none⟩ (by simp),World.cell?_alloc_at _ _ _ _ rfl]
 have v0:=F 0 (by decide);have v1:=F 1 (by decide);have v2:=F 2 (by decide);clear F;generalize (w.alloc (.cells #[.pointer (some ⟨1,324,none⟩),.pointer (some g),.int .u64 150] 359)).alloc (.cells #[.int .i64 k,.iface 316 (.int .i64 x)] 354)=A at*
 have eV:=aRr g d A (by rw[D.cell U];exact M);have Y:A.heap.size=w.heap.size+1+1:=J;have O:=hid J;have sC:=aRw d ⟨A.heap.size,0,none⟩ x L (A.alloc (.cells #[.int .i64 x] 316)) (bX _ _ _)
  (by rw[OO _ _ d (by omega),D.cell I];exact G)
  (by rw[World.frozen?_alloc_old _ _ d (by omega),D.frozen I];exact R)
 clear J Y;rw[rounds_succ];go_wp2;go_ret;have Z:d.block<A.heap.size:=by have:=O.out;omega
 refine⟨rfl,EJ (b:=A.alloc (.cells #[.int .i64 x] 316)) (vY (D.alloc (by have:=O.out;omega) _) _) ?_,?_⟩
 ·exact⟨rfl,rfl,rfl,by simp,fun i V a0=>heap_setCell_other _ _ _ _ (fun e=>a0 (by rw[e]))⟩
 ·exact World.cell?_setCell_same _ _ _ (by rw[OO _ _ d Z,D.cell I];exact G)
theorem aR1 (k x:Int) (d:Addr) (L:Value) (w:World) (G:dU w) (I:w.cell? d=some L) (M:w.frozen? d=false):
  Calls pG 208 #[.iface 354 (.agg #[.int .i64 k,.iface 316 (.int .i64 x)]),.iface 324 (.pointer (some d))] w
   fun e w'=>e=.returned (.bool true)/\w.grownBy w' (some d.block)/\w'.cell? d=some (.int .i64 x):=by
 have a2:=@rZ pG 235 _ (fun args=>WY (args.getD 0 (.tuple #[]))) func235 (by kernel_rfl) (by kernel_rfl) (by kernel_rfl) (by kernel_rfl);have a3:=@rZ pG 236 _ (bGe (IM "reflectlite.Value.Type" 0) (fun t _ _ _=>bGf t)) func236 (by kernel_rfl) (by kernel_rfl) (by kernel_rfl) (by kernel_rfl)
 have a4:=@rZ pG 237 _ (OI (IM "reflectlite.Value.IsNil" 0) aLs) func237 (by kernel_rfl) (by kernel_rfl) (by kernel_rfl) (by kernel_rfl);have a5:=@rZ pG 272 _ (aLr fun t=>do pure (.int .u8 (<-Rtype.kind t))) func272 (by kernel_rfl) (by kernel_rfl) (by kernel_rfl) (by kernel_rfl);have a6:=@rZ pG 283 _ (WZ ReflectliteType.elem) func283 (by kernel_rfl) (by kernel_rfl) (by kernel_rfl) (by kernel_rfl)
 have a7:=@rZ pG 284 _ (OJ "Implements" bGg) func284 (by kernel_rfl) (by kernel_rfl) (by kernel_rfl) (by kernel_rfl);have uP:=aQ8 d;have tP:=aQ9;have mK:=aRd;have mE:=aRe;have mI:=aRf;have kP:=aRa;have kC:=aRb;have eP:=aRi;have iC:=aRj;have O:=gV w _ I;have Y:=G.lt;have R:w.cell? ⟨0,0,none⟩=some (.iface 279 (.agg #[.pointer (some ⟨1,93,none⟩)])):=G
 obtain⟨A,D⟩:=ex1 ((w.alloc (.cells #[.pointer (some d)] 324)).alloc (.cells #[.pointer (some ⟨1,324,none⟩),.pointer (some ⟨w.heap.size,0,none⟩),.int .u64 150] 359));have F:Below w.heap.size w A:=by rw[D];exact((aH _ _).alloc (aD _) _).alloc (by simp) _
 have J:A.cell? ⟨w.heap.size,0,none⟩=some (.pointer (some d)):=by
  rw[D,OO _ _ ⟨w.heap.size,0,none⟩ (by simp),bX]
 have Z:=aRc ⟨w.heap.size,0,none⟩ d A J;have a0:A.cell? ⟨0,0,none⟩=some (.iface 279 (.agg #[.pointer (some ⟨1,93,none⟩)])):=by rw[F.cell (p:=⟨0,0,none⟩) Y];exact R
 have U:=hid (aR0 k x d ⟨w.heap.size,0,none⟩ L A J (by rw[F.cell O];exact I) (by rw[F.frozen O];exact M));rw[D] at Z a0 U;have HB:=hid F;have HW:=hid D;clear F J D G R I M;go_enter func208,ntmps208;go_wp2_with (go_at_call 238;refine U.out.mono ?_;rintro e w4 ⟨rfl,V,a1⟩);go_ret;rw[<-HW.out] at V;exact⟨rfl,EJ (vY HB.out _) V,a1⟩
end
section
open Go.RowKit Go.Shelf
def stD (a:ByteArray) (o:Int) (l:List Int) (most:Int):Nat->Int
 |0=>if a.data.toList≠[]/\bY a.data.toList=a.data.toList then 0 else 1
 |1=>if jU l ((a.size:Int)+1) then 0 else 3
 |2=>rM (l.take (l.length-1)) most
 |3=>if dD l=[] then 3 else 0
 |_=>rK (unL a.data.toList (dD l)) o
def stE (a:ByteArray) (o:Int) (l:List Int) (most:Int):Nat->Int
 |4=>if stD a o l most 4=0 then 0 else 3
 |k=>stD a o l most k
def stF:Nat->Nat
 |0=>201
 |1=>203
 |2=>204
 |3=>205
 |_=>207
def stY:Nat->Nat
 |0|1|2=>202
 |_=>206
def stS (w0:World) (e:Nat) (a:ByteArray) (o:Int) (v:Value) (l:List Int) (most:Int) (k:Nat) (W:World):Prop:=
 ∃d b,Arr W e 315 [.string a,.int .i64 o,v,.int .i64 most,d,.string b]/\(k=2->RdI w0 d (l.take (l.length-1)))/\(k=3->RdI W d (dD l))/\(k=4->b=mkS (unL a.data.toList (dD l)))/\(k=5->b=mkS (oU (unL a.data.toList (dD l)) o))
theorem st0 {a:ByteArray} {o:Int} {l:List Int} {most:Int} (h:stE a o l most 0=0):a.data.toList≠[]/\bY a.data.toList=a.data.toList:=by
 by_cases q:a.data.toList≠[]/\bY a.data.toList=a.data.toList
 ·exact q
 ·exfalso;have:stE a o l most 0=if a.data.toList≠[]/\bY a.data.toList=a.data.toList then 0 else 1:=rfl
  grind
theorem st1 {a:ByteArray} {o:Int} {l:List Int} {most:Int} (h:stE a o l most 1=0):jU l ((a.size:Int)+1):=by
 by_cases q:jU l ((a.size:Int)+1)
 ·exact q
 ·exfalso;have:stE a o l most 1=if jU l ((a.size:Int)+1) then 0 else 3:=rfl
  grind
theorem st2 {a:ByteArray} {o:Int} {l:List Int} {most:Int} (h:stE a o l most 2=0):((dD l).length:Int)<=most:=by
 by_cases q:((dD l).length:Int)<=most
 ·exact q
 ·exfalso;have:stE a o l most 2=if((dD l).length:Int)<=most then 0 else 4:=rfl;omega
theorem st3 {a:ByteArray} {o:Int} {l:List Int} {most:Int} (h:stE a o l most 3=0):dD l≠[]:=fun q=>by
 have:stE a o l most 3=if dD l=[] then 3 else 0:=rfl
 grind
theorem aBf {L:List UInt8} {o:Int} (d:0<L.length):qD L o=true↔(0<=o/\o<(L.length:Int)):=by grind [qD]
theorem st4 {a:ByteArray} {o:Int} {l:List Int} {most:Int} (d:dD l≠[]):stE a o l most 4=0↔(0<=o/\o<((dD l).length:Int)):=by
 have A:(unL a.data.toList (dD l)).length=(dD l).length:=sL _ _;have D:0<(unL a.data.toList (dD l)).length:=by grind
 have e:stE a o l most 4=if(if qD (unL a.data.toList (dD l)) o then(0:Int) else 1)=0 then 0 else 3:=rfl
 grind [aBf,qD,unL,dD,stE]
theorem aR2 {a:ByteArray} {o:Int} {l:List Int} {most:Int} {k:Nat} (A:k<5) (h:stE a o l most k≠0) (d:∀j,j<k->stE a o l most j=0):rest a o l most=(dN,stE a o l most k):=by
 match k,A with
 |0,_=>
  have e:stE a o l most 0=if a.data.toList≠[]/\bY a.data.toList=a.data.toList then 0 else 1:=rfl
  by_cases q:a.data.toList≠[]/\bY a.data.toList=a.data.toList
  ·grind
  ·rw[e,aA q];exact KB q
 |1,_=>
  have e:stE a o l most 1=if jU l ((a.size:Int)+1) then 0 else 3:=rfl
  by_cases q:jU l ((a.size:Int)+1)
  ·grind
  ·grind [QQ,st0,stE,rest,dN]
 |2,_=>
  have e:stE a o l most 2=if((dD l).length:Int)<=most then 0 else 4:=rfl
  by_cases q:((dD l).length:Int)<=most
  ·grind
  ·rw[e,aA q];exact KC (st0 (d 0 (by omega))) (st1 (d 1 (by omega))) q
 |3,_=>
  have e:stE a o l most 3=if dD l=[] then 3 else 0:=rfl
  by_cases q:dD l=[]
  ·rw[e,aB q];exact KD (st0 (d 0 (by omega))) (st1 (d 1 (by omega))) (st2 (d 2 (by omega))) (by rw[q];simp)
  ·grind
 |4,_=>
  have D:=st3 (d 3 (by omega));have F:=fun q=>h ((st4 (a:=a) (most:=most) D).2 q)
  rw[KD (st0 (d 0 (by omega))) (st1 (d 1 (by omega))) (st2 (d 2 (by omega))) F];have e:stE a o l most 4=if stD a o l most 4=0 then 0 else 3:=rfl
  by_cases q:stD a o l most 4=0
  ·grind
  ·rw[e,aA q]
theorem aR3 {a:ByteArray} {o:Int} {l:List Int} {most:Int} (d:∀j,j<5->stE a o l most j=0):rest a o l most=(mkS (oU (unL a.data.toList (dD l)) o),0):=by
 have e:=st3 (d 3 (by omega));have A:=(st4 (a:=a) (most:=most) e).1 (d 4 (by omega));have D:(unL a.data.toList (dD l)).length=(dD l).length:=sL _ _;rw[KE (st0 (d 0 (by omega))) (st1 (d 1 (by omega))) (st2 (d 2 (by omega))) A]
 grind [oU,aBf,stE,rest,mkS,unL,dD]
theorem aR4 (w0 w:World) (d:Nat) (a:ByteArray) (o:Int) (v:Value) (l:List Int) (most:Int) (ha:a.size<=140737488355328) (hr:RdI w0 v l) (hl:l.length<=1000000) (a1: -9223372036854775808<=o) (a2:o<=9223372036854775807) (a3: -9223372036854775808<=most) (a4:most<=1000000) (V:Below w0.heap.size w0 w) (a8:w0.heap.size<=d):
  ∀k,k<5->∀W,stS w0 d a o v l most k W->w.grownBy W (some d)->(∀j,j<k->stE a o l most j=0)->Calls pG (stF k) #[.pointer (some ⟨d,0,none⟩)] W fun e I=>e=.returned (.int .i64 (stD a o l most k))/\W.grownBy I (some d)/\(stE a o l most k=0->stS w0 d a o v l most (k+1) I):=by
 intro k hk W hS hg G;obtain⟨A,b,D,s2,s3,s4,s5⟩:=hS;have Y:Below w0.heap.size w0 W:=V.grown hg V.size (fun q e=>by grind);have Z:RdI W v l:=hr.below Y
 match k,hk with
 |0,_=>
  refine(aQx d a o most v A b W ha D).mono ?_;rintro e I ⟨rfl,hb⟩;exact⟨rfl,vY hb _,fun _=>⟨A,b,D.below hb D.lt,by omega,by omega,by omega,by omega⟩⟩
 |1,_=>
  have J:=st0 (G 0 (by omega));have M:a.size<=256:=by
   have L:=mV a;rw[<-L,<-J.2];exact vX _
  have e1:stD a o l most 1=if jU l ((a.size:Int)+1) then 0 else 3:=rfl
  by_cases F:jU l ((a.size:Int)+1)
  ·rw[e1,aB F];refine(aQ0 d a o most v A l b W M D Z F).mono ?_
   grind [RdI,stS,stE,stF,stD]
  ·rw[e1,aA F];refine(aQz d a o most v A l b W M D Z F).mono ?_
   grind [vY,st1,RdI,stS,stE,stF,stD]
 |2,_=>
  have O:=st1 (G 1 (by omega));have M:a.size<=256:=by
   have J:=st0 (G 0 (by omega));have L:=mV a;rw[<-L,<-J.2];exact vX _
  refine(aQ1 d a o most v A (l.take (l.length-1)) b W D ((s2 rfl).below Y) (by grind) (fun x hx=>by have:=O.2.2 x hx;omega) a3 a4).mono ?_;rintro e I ⟨rfl,R,a5,U,a0⟩;refine⟨rfl,R,fun h=>⟨a5,b,U,by omega,fun _=>?_,by omega,by omega⟩⟩;rw[(BN (m:=l.take (l.length-1)) (st2 h)).1] at a0;exact a0
 |3,_=>
  have J:=st0 (G 0 (by omega));have O:=st1 (G 1 (by omega));have h2:=st2 (G 2 (by omega));have L:=mV a;have M:a.size<=256:=by rw[<-L,<-J.2];exact vX _
  have a6:0<a.size:=by grind
  have e3:stD a o l most 3=if dD l=[] then 3 else 0:=rfl
  by_cases F:dD l=[]
  ·rw[e3,aB F];refine(aQ2 d a o most v A b W D (by grind)).mono ?_;rintro e I ⟨rfl,rfl⟩;exact⟨rfl,vY (aH _ _) _,fun h=>absurd F (st3 h)⟩
  ·rw[e3,aA F];refine(aQ3 d a o most v A (dD l) b W D (s3 rfl) (List.length_pos_iff.2 F) (by omega) (by omega) (by rw[<-J.2];exact JE _) (QS O a6)).mono ?_
   grind [RdI,stS,stE,stF,stD]
 |4,_=>
  have h2:=st2 (G 2 (by omega));obtain rfl:=s4 rfl;have a7:(mkS (unL a.data.toList (dD l))).size<=1000000000:=by rw[cS,sL];omega
  refine(aQ4 d a o most v A _ W D a7 a1 a2).mono ?_;rintro e I ⟨rfl,R,U⟩;exact⟨rfl,R,fun _=>⟨A,_,U,by omega,by omega,by omega,fun _=>rfl⟩⟩
theorem aR5 (a:ByteArray) (o:Int) (l:List Int) (most:Int):∀k,k<5->∀W,Calls pG (stY k) #[.int .i64 (stD a o l most k)] W fun e d=>e=.returned (.int .i64 (stE a o l most k))/\d=W:=by
 intro k A W
 match k,A with
 |0,_=>exact QT _ W
 |1,_=>exact QT _ W
 |2,_=>exact QT _ W
 |3,_=>
  refine(aBc (stD a o l most 3) W).mono ?_;rintro e d ⟨rfl,rfl⟩;refine⟨eI ?_,rfl⟩;have D:stD a o l most 3=if dD l=[] then 3 else 0:=rfl;have F:stE a o l most 3=if dD l=[] then 3 else 0:=rfl;rw[D,F]
  by_cases G:dD l=[]
  ·simp
  ·simp
 |4,_=>exact aBc (stD a o l most 4) W
theorem aR6 (w0:World) (d:Nat) (a:ByteArray) (o:Int) (v:Value) (l:List Int) (most:Int) (k:Nat) (W A:World) (h:stS w0 d a o v l most k W) (D:Below W.heap.size W A):stS w0 d a o v l most k A:=by
 obtain⟨G,b,F,I,J,L,M⟩:=h;exact⟨G,b,F.below D F.lt,I,fun e=>(J e).below D,L,M⟩
theorem aR7:∀k,k<5->Enters pG (stF k):=by
 intro k d
 match k,d with
 |0,_=>exact gQ func201 rfl rfl
 |1,_=>exact gQ func203 rfl rfl
 |2,_=>exact gQ func204 rfl rfl
 |3,_=>exact gQ func205 rfl rfl
 |4,_=>exact gQ func207 rfl rfl
theorem aR8:∀k,k<5->Enters pG (stY k):=by
 intro k d
 match k,d with
 |0,_=>exact gQ func202 rfl rfl
 |1,_=>exact gQ func202 rfl rfl
 |2,_=>exact gQ func202 rfl rfl
 |3,_=>exact gQ func206 rfl rfl
 |4,_=>exact gQ func206 rfl rfl
theorem aR9 (a:ByteArray) (o:Int) (v:Value) (l:List Int) (most:Int) (w:World) (hE:dU w) (ha:a.size<=140737488355328) (U:RdI w v l) (hl:l.length<=1000000) (a4: -9223372036854775808<=o) (a5:o<=9223372036854775807) (a6: -9223372036854775808<=most) (a7:most<=1000000):
  Calls pG 178 #[.agg #[.string a,.int .i64 o,v],.int .i64 most] w fun e w'=>e=.returned (.tuple #[.string (rest a o l most).1,.int .i64 (rest a o l most).2])/\Below w.heap.size w w':=by
 have a8:=hid (fun D wb a9 b0=>aR4 w D wb a o v l most ha U hl a4 a5 a6 a7 a9 b0);obtain⟨d,A,rfl,b6,b7,_⟩:=U.open;go_enter func178,ntmps178;go_wp2_with fail;have V:(w.alloc (.cells #[.string a,.int .i64 o,.slice d l.length A] 140)).heap.size=w.heap.size+1:=by simp
 have G:Below w.heap.size w ((((w.alloc (.cells #[.string a,.int .i64 o,.slice d l.length A] 140)).alloc (.cells #[.string a,.int .i64 o,.slice d l.length A,.int .i64 most,.slice none 0 0,.string {data:=#[]}] 315)).alloc (.cells #[.int .i64 0] 316)).alloc (.cells #[.func (.func 201) #[] #[],.func (.func 202) #[] #[],.func (.func 203) #[] #[],.func (.func 202) #[] #[],.func (.func 204) #[] #[],.func (.func 202) #[] #[],.func (.func 205) #[] #[],.func (.func 206) #[] #[],.func (.func 207) #[] #[],.func (.func 206) #[] #[]] 322)):=((((aH _ _).alloc (aD _) _).alloc (by simp) _).alloc (by simp;omega) _).alloc (by simp;omega) _
 have O:Arr ((((w.alloc (.cells #[.string a,.int .i64 o,.slice d l.length A] 140)).alloc (.cells #[.string a,.int .i64 o,.slice d l.length A,.int .i64 most,.slice none 0 0,.string {data:=#[]}] 315)).alloc (.cells #[.int .i64 0] 316)).alloc (.cells #[.func (.func 201) #[] #[],.func (.func 202) #[] #[],.func (.func 203) #[] #[],.func (.func 202) #[] #[],.func (.func 204) #[] #[],.func (.func 202) #[] #[],.func (.func 205) #[] #[],.func (.func 206) #[] #[],.func (.func 207) #[] #[],.func (.func 206) #[] #[]] 322)) (w.heap.size+1) 315 [.string a,.int .i64 o,.slice d l.length A,.int .i64 most,.slice none 0 0,.string {data:=#[]}]:=by
  have:=((Arr.new (w.alloc (.cells #[.string a,.int .i64 o,.slice d l.length A] 140)) 315 [.string a,.int .i64 o,.slice d l.length A,.int .i64 most,.slice none 0 0,.string {data:=#[]}]).alloc (.cells #[.int .i64 0] 316)).alloc (.cells #[.func (.func 201) #[] #[],.func (.func 202) #[] #[],.func (.func 203) #[] #[],.func (.func 202) #[] #[],.func (.func 204) #[] #[],.func (.func 202) #[] #[],.func (.func 205) #[] #[],.func (.func 206) #[] #[],.func (.func 207) #[] #[],.func (.func 206) #[] #[]] 322);rwa[V] at this
 have I:Arr ((((w.alloc (.cells #[.string a,.int .i64 o,.slice d l.length A] 140)).alloc (.cells #[.string a,.int .i64 o,.slice d l.length A,.int .i64 most,.slice none 0 0,.string {data:=#[]}] 315)).alloc (.cells #[.int .i64 0] 316)).alloc (.cells #[.func (.func 201) #[] #[],.func (.func 202) #[] #[],.func (.func 203) #[] #[],.func (.func 202) #[] #[],.func (.func 204) #[] #[],.func (.func 202) #[] #[],.func (.func 205) #[] #[],.func (.func 206) #[] #[],.func (.func 207) #[] #[],.func (.func 206) #[] #[]] 322)) (w.heap.size+1+1) 316 [.int .i64 0]:=by
  have:=(Arr.new ((w.alloc (.cells #[.string a,.int .i64 o,.slice d l.length A] 140)).alloc (.cells #[.string a,.int .i64 o,.slice d l.length A,.int .i64 most,.slice none 0 0,.string {data:=#[]}] 315)) 316 [.int .i64 0]).alloc (.cells #[.func (.func 201) #[] #[],.func (.func 202) #[] #[],.func (.func 203) #[] #[],.func (.func 202) #[] #[],.func (.func 204) #[] #[],.func (.func 202) #[] #[],.func (.func 205) #[] #[],.func (.func 206) #[] #[],.func (.func 207) #[] #[],.func (.func 206) #[] #[]] 322)
  rwa[show((w.alloc (.cells #[.string a,.int .i64 o,.slice d l.length A] 140)).alloc (.cells #[.string a,.int .i64 o,.slice d l.length A,.int .i64 most,.slice none 0 0,.string {data:=#[]}] 315)).heap.size=w.heap.size+1+1 by simp] at this
 have hF:Arr ((((w.alloc (.cells #[.string a,.int .i64 o,.slice d l.length A] 140)).alloc (.cells #[.string a,.int .i64 o,.slice d l.length A,.int .i64 most,.slice none 0 0,.string {data:=#[]}] 315)).alloc (.cells #[.int .i64 0] 316)).alloc (.cells #[.func (.func 201) #[] #[],.func (.func 202) #[] #[],.func (.func 203) #[] #[],.func (.func 202) #[] #[],.func (.func 204) #[] #[],.func (.func 202) #[] #[],.func (.func 205) #[] #[],.func (.func 206) #[] #[],.func (.func 207) #[] #[],.func (.func 206) #[] #[]] 322)) (w.heap.size+1+1+1) 322 [.func (.func 201) #[] #[],.func (.func 202) #[] #[],.func (.func 203) #[] #[],.func (.func 202) #[] #[],.func (.func 204) #[] #[],.func (.func 202) #[] #[],.func (.func 205) #[] #[],.func (.func 206) #[] #[],.func (.func 207) #[] #[],.func (.func 206) #[] #[]]:=by
  have:=Arr.new (((w.alloc (.cells #[.string a,.int .i64 o,.slice d l.length A] 140)).alloc (.cells #[.string a,.int .i64 o,.slice d l.length A,.int .i64 most,.slice none 0 0,.string {data:=#[]}] 315)).alloc (.cells #[.int .i64 0] 316)) 322 [.func (.func 201) #[] #[],.func (.func 202) #[] #[],.func (.func 203) #[] #[],.func (.func 202) #[] #[],.func (.func 204) #[] #[],.func (.func 202) #[] #[],.func (.func 205) #[] #[],.func (.func 206) #[] #[],.func (.func 207) #[] #[],.func (.func 206) #[] #[]]
  rwa[show(((w.alloc (.cells #[.string a,.int .i64 o,.slice d l.length A] 140)).alloc (.cells #[.string a,.int .i64 o,.slice d l.length A,.int .i64 most,.slice none 0 0,.string {data:=#[]}] 315)).alloc (.cells #[.int .i64 0] 316)).heap.size=w.heap.size+1+1+1 by simp] at this
 generalize ((((w.alloc (.cells #[.string a,.int .i64 o,.slice d l.length A] 140)).alloc (.cells #[.string a,.int .i64 o,.slice d l.length A,.int .i64 most,.slice none 0 0,.string {data:=#[]}] 315)).alloc (.cells #[.int .i64 0] 316)).alloc (.cells #[.func (.func 201) #[] #[],.func (.func 202) #[] #[],.func (.func 203) #[] #[],.func (.func 202) #[] #[],.func (.func 204) #[] #[],.func (.func 202) #[] #[],.func (.func 205) #[] #[],.func (.func 206) #[] #[],.func (.func 207) #[] #[],.func (.func 206) #[] #[]] 322))=wc at*
 have Y:∀k,k<5->wc.cell? ⟨w.heap.size+1+1+1,k*2,none⟩=some (lK (.func (stF k)) #[] #[])/\wc.cell? ⟨w.heap.size+1+1+1,k*2+1,none⟩=some (lK (.func (stY k)) #[] #[]):=fun k R=>by
  match k,R with
  |0,_=>exact⟨hF.cell (i:=0) rfl,hF.cell (i:=1) rfl⟩
  |1,_=>exact⟨hF.cell (i:=2) rfl,hF.cell (i:=3) rfl⟩
  |2,_=>exact⟨hF.cell (i:=4) rfl,hF.cell (i:=5) rfl⟩
  |3,_=>exact⟨hF.cell (i:=6) rfl,hF.cell (i:=7) rfl⟩
  |4,_=>exact⟨hF.cell (i:=8) rfl,hF.cell (i:=9) rfl⟩
 have Z:=O.lt;refine(aQ7 (w.heap.size+1) (w.heap.size+1+1+1) wc stF stY (stD a o l most) (stE a o l most) (stS w (w.heap.size+1) a o (.slice d l.length A) l most) Y (by omega) Z aR7 aR8 (a8.out wc (w.heap.size+1) G (by omega)) (aR5 a o l most) (fun k W W' h hb=>aR6 w _ a o _ l most k W W' h hb) ⟨_,_,O,by omega,by omega,by omega,by omega⟩).mono ?_;rintro e D ⟨J,b1⟩;have L:Below w.heap.size w D:=G.grown J G.size (fun q e=>by injection e with e;omega);have a0:D.cell? ⟨w.heap.size+1+1,0,none⟩=some (.int .i64 0):=J.cell (I.cell (i:=0) rfl) (by simp)
 have a1:D.frozen? ⟨w.heap.size+1+1,0,none⟩=false:=by rw[World.frozen?_of_block (J.block _ I.lt (by simp))];exact I.free 0
 have b2:dU D:=hE.below L;clear V G O I hF Y Z J;rcases b1 with⟨k,R,a2,F,rfl⟩|⟨F,hS,rfl⟩
 ·have M:=hid (aR2 R a2 F);obtain⟨x,hx⟩:=ex1 (stE a o l most k);rw[<-hx] at M ⊢;clear a2 F hx;have HA:=hid (aR1 k x ⟨w.heap.size+1+1,0,none⟩ (.int .i64 0) D b2 a0 a1);clear a0 a1;go_wp2_with fail;refine HA.out.mono ?_;rintro e w2 ⟨rfl,b3,b8⟩;have b4:Below w.heap.size w w2:=L.grown b3 L.size (fun q e=>by injection e with e;omega);go_wp2_with fail
  go_quiet (fail)
  go_wp2_with fail
  go_ret2
  rw[M.out];exact⟨rfl,kY b4 _⟩
 ·have M:=hid (aR3 F);obtain⟨lv,b,b5,_,_,_,a3⟩:=hS;obtain rfl:=a3 rfl;have d5:=b5.cell (i:=5) rfl;clear F a3;go_wp2_with (go_at_call 208;refine(aRz _ _).mono ?_;rintro e w2 ⟨rfl,rfl⟩)
  go_ret2
  rw[M.out];exact⟨rfl,L⟩
noncomputable def oOf (s:ByteArray):Nat->Int:=Classical.epsilon (fun o=>Ord (cQ s) s.size s.size o)
def iZ (s:ByteArray):Prop:=Ord (cQ s) s.size s.size (oOf s)
theorem QX {s:ByteArray} {o:Nat->Int} (h:Ord (cQ s) s.size s.size o):iZ s:=Classical.epsilon_spec (p:=fun o=>Ord (cQ s) s.size s.size o) ⟨o,h⟩
noncomputable def sR (s:ByteArray):List UInt8:=eM s (oOf s) s.size
noncomputable def sqA (s:ByteArray):ByteArray:=if s.size=0 then dN else mkS (bY s.data.toList)
noncomputable def sqO (s:ByteArray):Int:=if s.size=0 then 0 else((gX (oOf s) s.size:Nat):Int)
noncomputable def sqS (s:ByteArray):List Int:=if s.size=0 then[] else rN s (oOf s)
def sqE (s:ByteArray):Int:=if s.size=0 then 1 else 0
theorem aBi {s:ByteArray} {o:Nat->Int} (h:Ord (cQ s) s.size s.size o):rN s o=rN s (oOf s)/\gX o s.size=gX (oOf s) s.size:=by
 have d:=h.uniq (QX h)
 grind [rN,aQe,aQf,cQ,oOf,gX]
theorem aBj {s:ByteArray} (h:s.size=0):s=dN:=by
 rw[<-qB s,List.length_eq_zero_iff.1 (show s.data.toList.length=0 by simpa using h)];rfl
theorem aSf (s:ByteArray) (w:World) (M:s.size<=65536):
  Calls pG 67 #[.string s] w fun e w'=>∃v,e=.returned (.tuple #[.agg #[.string (sqA s),.int .i64 (sqO s),v],.int .i64 (sqE s)])/\RdI w' v (sqS s)/\Below w.heap.size w w'/\(0<s.size->iZ s):=by
 rcases Nat.eq_zero_or_pos s.size with d|d
 ·have D:sqA s=dN:=aB d;have F:sqO s=0:=aB d;have G:sqS s=[]:=aB d;have I:sqE s=1:=aB d;rw[D,F,G,I];have:=aBj d;subst this;refine(aQl w).mono ?_;rintro e w' ⟨rfl,J⟩;exact⟨_,rfl,⟨none,0,rfl,aD _,by simp[maxLen],.inl rfl⟩,J,fun h=>absurd h (by omega)⟩
 ·have A:¬s.size=0:=by omega
  refine(aQm s w d M).mono ?_;rintro e w' ⟨o,v,L,rfl,O,J⟩;obtain⟨R,U⟩:=aBi L;have D:sqA s=mkS (bY s.data.toList):=aA A;have F:sqO s=((gX (oOf s) s.size:Nat):Int):=aA A;have G:sqS s=rN s (oOf s):=aA A;have I:sqE s=0:=aA A;rw[D,F,G,I,<-R,<-U];exact⟨v,rfl,O.rd,J,fun _=>QX L⟩
theorem aBk (s:ByteArray):(sR s).length=s.size:=by unfold sR eM;simp
theorem aSg {s:ByteArray} (h:iZ s):(sR s).Perm s.data.toList:=QK s h
theorem aSh (s:ByteArray):rN s (oOf s)=dM 0 (dL (bY s.data.toList) (sR s))++[((bY s.data.toList).length:Int)+1]:=rfl
theorem aBl {s:ByteArray} (h:iZ s):∀b∈sR s,b∈bY s.data.toList:=by grind [DS,aSg,iZ,sR,bY]
theorem aBm {s:ByteArray} (h:iZ s):∀x∈dL (bY s.data.toList) (sR s),0<=x/\x<((bY s.data.toList).length:Int):=BH _ _ (aBl h)
theorem QY (s:ByteArray):(sqS s).length<=s.size+1/\(0<s.size->2<=(sqS s).length):=by grind [sqS,aSh,PM,dL,bY,sR,vQ,aBk]
theorem KH (c n:Int) (w:World) (D: -9223372036854775808<=c) (F:c<=9223372036854775807) (G:1<=n) (I:n<=1000000000):
  Calls pG 116 #[.int .i64 c,.int .i64 n] w fun e w'=>e=.returned (.int .i64 (cK c n))/\w=w':=by
 by_cases A:c<0
 ·have d:=hid (show cK c n=(-(c+1))%n from by simp[cK,A]);go_enter func116,ntmps116;go_wp2;go_ret;exact⟨eI (by rw[d.out];rw[<-Int.neg_tmod,Int.tmod_eq_emod_of_nonneg (by omega)]),rfl⟩
 ·have d:=hid (show cK c n=c%n from by simp[cK,A]);have J:0<=c:=by omega
  go_enter func116,ntmps116;go_wp2;go_ret;exact⟨eI (by rw[d.out]),rfl⟩
def RdP (w:World) (v:Value) (l:List (Int×Int)):Prop:=
 ∃a cap,v=.slice a l.length cap/\l.length<=cap/\cap<=maxLen/\
  (0<l.length->∃b off,a=some ⟨b,off,none⟩/\b<w.heap.size/\∀j p,l[j]? =some p->w.cell? ⟨b,off+j*2,none⟩=some (.int .i64 p.1)/\w.cell? ⟨b,off+j*2+1,none⟩=some (.int .i64 p.2))
def WfP (l:List (Int×Int)):Prop:=∀p∈l,(-9223372036854775808<=p.1/\p.1<=9223372036854775807)/\(-9223372036854775808<=p.2/\p.2<=9223372036854775807)
theorem RdP.below {w w':World} {v:Value} {l:List (Int×Int)} (h:RdP w v l) (d:Below w.heap.size w w'):RdP w' v l:=by
 obtain⟨a,cap,rfl,e,A,D⟩:=h;refine⟨a,cap,rfl,e,A,fun h=>?_⟩;obtain⟨b,off,rfl,F,G⟩:=D h;exact⟨b,off,rfl,Nat.lt_of_lt_of_le F d.size,fun j p I=>by grind [pJ,RdP]⟩
theorem aBn (b:UInt8) (W:World):(convert 84 9 (.slice (some ⟨W.heap.size,0,none⟩) 1 1)).run pG (W.alloc (.cells #[.int .u8 (b.toNat:Int)] 5))=.ok (.string (mkS [b])) (W.alloc (.cells #[.int .u8 (b.toNat:Int)] 5)):=
 mP (l:=[b]) ((Arr.new W 5 [.int .u8 (b.toNat:Int)]).rdB (l:=[b]) rfl (by decide))
theorem aBo (v:Value) (A:List (Int×Int)) (most:Int) (w:World) (hr:RdP w v A) (a7:WfP A) (a8:0<=most) (b9:most<=1000):
  Calls pG 76 #[v,.int .i64 most] w fun e w'=>∃s:ByteArray,e=.returned (.string s)/\(s.size:Int)<=most/\Below w.heap.size w w':=by
 obtain⟨a,ca,rfl,c0,a9,V⟩:=hr;unfold maxLen at a9;go_enter func76,ntmps76;go_wp2
 go_loopg [5,6,7,8] A.length (fun g out i _c _k wr=>∃(k:Nat) (s:ByteArray),k<=A.length/\g=A.length-k/\i=.int .i64 k/\out=.string s/\(s.size:Int)<=most/\Below w.heap.size w wr)
 case atStart=>exact⟨0,_,aO _,rfl,rfl,rfl,a8,aH _ _⟩
 case round=>
  obtain⟨k,s,hk,F,rfl,rfl,J,d⟩:=hrel;have Y:=hid F;clear F;have b0:s.size<=1000:=by omega
  by_cases L:k<A.length
  ·by_cases M:(s.size:Int)<most
   ·obtain⟨G,O,rfl,Z,a0⟩:=V (by omega);obtain⟨p,I⟩:∃p,A[k]? =some p:=⟨_,aN L⟩;obtain⟨⟨c2,c3⟩,c4,c5⟩:=a7 p (cN I);obtain⟨a1,a2⟩:=a0 k p I;obtain⟨x,y⟩:=p;have hn:=d.size;have c1:∀o,(wr.alloc o).cell? ⟨G,O+k*2,none⟩=some (.int .i64 x):=fun o=>by
     rw[World.cell?_alloc_past _ _ _ (by show G<wr.heap.size;omega),d.cell (p:=⟨G,O+k*2,none⟩) Z];exact a1
    have hd:decide ((s.size:Int)<most)=true:=by simpa using M
    obtain⟨R,a3⟩:=lN x 6 (by decide);obtain⟨q,hq⟩:=Int.eq_ofNat_of_zero_le R;have b2:q<6:=by omega
    have HQ:=hid hq;have HP:=hid I;have b3:=hid a2;clear V a0 I a1 a2 hq R a3;have a4:q=0\/q=1\/q=2\/q=3\/q=4\/q=5:=by omega
    go_upto_region 5 with fail
    go_cut [7] (fun c7 wx=>(∃b:UInt8,c7=.int .u8 (b.toNat:Int))/\Below w.heap.size w wx)
    case first=>
     rcases a4 with rfl|rfl|rfl|rfl|rfl|rfl
     all_goals
      go_wp2_with (go_at_call 116;refine(KH _ _ _ ?_ ?_ ?_ ?_).mono ?_;omega;omega;decide;decide;rintro e w' ⟨rfl,rfl⟩;rw[HQ.out]);go_meet
     ·exact⟨⟨0,rfl⟩,d.alloc (by omega) _⟩
     ·exact⟨⟨1,rfl⟩,d.alloc (by omega) _⟩
     ·exact⟨⟨4,rfl⟩,d.alloc (by omega) _⟩
     ·exact⟨⟨97,rfl⟩,d.alloc (by omega) _⟩
     ·exact⟨⟨98,rfl⟩,d.alloc (by omega) _⟩
     ·exact⟨⟨255,rfl⟩,d.alloc (by omega) _⟩
    case rest=>
     obtain⟨⟨b,rfl⟩,b4⟩:=hcut;clear c1 a4 b2 HQ hd M b0 d hn;have b5:=hid L;go_wp2;obtain⟨R,a3⟩:=lN y 300 (by decide)
     go_loopg [8,5] 300 (fun g s8 s5 wr=>∃(j:Nat) (t:ByteArray),j<=300/\g=300-j/\s8=.int .i64 j/\s5=.string t/\(t.size:Int)<=most/\Below w.heap.size w wr)
     case atStart=>exact⟨0,s,by omega,rfl,rfl,rfl,J,b4⟩
     case round=>
      obtain⟨j,t,hj,U,rfl,rfl,ht,D⟩:=hrel;have b6:=hid U;clear U;have L:=b5.out;have c6:t.size<=1000:=by omega
      have cy:=(D.cell (p:=⟨G,O+k*2+1,none⟩) Z).trans b3.out
      by_cases a5:(j:Int)<1+cK y 300
      ·have b7:decide ((j:Int)<1+cK y 300)=true:=by simpa using a5
       by_cases a6:(t.size:Int)<most
       ·have b8:decide ((t.size:Int)<most)=true:=by simpa using a6
        have c8:=aBn b;go_wp2_with (go_at_call 116;refine(KH _ _ _ ?_ ?_ ?_ ?_).mono ?_;omega;omega;decide;decide;rintro e w' ⟨rfl,rfl⟩);have U:=b6.out
        go_roundg (300-(j+1))
        ·exact⟨j+1,_,by omega,rfl,by go_num,rfl,by rw[rG,cS];simp;omega,D.alloc (by have:=D.size;omega) _⟩
        ·omega
       ·have b8:decide ((t.size:Int)<most)=false:=by simpa using a6
        go_wp2_with (go_at_call 116;refine(KH _ _ _ ?_ ?_ ?_ ?_).mono ?_;omega;omega;decide;decide;rintro e w' ⟨rfl,rfl⟩);have F:=Y.out
        go_roundg (A.length-(k+1))
        ·exact⟨k+1,_,by omega,rfl,by go_num,rfl,ht,D⟩
        ·omega
      ·have b7:decide ((j:Int)<1+cK y 300)=false:=by simpa using a5
       go_wp2_with (go_at_call 116;refine(KH _ _ _ ?_ ?_ ?_ ?_).mono ?_;omega;omega;decide;decide;rintro e w' ⟨rfl,rfl⟩);have F:=Y.out
       go_roundg (A.length-(k+1))
       ·exact⟨k+1,_,by omega,rfl,by go_num,rfl,ht,D⟩
       ·omega
   ·have hd:decide ((s.size:Int)<most)=false:=by simpa using M
    go_wp2;go_ret;exact⟨s,rfl,J,d⟩
  ·go_wp2;go_ret;exact⟨s,rfl,J,d⟩
end
section
open Go.RowKit Go Go.Shelf
theorem aFy (v:Value) (l:List Int) (n:Nat) (w:World) (F:RdI w v l) (d:∀x∈l,0<=x/\x<(n:Int)):
  Calls pG 109 #[v,.int .i64 (n:Int)] w fun e w'=>e=.returned (.bool false)/\w'=w:=by
 obtain⟨a,U,rfl,V,J,G⟩:=F.open;unfold maxLen at J;have L:=hid d;clear d F;go_enter func109,ntmps109;go_wp2_with fail
 go_loopg [5] l.length (fun g M wr=>∃k:Nat,k<=l.length/\g=l.length-k/\M=.int .i64 (k:Int)/\wr=w)
 case atStart=>exact⟨0,aO _,rfl,rfl,rfl⟩
 case round=>
  obtain⟨k,Y,A,rfl,rfl⟩:=hrel;have O:=hid A;clear A
  by_cases R:k<l.length
  ·have u1:decide ((k:Int)<(l.length:Int))=true:=aG (by omega);obtain⟨b,off,rfl,d,I⟩:=G (by omega);obtain⟨x,D⟩:=eG R;have Z:=I k x D;have a0:=L.out x (cN D);have v1:decide (x<0)=false:=aE (by omega);have v2:decide (x>=(n:Int))=false:=aE (by omega);have v3:decide ((n:Int)<=x)=false:=aE (by omega);clear I G D;go_wp2_with fail;have A:=O.out
   go_roundg (l.length-(k+1))
   ·exact⟨k+1,by omega,rfl,by go_num,rfl⟩
   ·omega
  ·have u1:decide ((k:Int)<(l.length:Int))=false:=aE (by omega);go_wp2_with fail;go_ret;exact⟨rfl,rfl⟩
theorem aFz {l g:List Int} (h:bM l=0) (d:∀x∈g,0<=x/\x<(l.length:Int)):qW l g=oV l g:=by grind [qW,aB8,aTd,bM,oV]
theorem aF0 {l g:List Int} {k:Nat} {x:Int} (h:g[k]? =some x):oV l (g.take (k+1))=oV l (g.take k)+l.getD x.toNat 0:=by grind [List.take_add_one,aB9,oV]
theorem aF1 (v u:Value) (l g:List Int) (w:World) (R:RdI w v l) (U:RdI w u g) (I:bM l=0) (d:∀x∈g,0<=x/\x<(l.length:Int)) (b5:g.length<=1000):
  Calls pG 112 #[v,u] w fun e w'=>e=.returned (.tuple #[.int .i64 (qW l g),.int .i64 0])/\Below w.heap.size w w':=by
 rw[aFz I d];have J:=(gE I).1;have F:=LV v l w R;rw[I] at F;have F:=F.mono (fun e w' (h:e=.returned (.int .i64 0)/\w'=w)=>(⟨h.1,by rw[h.2];exact aH _ _⟩:e=.returned (.int .i64 0)/\Below w.heap.size w w'));have a7:=hid (fun k=>aCa J.2.2 (g.take k));have HX:=hid d;have HL:=hid (fun(x:Int) (h:0<=x/\x<(l.length:Int))=>show l[x.toNat]? =some (l.getD x.toNat 0) by
  rw[bV,aN (show x.toNat<l.length by omega)];rfl)
 have a0:=fun W (h:RdI W u g)=>aFy u g l.length W h d
 have b6:=J.1;have a8:=hid (fun(x:Int) (h:0<=x/\x<(l.length:Int))=>J.2.2 (l.getD x.toNat 0) (cN (HL.out x h)));obtain⟨a,ca,rfl,b7,a9,hA⟩:=R.open;unfold maxLen at a9;obtain⟨b,off,rfl,hb,hc⟩:=hA (by omega);obtain⟨a2,c2,rfl,b8,b0,a1⟩:=U.open;unfold maxLen at b0;clear R hA J d I;go_enter func112,ntmps112;go_wp2_with fail;refine F.mono ?_;rintro e w1 ⟨rfl,L⟩;have a3:=U.below L;have HC:=hid (fun j x (A:l[j]? =some x)=>((pJ L).1 b (off+j) hb).trans (hc j x A))
 have b1:=hid (fun G M (h:G<w.heap.size) (h2:∀j x,g[j]? =some x->w.cell? ⟨G,M+j,none⟩=some (.int .i64 x)) j x (A:g[j]? =some x)=>((pJ L).1 G (M+j) h).trans (h2 j x A));clear F hc;go_wp2_with fail;refine(a0 _ a3).mono ?_;rintro e w2 ⟨rfl,rfl⟩;clear a0 U a3;go_wp2_with fail
 go_loopg [7,8] g.length (fun gg s7 s8 wr=>∃k:Nat,k<=g.length/\gg=g.length-k/\s8=.int .i64 (k:Int)/\s7=.int .i64 (oV l (g.take k))/\wr=w2)
 case atStart=>exact⟨0,aO _,rfl,rfl,rfl,rfl⟩
 case round=>
  obtain⟨k,hk,d,rfl,rfl,rfl⟩:=hrel;have HG:=hid d;clear d;have a4:=a7.out k;rw[List.length_take,Nat.min_eq_left hk] at a4
  by_cases b3:k<g.length
  ·have u1:decide ((k:Int)<(g.length:Int))=true:=aG (by omega);obtain⟨G,M,rfl,b4,a5⟩:=a1 (by omega);obtain⟨x,A⟩:=eG b3;have c1:=b1.out G M b4 a5 k x A;have O:=HX.out x (cN A);have V:=HL.out x O;have a6:=a8.out x O;have HT:=hid (aF0 (l:=l) A);obtain⟨X,rfl⟩:∃X:Nat,x=(X:Int):=⟨x.toNat,by omega⟩;rw[fL] at V a6 HT;have c2:=HC.out X _ V;obtain⟨S,Y⟩:=ex1 (oV l (g.take k));obtain⟨D,Z⟩:=ex1 (l.getD X 0);rw[<-Y,<-Z] at HT;rw[<-Y] at a4 ⊢;rw[<-Z] at a6 c2;have m1:aJ.wrap (S+D)=S+D:=by rw[aM];omega
   have v1:(X:Int)<(l.length:Int):=O.2;have v2:X<l.length:=by omega
   clear A V a5 a1 Y Z O;go_wp2_with fail;have d:=HG.out
   go_roundg (g.length-(k+1))
   ·exact⟨k+1,by omega,rfl,by go_num,by rw[HT.out],rfl⟩
   ·omega
  ·have u1:decide ((k:Int)<(g.length:Int))=false:=aE (by omega);rw[List.take_of_length_le (by omega)];go_wp2_with fail
   go_ret2
   exact⟨rfl,L⟩
theorem aF2 {m:List Int} {n wh k:Nat} {x:Int} (h:m[k]? =some x):eH m n wh (k+1)=if k/10%2=wh then(eH m n wh k).set x.toNat ((eH m n wh k).getD x.toNat 0+1) else eH m n wh k:=by grind [eH]
theorem aYg (v:Value) (m:List Int) (n wh:Nat) (w:World) (hr:RdI w v m) (hm:m.length<=1000000) (hn:n<=1000) (hw:wh<=1) (G:∀x∈m,0<=x/\x<(n:Int)):
  Calls pG 111 #[v,.int .i64 (n:Int),.int .i64 (wh:Int)] w fun e w'=>∃v',e=.returned v'/\OwI w' w.heap.size v' (mW m n wh)/\Below w.heap.size w w':=by
 have HX:=hid G;have a4:=hid (fun k hk=>(BZ m n wh G k hk).2.2);have a0:=hid (xO m n wh);obtain⟨a,ca,rfl,b0,a5,V⟩:=hr.open;unfold maxLen at a5;have a1:aX n (bQ .i64 0)=(eH m n wh 0).map (bQ .i64):=by show _=(aX n (0:Int)).map _;rw[List.map_replicate]
 clear hr G;go_enter func111,ntmps111;go_wp2_with (at_make;refine mkA jL rfl _ _ rfl n rfl rfl ?_ ?_;omega);have A:=Arr.made w 3 (.int .i64 0) n;rw[a1] at A;have hB:=bD (aH w.heap.size w) (.cells (gW (.int .i64 0) n) 3);change Arr (w.alloc (.cells (gW (.int .i64 0) n) 3)) _ _ _ at A;generalize w.alloc (.cells (gW (.int .i64 0) n) 3)=w1 at*
 clear a1
 go_loopg [8] m.length (fun g s8 wr=>∃k:Nat,k<=m.length/\g=m.length-k/\s8=.int .i64 (k:Int)/\Arr wr w.heap.size 3 ((eH m n wh k).map (bQ .i64))/\Below w.heap.size w wr)
 case atStart=>exact⟨0,aO _,rfl,rfl,A,hB⟩
 case round=>
  clear A hB;obtain⟨k,hk,J,rfl,A,L⟩:=hrel;have HG:=hid J;clear J
  by_cases a6:k<m.length
  ·have u1:decide ((k:Int)<(m.length:Int))=true:=aG (by omega);obtain⟨b,off,rfl,hb,Y⟩:=V (by omega);obtain⟨x,G⟩:=eG a6;have c1:=(L.cell (p:=⟨b,off+k,none⟩) hb).trans (Y k x G);have Z:=HX.out x (cN G);have F:=aF2 (n:=n) (wh:=wh) G;obtain⟨X,rfl⟩:∃X:Nat,x=(X:Int):=⟨x.toNat,by omega⟩;rw[fL] at F;obtain⟨q,M⟩:=ex1 (k/10);obtain⟨p,O⟩:=ex1 (q%2);have m1:(k:Int).tdiv 10=(q:Int):=by rw[M];exact Int.ofNat_tdiv k 10
   have m2:(q:Int).tmod 2=(p:Int):=by rw[O];exact Int.ofNat_tmod q 2
   have m3:aJ.wrap (q:Int)=(q:Int):=by rw[aM];omega
   have m4:(k:Int)/10=(q:Int):=by omega
   have m5:(q:Int)%2=(p:Int):=by omega
   rw[<-M,<-O] at F
   by_cases I:p=wh
   ·rw[aB I] at F;have u2:((p:Int)==(wh:Int))=true:=by rw[beq_iff_eq,I]
    have a2:=a0.out k;obtain⟨D,R⟩:=ex1 (eH m n wh k);have U:D[X]? =some (D.getD X 0):=by rw[bV,aN (by rw[R,a2];omega)];rfl
    have a7:=a4.out k (by omega) (D.getD X 0) (by rw[<-R];exact cN U);rw[<-R] at F A;obtain⟨d,hd⟩:=ex1 (D.getD X 0);rw[<-hd] at F U a7;have c2:=A.cell (i:=X) (v:=.int .i64 d) (by rw[List.getElem?_map,U];rfl);have f2:=A.free X;have m6:aJ.wrap (d+1)=d+1:=by rw[aM];omega
    have v1:(X:Int)<(n:Int):=Z.2;have HS:=hid F;have a8:p<=1:=by omega
    clear F M O I G Y V hd U a2 R Z;go_wp2_with fail
    go_region
    all_goals go_wp2_with fail
    have J:=HG.out
    go_roundg (m.length-(k+1))
    ·
     refine⟨k+1,by omega,rfl,by go_num,?_,(L.setCell (p:=⟨w.heap.size,X,none⟩) (aD _) _).drew⟩;have:=A.set X (.int .i64 (d+1));rw[<-List.map_set,<-HS.out] at this;exact this
    ·omega
   ·rw[aA I] at F;have u2:((p:Int)==(wh:Int))=false:=by rw[cB];omega
    have HS:=hid F;have a8:p<=1:=by omega
    clear F M O I G Y V Z;go_wp2_with fail;have J:=HG.out
    go_roundg (m.length-(k+1))
    ·exact⟨k+1,by omega,rfl,by go_num,by rw[HS.out];exact A,L⟩
    ·omega
  ·have u1:decide ((k:Int)<(m.length:Int))=false:=aE (by omega);have a9:k=m.length:=by omega
   subst a9;have a3:((eH m n wh m.length).map (bQ .i64)).length=n:=by rw[List.length_map,a0.out]
   have ho:=A.own (B:=w.heap.size) (aD _) (by rw[a3];simp only[maxLen];omega);rw[a3] at ho;go_wp2_with fail;go_ret;exact⟨_,rfl,ho,L⟩
end
end Go.Proofs.YtfckbfofgeilgaaGreatDoor
