/-
  Texts put together (part 10): the walks and the plain laws on which the statement stands.
-/
import Derived.LaidEql
import Derived.Stop.Asserts
import Derived.RowKitTokens
import Derived.Test.YtjkjeamepgjicaaGreatDoorZ9
set_option maxRecDepth 100000
set_option maxHeartbeats 12800000
set_option linter.unusedVariables false
set_option linter.unusedSimpArgs false
open Decidable renaming not_not->dK
open Go renaming run_callFunc_extern->qB
open Go.Extern.ReflectliteType renaming abiMethod->aCv,assignableTo->aCy,implements_->aTm,method->aTl,relation->GV,toType->aTk,typeOf->aCx
open Go.Extern.ReflectliteValue renaming elem->aC0,flagAddr->aCz,isNil->aCw,method->GU,methodAny->aTj,parts->AZ,set->aC1,unpack->OK,valueError->AY
open Go.Extern.Rtype renaming directlyAssignable->aTn
open Go.Instr renaming typeAssert->BA
open Go.IntKind renaming u8->pX
open Go.Proofs renaming enters_of->fN
open Go.Result renaming andThen->jB
open Go.RowKit.Below renaming refl->aB
open Go.Sem renaming run_bind->vL
open Go.Value renaming func->iR,int->bO
open Go.World renaming block_lt_of_cell?->iO,cell?_alloc_lt->OL
open Int renaming le_refl->lJ,le_trans->eC
open List renaming append_assoc->cF,append_nil->eE,getD_eq_getElem?_getD->aV,length_append->aL,length_nil->cX,length_pos_iff->kV,length_singleton->fK,mem_append->cU,mem_map->dU,nil_append->iG,take_left'->vN
open Nat renaming add_sub_cancel->jZ,le_refl->aA
namespace Go.Proofs.YtjkjeamepgjicaaGreatDoor
section
open Go.RowKit Go.Extern.Stop Go.Stop Go.Extern
theorem aMt (t:Addr) (w:World):(OK (.iface 153 (.pointer (some t)))).run Tryz.prog w
  =.ok (.agg #[.pointer (some ⟨1,153,none⟩),.pointer (some ⟨w.heap.size,0,none⟩),.int .u64 150]) (w.alloc (.cells #[.pointer (some t)] 153)):=by kernel_rfl
theorem aMu (a:Addr) (w:World):(aTj (AY "reflectlite.Value.Type" 0) (fun t _ _ _=>aTk t) #[.agg #[.pointer (some ⟨1,153,none⟩),.pointer (some a),.int .u64 150]]).run Tryz.prog w
  =.ok (.iface 84 (.agg #[.pointer (some ⟨1,153,none⟩)])) w:=by kernel_rfl
theorem aMv (w:World):((aCv fun t=>(fun a:Nat=>bO pX (a:Int)) <$> Rtype.kind t) #[.pointer (some ⟨1,153,none⟩)]).run Tryz.prog w=.ok (.int .u8 22) w:=by kernel_rfl
theorem aMw (w:World):((aCv fun t=>(fun a:Nat=>bO pX (a:Int)) <$> Rtype.kind t) #[.pointer (some ⟨1,145,none⟩)]).run Tryz.prog w=.ok (.int .u8 2) w:=by kernel_rfl
theorem XK (z:Sem Value) (f:TypeId->Addr->Nat->Nat->Sem Value) (v:Value):
  GU z f #[v]=(do match<-AZ v with|none=>z|some (t,a,fl)=>f t a fl (fl%32)):=rfl
theorem XL (a:Addr) (w:World):(AZ (.agg #[.pointer (some ⟨1,153,none⟩),.pointer (some a),.int .u64 150])).run Tryz.prog w=.ok (some (153,a,150)) w:=by kernel_rfl
theorem aMx (a p:Addr) (W:World) (ha:W.cell? a=some (.pointer (some p))):
  (GU (AY "reflectlite.Value.IsNil" 0) aCw #[.agg #[.pointer (some ⟨1,153,none⟩),.pointer (some a),.int .u64 150]]).run Tryz.prog W=.ok (.bool false) W:=by
 rw[XK];simp only[vL,XL,jB];simp[aCw,loadVar,isAgg,underlying,Tryz.underlying153,ha,jB]
theorem aMy (h:Value) (w:World):(Go.method 356 84 (.agg #[h]) "Kind").run Tryz.prog w=.ok (128,h) w:=by kernel_rfl
theorem aMz (h:Value) (w:World):(Go.method 356 84 (.agg #[h]) "Elem").run Tryz.prog w=.ok (138,.agg #[h]) w:=by kernel_rfl
theorem aM0 (h:Value) (w:World):(Go.method 356 84 (.agg #[h]) "Implements").run Tryz.prog w=.ok (139,.agg #[h]) w:=by kernel_rfl
theorem aM1 (h:Value) (w:World):(Go.method 356 84 (.agg #[h]) "AssignableTo").run Tryz.prog w=.ok (136,.agg #[h]) w:=by kernel_rfl
theorem aM2 (h:Value) (w:World):(Go.method 356 182 h "Unwrap").run Tryz.prog w=.ok (149,h) w:=by kernel_rfl
theorem aM3 (w:World):(aTl ReflectliteType.elem #[.agg #[.pointer (some ⟨1,153,none⟩)]]).run Tryz.prog w=.ok (.iface 84 (.agg #[.pointer (some ⟨1,145,none⟩)])) w:=by kernel_rfl
theorem aM4 (w:World):(GV "Implements" aTm #[.agg #[.pointer (some ⟨1,145,none⟩)],.iface 84 (.agg #[.pointer (some ⟨1,45,none⟩)])]).run Tryz.prog w=.ok (.bool true) w:=by kernel_rfl
theorem aM5 (v:Value) (w:World):(aCx #[.iface 182 v]).run Tryz.prog w=.ok (.iface 84 (.agg #[.pointer (some ⟨1,182,none⟩)])) w:=by kernel_rfl
theorem aM6 (v:Value) (w:World):(aCx #[.iface 145 v]).run Tryz.prog w=.ok (.iface 84 (.agg #[.pointer (some ⟨1,145,none⟩)])) w:=by kernel_rfl
theorem aM7 (w:World):(GV "AssignableTo" aCy #[.agg #[.pointer (some ⟨1,182,none⟩)],.iface 84 (.agg #[.pointer (some ⟨1,145,none⟩)])]).run Tryz.prog w=.ok (.bool false) w:=by kernel_rfl
theorem aM8 (w:World):(GV "AssignableTo" aCy #[.agg #[.pointer (some ⟨1,145,none⟩)],.iface 84 (.agg #[.pointer (some ⟨1,145,none⟩)])]).run Tryz.prog w=.ok (.bool true) w:=by kernel_rfl
theorem aM9 (x:Int) (w:World):(OK (.iface 145 (.int .i64 x))).run Tryz.prog w
  =.ok (.agg #[.pointer (some ⟨1,145,none⟩),.pointer (some ⟨w.heap.size,0,none⟩),.int .u64 130]) (w.alloc (.cells #[.int .i64 x] 145)):=by kernel_rfl
theorem aNa (w:World):(Rtype.elem? 153).run Tryz.prog w=.ok (some 145) w:=by kernel_rfl
theorem aNb (p:Addr) (w:World):(ReflectliteValue.mk 145 p aCz).run Tryz.prog w=.ok (.agg #[.pointer (some ⟨1,145,none⟩),.pointer (some p),.int .u64 386]) w:=by kernel_rfl
theorem aNc (a p:Addr) (W:World) (ha:W.cell? a=some (.pointer (some p))):
  (GU (AY "reflectlite.Value.Elem" 0) aC0 #[.agg #[.pointer (some ⟨1,153,none⟩),.pointer (some a),.int .u64 150]]).run Tryz.prog W
   =.ok (.agg #[.pointer (some ⟨1,145,none⟩),.pointer (some p),.int .u64 386]) W:=by
 rw[XK];simp only[vL,XL,jB];simp[aC0,loadVar,isAgg,underlying,Tryz.underlying153,ha,jB,aNa,aNb]
theorem aNd (v x:Value):aC1 #[v,x]=(do
  let(some (dst,a,fl),some (src,b,_)):=(<-AZ v,<-AZ x)
   |unsupported (.noEntry "extern/(internal/reflectlite.Value).Set.zeroValue")
  if fl/aCz%2==0 then unsupported (.noEntry "extern/(internal/reflectlite.Value).Set.unaddressable")
  let val<-loadVar src b
  if<-aTn dst src then storeVar dst a val
  else if<-Rtype.implements dst src then
   if(<-Rtype.kind src)==20 then
    match val with
    |.nilIface=>unsupported (.noEntry "extern/reflectlite: a nil value of one interface type handed on as a value of another")
    |_=>storeVar dst a val
   else storeVar dst a (.iface src val)
  else panicString ("reflectlite.Set: value of type "++(<-Rtype.spelt src)++ " is not assignable to type "++(<-Rtype.spelt dst))
  pure (.tuple #[])):=rfl
theorem aNe (a:Addr) (w:World):(AZ (.agg #[.pointer (some ⟨1,145,none⟩),.pointer (some a),.int .u64 386])).run Tryz.prog w=.ok (some (145,a,386)) w:=by kernel_rfl
theorem aNf (a:Addr) (w:World):(AZ (.agg #[.pointer (some ⟨1,145,none⟩),.pointer (some a),.int .u64 130])).run Tryz.prog w=.ok (some (145,a,130)) w:=by kernel_rfl
theorem aNg (w:World):(aTn 145 145).run Tryz.prog w=.ok true w:=by kernel_rfl
theorem aNh (ta b:Addr) (x:Int) (old:Value) (W:World) (hb:W.cell? b=some (.int .i64 x)) (ht:W.cell? ta=some old) (hf:W.frozen? ta=false):
  (aC1 #[.agg #[.pointer (some ⟨1,145,none⟩),.pointer (some ta),.int .u64 386],.agg #[.pointer (some ⟨1,145,none⟩),.pointer (some b),.int .u64 130]]).run Tryz.prog W
   =.ok (.tuple #[]) (W.setCell ta (.int .i64 x)):=by
 rw[aNd];simp only[vL,aNe,aNf,jB];simp[aCz,loadVar,isAgg,underlying,Tryz.underlying145,hb,jB,aNg,storeVar,Value.cells,storeCells,Addr.add];rw[run_store Tryz.prog W ta _ _ (by rfl)];simp[ht,hf]
def iF (w:World):Prop:=w.cell? ⟨0,0,none⟩=some (.iface 84 (.agg #[.pointer (some ⟨1,45,none⟩)]))
theorem iF.lt {w:World} (h:iF w):0<w.heap.size:=iO w _ h
theorem iF.below {w w':World} (h:iF w) (hb:Below w.heap.size w w'):iF w':=(hb.cell (p:=⟨0,0,none⟩) h.lt).trans h
theorem iF.grown {w w':World} {g:Nat} (h:iF w) (hg:w.grownBy w' (some g)) (h0:0<g):iF w':=hg.cell h (by simp;omega)
theorem aNi (v:Value) (w:World):(BA (.iface 182 v) 45 218 true).run Tryz.prog w=.ok (.tuple #[.nilIface,.bool false]) w:=run_typeAssert_lacksB Tryz.underlying218 (by kernel_rfl) (by kernel_rfl) v _ w
theorem aNj (v:Value) (w:World):(BA (.iface 182 v) 45 89 true).run Tryz.prog w=.ok (.tuple #[.iface 182 v,.bool true]) w:=by kernel_rfl
theorem aNk (t:Value) (w:World):
  Calls Tryz.prog 67 #[.nilIface,t] w fun e w'=>e=.returned (.bool false)/\w'=w:=by
 go_enter Tryz.func67,Tryz.ntmps67;go_wp2;go_ret;exact⟨rfl,rfl⟩
theorem aNl (k x:Int) (ct g:Addr) (old:Value) (w:World) (hg:w.cell? g=some (.pointer (some ct))) (hc:w.cell? ct=some old) (hf:w.frozen? ct=false):
  Calls Tryz.prog 93 #[.iface 182 (.agg #[.int .i64 k,.iface 145 (.int .i64 x)]),.iface 153 (.pointer (some ct)),.agg #[.pointer (some ⟨1,153,none⟩),.pointer (some g),.int .u64 150],.iface 84 (.agg #[.pointer (some ⟨1,145,none⟩)])] w
   fun e w'=>e=.returned (.bool true)/\w.grownBy w' (some ct.block)/\w'.cell? ct=some (.int .i64 x):=by
 have hTO:=@qB Tryz.prog 26 _ aCx Tryz.func26 (by kernel_rfl) (by kernel_rfl) (by kernel_rfl) (by kernel_rfl);have hAT:=@qB Tryz.prog 136 _ (GV "AssignableTo" aCy) Tryz.func136 (by kernel_rfl) (by kernel_rfl) (by kernel_rfl) (by kernel_rfl);have hEl:=@qB Tryz.prog 106 _ (GU (AY "reflectlite.Value.Elem" 0) aC0) Tryz.func106 (by kernel_rfl) (by kernel_rfl) (by kernel_rfl) (by kernel_rfl)
 have hVO:=@qB Tryz.prog 90 _ (fun args=>OK (args.getD 0 (.tuple #[]))) Tryz.func90 (by kernel_rfl) (by kernel_rfl) (by kernel_rfl) (by kernel_rfl);have hSt:=@qB Tryz.prog 107 _ aC1 Tryz.func107 (by kernel_rfl) (by kernel_rfl) (by kernel_rfl) (by kernel_rfl);have tF:=aM5;have tC:=aM6;have mA:=aM1;have mU:=aM2;have aF:=aM7;have aC:=aM8;have uC:=aM9 x;have q1:=aNi;have q2:=aNj;go_enter Tryz.func93,Tryz.ntmps93;go_wp2;refine wp_loop_rounds 2 ?_;rw[rounds_succ];go_wp2
 have hgl:=iO w _ hg;have hcl:=iO w _ hc;have hB:Below w.heap.size w ((w.alloc (.cells #[.pointer (some ⟨1,153,none⟩),.pointer (some g),.int .u64 150] 190)).alloc (.cells #[.int .i64 k,.iface 145 (.int .i64 x)] 182)):=((aB _ _).alloc (aA _) _).alloc (by simp) _;have hn:((w.alloc (.cells #[.pointer (some ⟨1,153,none⟩),.pointer (some g),.int .u64 150] 190)).alloc (.cells #[.int .i64 k,.iface 145 (.int .i64 x)] 182)).heap.size=w.heap.size+1+1:=by simp
 have hv:∀i,i<3->((w.alloc (.cells #[.pointer (some ⟨1,153,none⟩),.pointer (some g),.int .u64 150] 190)).alloc (.cells #[.int .i64 k,.iface 145 (.int .i64 x)] 182)).cell? ⟨w.heap.size,i,none⟩=#[.pointer (some ⟨1,153,none⟩),.pointer (some g),.int .u64 150][i]? :=fun i hi=>by
  rw[OL _ _ ⟨w.heap.size,i,none⟩ (by simp),World.cell?_alloc_at _ _ _ _ rfl]
 have v0:=hv 0 (by decide);have v1:=hv 1 (by decide);have v2:=hv 2 (by decide);clear hv;generalize (w.alloc (.cells #[.pointer (some ⟨1,153,none⟩),.pointer (some g),.int .u64 150] 190)).alloc (.cells #[.int .i64 k,.iface 145 (.int .i64 x)] 182)=w3 at*
 have eV:=aNc g ct w3 (by rw[hB.cell hgl];exact hg);have hsz:w3.heap.size=w.heap.size+1+1:=hn;have HN:=hid hn;have sC:=aNh ct ⟨w3.heap.size,0,none⟩ x old (w3.alloc (.cells #[.int .i64 x] 145)) (bS _ _ _)
  (by rw[OL _ _ ct (by omega),hB.cell hcl];exact hc)
  (by rw[World.frozen?_alloc_old _ _ ct (by omega),hB.frozen hcl];exact hf)
 clear hn hsz;rw[rounds_succ];go_wp2;go_ret;have hcl3:ct.block<w3.heap.size:=by have:=HN.out;omega
 refine⟨rfl,zN (b:=w3.alloc (.cells #[.int .i64 x] 145)) (rZ (hB.alloc (by have:=HN.out;omega) _) _) ?_,?_⟩
 ·exact⟨rfl,rfl,rfl,by simp,fun i hi hne=>heap_setCell_other _ _ _ _ (fun e=>hne (by rw[e]))⟩
 ·exact World.cell?_setCell_same _ _ _ (by rw[OL _ _ ct hcl3,hB.cell hcl];exact hc)
theorem aNm (k x:Int) (ct:Addr) (old:Value) (w:World) (hE:iF w) (hc:w.cell? ct=some old) (hf:w.frozen? ct=false):
  Calls Tryz.prog 67 #[.iface 182 (.agg #[.int .i64 k,.iface 145 (.int .i64 x)]),.iface 153 (.pointer (some ct))] w
   fun e w'=>e=.returned (.bool true)/\w.grownBy w' (some ct.block)/\w'.cell? ct=some (.int .i64 x):=by
 have hVO:=@qB Tryz.prog 90 _ (fun args=>OK (args.getD 0 (.tuple #[]))) Tryz.func90 (by kernel_rfl) (by kernel_rfl) (by kernel_rfl) (by kernel_rfl);have hTy:=@qB Tryz.prog 91 _ (aTj (AY "reflectlite.Value.Type" 0) (fun t _ _ _=>aTk t)) Tryz.func91 (by kernel_rfl) (by kernel_rfl) (by kernel_rfl) (by kernel_rfl)
 have hIN:=@qB Tryz.prog 92 _ (GU (AY "reflectlite.Value.IsNil" 0) aCw) Tryz.func92 (by kernel_rfl) (by kernel_rfl) (by kernel_rfl) (by kernel_rfl);have hKi:=@qB Tryz.prog 128 _ (aCv fun t=>do pure (.int .u8 (<-Rtype.kind t))) Tryz.func128 (by kernel_rfl) (by kernel_rfl) (by kernel_rfl) (by kernel_rfl);have hEl:=@qB Tryz.prog 138 _ (aTl ReflectliteType.elem) Tryz.func138 (by kernel_rfl) (by kernel_rfl) (by kernel_rfl) (by kernel_rfl)
 have hIm:=@qB Tryz.prog 139 _ (GV "Implements" aTm) Tryz.func139 (by kernel_rfl) (by kernel_rfl) (by kernel_rfl) (by kernel_rfl);have uP:=aMt ct;have tP:=aMu;have mK:=aMy;have mE:=aMz;have mI:=aM0;have kP:=aMv;have kC:=aMw;have eP:=aM3;have iC:=aM4;have hcl:=iO w _ hc;have h0:=hE.lt;have hE0:w.cell? ⟨0,0,none⟩=some (.iface 84 (.agg #[.pointer (some ⟨1,45,none⟩)])):=hE
 obtain⟨w2,hw2⟩:∃w2,w2=(w.alloc (.cells #[.pointer (some ct)] 153)).alloc (.cells #[.pointer (some ⟨1,153,none⟩),.pointer (some ⟨w.heap.size,0,none⟩),.int .u64 150] 190):=⟨_,rfl⟩;have hB:Below w.heap.size w w2:=by rw[hw2];exact((aB _ _).alloc (aA _) _).alloc (by simp) _
 have hg2:w2.cell? ⟨w.heap.size,0,none⟩=some (.pointer (some ct)):=by
  rw[hw2,OL _ _ ⟨w.heap.size,0,none⟩ (by simp),bS]
 have n8:=aMx ⟨w.heap.size,0,none⟩ ct w2 hg2;have hE2:w2.cell? ⟨0,0,none⟩=some (.iface 84 (.agg #[.pointer (some ⟨1,45,none⟩)])):=by rw[hB.cell (p:=⟨0,0,none⟩) h0];exact hE0
 have HA:=hid (aNl k x ct ⟨w.heap.size,0,none⟩ old w2 hg2 (by rw[hB.cell hcl];exact hc) (by rw[hB.frozen hcl];exact hf));rw[hw2] at n8 hE2 HA;have HB:=hid hB;have HW:=hid hw2;clear hB hg2 hw2 hE hE0 hc hf;go_enter Tryz.func67,Tryz.ntmps67;go_wp2_with (go_at_call 93;refine HA.out.mono ?_;rintro e w4 ⟨rfl,hg4,hc4⟩);go_ret;rw[<-HW.out] at hg4;exact⟨rfl,zN (rZ HB.out _) hg4,hc4⟩
end
section
open Go.RowKit Go.Shelf
def stD (a:ByteArray) (o:Int) (l:List Int) (most:Int):Nat->Int
 |0=>if a.data.toList≠[]/\bK a.data.toList=a.data.toList then 0 else 1
 |1=>if gW l ((a.size:Int)+1) then 0 else 3
 |2=>nZ (l.take (l.length-1)) most
 |3=>if cE l=[] then 3 else 0
 |_=>nW (unL a.data.toList (cE l)) o
def stE (a:ByteArray) (o:Int) (l:List Int) (most:Int):Nat->Int
 |4=>if stD a o l most 4=0 then 0 else 3
 |k=>stD a o l most k
def stF:Nat->Nat
 |0=>60
 |1=>62
 |2=>63
 |3=>64
 |_=>66
def stY:Nat->Nat
 |0|1|2=>61
 |_=>65
def stS (w0:World) (wb:Nat) (a:ByteArray) (o:Int) (v:Value) (l:List Int) (most:Int) (k:Nat) (W:World):Prop:=
 ∃lv b,Arr W wb 144 [.string a,.int .i64 o,v,.int .i64 most,lv,.string b]/\(k=2->RdI w0 lv (l.take (l.length-1)))/\(k=3->RdI W lv (cE l))/\(k=4->b=mkS (unL a.data.toList (cE l)))/\(k=5->b=mkS (lE (unL a.data.toList (cE l)) o))
theorem st0 {a:ByteArray} {o:Int} {l:List Int} {most:Int} (h:stE a o l most 0=0):a.data.toList≠[]/\bK a.data.toList=a.data.toList:=by
 by_cases q:a.data.toList≠[]/\bK a.data.toList=a.data.toList
 ·exact q
 ·exfalso;have:stE a o l most 0=if a.data.toList≠[]/\bK a.data.toList=a.data.toList then 0 else 1:=rfl;rw[this,if_neg q] at h;omega
theorem st1 {a:ByteArray} {o:Int} {l:List Int} {most:Int} (h:stE a o l most 1=0):gW l ((a.size:Int)+1):=by
 by_cases q:gW l ((a.size:Int)+1)
 ·exact q
 ·exfalso;have:stE a o l most 1=if gW l ((a.size:Int)+1) then 0 else 3:=rfl;rw[this,if_neg q] at h;omega
theorem st2 {a:ByteArray} {o:Int} {l:List Int} {most:Int} (h:stE a o l most 2=0):((cE l).length:Int)<=most:=by
 by_cases q:((cE l).length:Int)<=most
 ·exact q
 ·exfalso;have:stE a o l most 2=if((cE l).length:Int)<=most then 0 else 4:=rfl;rw[this,if_neg q] at h;omega
theorem st3 {a:ByteArray} {o:Int} {l:List Int} {most:Int} (h:stE a o l most 3=0):cE l≠[]:=fun q=>by
 have:stE a o l most 3=if cE l=[] then 3 else 0:=rfl;rw[this,if_pos q] at h;omega
theorem XN {L:List UInt8} {o:Int} (hL:0<L.length):mJ L o=true↔(0<=o/\o<(L.length:Int)):=by
 unfold mJ;rw[Bool.and_eq_true,decide_eq_true_iff,decide_eq_true_iff];omega
theorem st4 {a:ByteArray} {o:Int} {l:List Int} {most:Int} (h3:cE l≠[]):stE a o l most 4=0↔(0<=o/\o<((cE l).length:Int)):=by
 have hl:(unL a.data.toList (cE l)).length=(cE l).length:=oO _ _;have hp:0<(unL a.data.toList (cE l)).length:=by rw[hl];exact kV.2 h3
 have e:stE a o l most 4=if(if mJ (unL a.data.toList (cE l)) o then(0:Int) else 1)=0 then 0 else 3:=rfl;rw[e,<-hl];have hi:=XN (o:=o) hp
 cases hk:mJ (unL a.data.toList (cE l)) o with
 |true=>simp;exact hi.1 hk
 |false=>
  simp;intro h0;rw[hk] at hi;rcases Int.lt_or_le o (unL a.data.toList (cE l)).length with q|q
  ·exact absurd (hi.2 ⟨h0,q⟩) (by simp)
  ·exact q
theorem aNn {a:ByteArray} {o:Int} {l:List Int} {most:Int} {k:Nat} (hk:k<5) (h:stE a o l most k≠0) (hj:∀j,j<k->stE a o l most j=0):rest a o l most=(cW,stE a o l most k):=by
 match k,hk with
 |0,_=>
  have e:stE a o l most 0=if a.data.toList≠[]/\bK a.data.toList=a.data.toList then 0 else 1:=rfl
  by_cases q:a.data.toList≠[]/\bK a.data.toList=a.data.toList
  ·rw[e,if_pos q] at h;omega
  ·rw[e,if_neg q];exact wQ q
 |1,_=>
  have e:stE a o l most 1=if gW l ((a.size:Int)+1) then 0 else 3:=rfl
  by_cases q:gW l ((a.size:Int)+1)
  ·rw[e,if_pos q] at h;omega
  ·rw[e,if_neg q];exact zK (st0 (hj 0 (by omega))) q
 |2,_=>
  have e:stE a o l most 2=if((cE l).length:Int)<=most then 0 else 4:=rfl
  by_cases q:((cE l).length:Int)<=most
  ·rw[e,if_pos q] at h;omega
  ·rw[e,if_neg q];exact zL (st0 (hj 0 (by omega))) (st1 (hj 1 (by omega))) q
 |3,_=>
  have e:stE a o l most 3=if cE l=[] then 3 else 0:=rfl
  by_cases q:cE l=[]
  ·rw[e,if_pos q];exact zM (st0 (hj 0 (by omega))) (st1 (hj 1 (by omega))) (st2 (hj 2 (by omega))) (by rw[q];simp)
  ·rw[e,if_neg q] at h;omega
 |4,_=>
  have h3:=st3 (hj 3 (by omega));have hn:=fun q=>h ((st4 (a:=a) (most:=most) h3).2 q)
  rw[zM (st0 (hj 0 (by omega))) (st1 (hj 1 (by omega))) (st2 (hj 2 (by omega))) hn];have e:stE a o l most 4=if stD a o l most 4=0 then 0 else 3:=rfl
  by_cases q:stD a o l most 4=0
  ·rw[e,if_pos q] at h;omega
  ·rw[e,if_neg q]
theorem aNo {a:ByteArray} {o:Int} {l:List Int} {most:Int} (hj:∀j,j<5->stE a o l most j=0):rest a o l most=(mkS (lE (unL a.data.toList (cE l)) o),0):=by
 have h3:=st3 (hj 3 (by omega));have h4:=(st4 (a:=a) (most:=most) h3).1 (hj 4 (by omega));have hl:(unL a.data.toList (cE l)).length=(cE l).length:=oO _ _;rw[wR (st0 (hj 0 (by omega))) (st1 (hj 1 (by omega))) (st2 (hj 2 (by omega))) h4];unfold lE;rw[if_pos ((XN (by rw[hl];exact kV.2 h3)).2 (by rw[hl];exact h4))]
theorem aNp (w0 w:World) (wb:Nat) (a:ByteArray) (o:Int) (v:Value) (l:List Int) (most:Int) (ha:a.size<=140737488355328) (hr:RdI w0 v l) (hl:l.length<=1000000) (ho1: -9223372036854775808<=o) (ho2:o<=9223372036854775807) (hm1: -9223372036854775808<=most) (hm2:most<=1000000) (hb0:Below w0.heap.size w0 w) (hwb:w0.heap.size<=wb):
  ∀k,k<5->∀W,stS w0 wb a o v l most k W->w.grownBy W (some wb)->(∀j,j<k->stE a o l most j=0)->Calls Tryz.prog (stF k) #[.pointer (some ⟨wb,0,none⟩)] W fun e W'=>e=.returned (.int .i64 (stD a o l most k))/\W.grownBy W' (some wb)/\(stE a o l most k=0->stS w0 wb a o v l most (k+1) W'):=by
 intro k hk W hS hg hj;obtain⟨lv,b,harr,s2,s3,s4,s5⟩:=hS;have hB:Below w0.heap.size w0 W:=hb0.grown hg hb0.size (fun q e=>by injection e with e;omega);have hrW:RdI W v l:=hr.below hB
 match k,hk with
 |0,_=>
  refine(aMi wb a o most v lv b W ha harr).mono ?_;rintro e W' ⟨rfl,hb⟩;exact⟨rfl,rZ hb _,fun _=>⟨lv,b,harr.below hb harr.lt,by omega,by omega,by omega,by omega⟩⟩
 |1,_=>
  have h0:=st0 (hj 0 (by omega));have ha6:a.size<=256:=by
   have hla:a.data.toList.length=a.size:=by simp
   rw[<-hla,<-h0.2];exact rX _
  have e1:stD a o l most 1=if gW l ((a.size:Int)+1) then 0 else 3:=rfl
  by_cases hq:gW l ((a.size:Int)+1)
  ·rw[e1,if_pos hq];refine(aMl wb a o most v lv l b W ha6 harr hrW hq).mono ?_;rintro e W' ⟨rfl,hg',lv',harr',hrl⟩;exact⟨rfl,hg',fun _=>⟨lv',b,harr',fun _=>hrl w0 hr,by omega,by omega,by omega⟩⟩
  ·rw[e1,if_neg hq];refine(aMk wb a o most v lv l b W ha6 harr hrW hq).mono ?_;rintro e W' ⟨rfl,hb⟩;exact⟨rfl,rZ hb _,fun h=>absurd (st1 h) hq⟩
 |2,_=>
  have h1:=st1 (hj 1 (by omega));have ha6:a.size<=256:=by
   have h0:=st0 (hj 0 (by omega));have hla:a.data.toList.length=a.size:=by simp
   rw[<-hla,<-h0.2];exact rX _
  refine(aMm wb a o most v lv (l.take (l.length-1)) b W harr ((s2 rfl).below hB) (by rw[List.length_take];omega) (fun x hx=>by have:=h1.2.2 x hx;omega) hm1 hm2).mono ?_;rintro e W' ⟨rfl,hg',lv',harr',hrl⟩;refine⟨rfl,hg',fun h=>⟨lv',b,harr',by omega,fun _=>?_,by omega,by omega⟩⟩;rw[(wO (m:=l.take (l.length-1)) (st2 h)).1] at hrl;exact hrl
 |3,_=>
  have h0:=st0 (hj 0 (by omega));have h1:=st1 (hj 1 (by omega));have h2:=st2 (hj 2 (by omega));have hla:a.data.toList.length=a.size:=by simp
  have ha6:a.size<=256:=by rw[<-hla,<-h0.2];exact rX _
  have hap:0<a.size:=by rw[<-hla];exact kV.2 h0.1
  have e3:stD a o l most 3=if cE l=[] then 3 else 0:=rfl
  by_cases hq:cE l=[]
  ·rw[e3,if_pos hq];refine(aMn wb a o most v lv b W harr (by have:=s3 rfl;rwa[hq] at this)).mono ?_;rintro e W' ⟨rfl,rfl⟩;exact⟨rfl,rZ (aB _ _) _,fun h=>absurd hq (st3 h)⟩
  ·rw[e3,if_neg hq];refine(aMo wb a o most v lv (cE l) b W harr (s3 rfl) (kV.2 hq) (by omega) (by omega) (by rw[<-h0.2];exact BS _) (LQ h1 hap)).mono ?_;rintro e W' ⟨rfl,hg',harr'⟩;exact⟨rfl,hg',fun _=>⟨lv,_,harr',by omega,by omega,fun _=>rfl,by omega⟩⟩
 |4,_=>
  have h2:=st2 (hj 2 (by omega));obtain rfl:=s4 rfl;have hls:(mkS (unL a.data.toList (cE l))).size<=1000000000:=by rw[cP,oO];omega
  refine(aMp wb a o most v lv _ W harr hls ho1 ho2).mono ?_;rintro e W' ⟨rfl,hg',harr'⟩;exact⟨rfl,hg',fun _=>⟨lv,_,harr',by omega,by omega,by omega,fun _=>rfl⟩⟩
theorem aNq (a:ByteArray) (o:Int) (l:List Int) (most:Int):∀k,k<5->∀W,Calls Tryz.prog (stY k) #[.int .i64 (stD a o l most k)] W fun e W'=>e=.returned (.int .i64 (stE a o l most k))/\W'=W:=by
 intro k hk W
 match k,hk with
 |0,_=>exact LS _ W
 |1,_=>exact LS _ W
 |2,_=>exact LS _ W
 |3,_=>
  refine(XJ (stD a o l most 3) W).mono ?_;rintro e W' ⟨rfl,rfl⟩;refine⟨fX ?_,rfl⟩;have e3:stD a o l most 3=if cE l=[] then 3 else 0:=rfl;have e4:stE a o l most 3=if cE l=[] then 3 else 0:=rfl;rw[e3,e4]
  by_cases hq:cE l=[]
  ·rw[if_pos hq];rfl
  ·rw[if_neg hq];rfl
 |4,_=>exact XJ (stD a o l most 4) W
theorem aNr (w0:World) (wb:Nat) (a:ByteArray) (o:Int) (v:Value) (l:List Int) (most:Int) (k:Nat) (W W':World) (h:stS w0 wb a o v l most k W) (hb:Below W.heap.size W W'):stS w0 wb a o v l most k W':=by
 obtain⟨lv,b,harr,s2,s3,s4,s5⟩:=h;exact⟨lv,b,harr.below hb harr.lt,s2,fun e=>(s3 e).below hb,s4,s5⟩
theorem aNs:∀k,k<5->Enters Tryz.prog (stF k):=by
 intro k hk
 match k,hk with
 |0,_=>exact fN Tryz.func60 rfl rfl
 |1,_=>exact fN Tryz.func62 rfl rfl
 |2,_=>exact fN Tryz.func63 rfl rfl
 |3,_=>exact fN Tryz.func64 rfl rfl
 |4,_=>exact fN Tryz.func66 rfl rfl
theorem aNt:∀k,k<5->Enters Tryz.prog (stY k):=by
 intro k hk
 match k,hk with
 |0,_=>exact fN Tryz.func61 rfl rfl
 |1,_=>exact fN Tryz.func61 rfl rfl
 |2,_=>exact fN Tryz.func61 rfl rfl
 |3,_=>exact fN Tryz.func65 rfl rfl
 |4,_=>exact fN Tryz.func65 rfl rfl
theorem aNu (a:ByteArray) (o:Int) (v:Value) (l:List Int) (most:Int) (w:World) (hE:iF w) (ha:a.size<=140737488355328) (hr:RdI w v l) (hl:l.length<=1000000) (ho1: -9223372036854775808<=o) (ho2:o<=9223372036854775807) (hm1: -9223372036854775808<=most) (hm2:most<=1000000):
  Calls Tryz.prog 51 #[.agg #[.string a,.int .i64 o,v],.int .i64 most] w fun e w'=>e=.returned (.tuple #[.string (rest a o l most).1,.int .i64 (rest a o l most).2])/\Below w.heap.size w w':=by
 have HST:=hid (fun w1 wb hb0 hwb=>aNp w w1 wb a o v l most ha hr hl ho1 ho2 hm1 hm2 hb0 hwb);obtain⟨ad,ca,rfl,hca,hma,_⟩:=hr.open;go_enter Tryz.func51,Tryz.ntmps51;go_wp2_with fail;have hs1:(w.alloc (.cells #[.string a,.int .i64 o,.slice ad l.length ca] 127)).heap.size=w.heap.size+1:=by simp
 have hB:Below w.heap.size w ((((w.alloc (.cells #[.string a,.int .i64 o,.slice ad l.length ca] 127)).alloc (.cells #[.string a,.int .i64 o,.slice ad l.length ca,.int .i64 most,.slice none 0 0,.string {data:=#[]}] 144)).alloc (.cells #[.int .i64 0] 145)).alloc (.cells #[.func (.func 60) #[] #[],.func (.func 61) #[] #[],.func (.func 62) #[] #[],.func (.func 61) #[] #[],.func (.func 63) #[] #[],.func (.func 61) #[] #[],.func (.func 64) #[] #[],.func (.func 65) #[] #[],.func (.func 66) #[] #[],.func (.func 65) #[] #[]] 151)):=((((aB _ _).alloc (aA _) _).alloc (by simp) _).alloc (by simp;omega) _).alloc (by simp;omega) _
 have hA:Arr ((((w.alloc (.cells #[.string a,.int .i64 o,.slice ad l.length ca] 127)).alloc (.cells #[.string a,.int .i64 o,.slice ad l.length ca,.int .i64 most,.slice none 0 0,.string {data:=#[]}] 144)).alloc (.cells #[.int .i64 0] 145)).alloc (.cells #[.func (.func 60) #[] #[],.func (.func 61) #[] #[],.func (.func 62) #[] #[],.func (.func 61) #[] #[],.func (.func 63) #[] #[],.func (.func 61) #[] #[],.func (.func 64) #[] #[],.func (.func 65) #[] #[],.func (.func 66) #[] #[],.func (.func 65) #[] #[]] 151)) (w.heap.size+1) 144 [.string a,.int .i64 o,.slice ad l.length ca,.int .i64 most,.slice none 0 0,.string {data:=#[]}]:=by
  have:=((Arr.new (w.alloc (.cells #[.string a,.int .i64 o,.slice ad l.length ca] 127)) 144 [.string a,.int .i64 o,.slice ad l.length ca,.int .i64 most,.slice none 0 0,.string {data:=#[]}]).alloc (.cells #[.int .i64 0] 145)).alloc (.cells #[.func (.func 60) #[] #[],.func (.func 61) #[] #[],.func (.func 62) #[] #[],.func (.func 61) #[] #[],.func (.func 63) #[] #[],.func (.func 61) #[] #[],.func (.func 64) #[] #[],.func (.func 65) #[] #[],.func (.func 66) #[] #[],.func (.func 65) #[] #[]] 151);rwa[hs1] at this
 have hC:Arr ((((w.alloc (.cells #[.string a,.int .i64 o,.slice ad l.length ca] 127)).alloc (.cells #[.string a,.int .i64 o,.slice ad l.length ca,.int .i64 most,.slice none 0 0,.string {data:=#[]}] 144)).alloc (.cells #[.int .i64 0] 145)).alloc (.cells #[.func (.func 60) #[] #[],.func (.func 61) #[] #[],.func (.func 62) #[] #[],.func (.func 61) #[] #[],.func (.func 63) #[] #[],.func (.func 61) #[] #[],.func (.func 64) #[] #[],.func (.func 65) #[] #[],.func (.func 66) #[] #[],.func (.func 65) #[] #[]] 151)) (w.heap.size+1+1) 145 [.int .i64 0]:=by
  have:=(Arr.new ((w.alloc (.cells #[.string a,.int .i64 o,.slice ad l.length ca] 127)).alloc (.cells #[.string a,.int .i64 o,.slice ad l.length ca,.int .i64 most,.slice none 0 0,.string {data:=#[]}] 144)) 145 [.int .i64 0]).alloc (.cells #[.func (.func 60) #[] #[],.func (.func 61) #[] #[],.func (.func 62) #[] #[],.func (.func 61) #[] #[],.func (.func 63) #[] #[],.func (.func 61) #[] #[],.func (.func 64) #[] #[],.func (.func 65) #[] #[],.func (.func 66) #[] #[],.func (.func 65) #[] #[]] 151)
  rwa[show((w.alloc (.cells #[.string a,.int .i64 o,.slice ad l.length ca] 127)).alloc (.cells #[.string a,.int .i64 o,.slice ad l.length ca,.int .i64 most,.slice none 0 0,.string {data:=#[]}] 144)).heap.size=w.heap.size+1+1 by simp] at this
 have hF:Arr ((((w.alloc (.cells #[.string a,.int .i64 o,.slice ad l.length ca] 127)).alloc (.cells #[.string a,.int .i64 o,.slice ad l.length ca,.int .i64 most,.slice none 0 0,.string {data:=#[]}] 144)).alloc (.cells #[.int .i64 0] 145)).alloc (.cells #[.func (.func 60) #[] #[],.func (.func 61) #[] #[],.func (.func 62) #[] #[],.func (.func 61) #[] #[],.func (.func 63) #[] #[],.func (.func 61) #[] #[],.func (.func 64) #[] #[],.func (.func 65) #[] #[],.func (.func 66) #[] #[],.func (.func 65) #[] #[]] 151)) (w.heap.size+1+1+1) 151 [.func (.func 60) #[] #[],.func (.func 61) #[] #[],.func (.func 62) #[] #[],.func (.func 61) #[] #[],.func (.func 63) #[] #[],.func (.func 61) #[] #[],.func (.func 64) #[] #[],.func (.func 65) #[] #[],.func (.func 66) #[] #[],.func (.func 65) #[] #[]]:=by
  have:=Arr.new (((w.alloc (.cells #[.string a,.int .i64 o,.slice ad l.length ca] 127)).alloc (.cells #[.string a,.int .i64 o,.slice ad l.length ca,.int .i64 most,.slice none 0 0,.string {data:=#[]}] 144)).alloc (.cells #[.int .i64 0] 145)) 151 [.func (.func 60) #[] #[],.func (.func 61) #[] #[],.func (.func 62) #[] #[],.func (.func 61) #[] #[],.func (.func 63) #[] #[],.func (.func 61) #[] #[],.func (.func 64) #[] #[],.func (.func 65) #[] #[],.func (.func 66) #[] #[],.func (.func 65) #[] #[]]
  rwa[show(((w.alloc (.cells #[.string a,.int .i64 o,.slice ad l.length ca] 127)).alloc (.cells #[.string a,.int .i64 o,.slice ad l.length ca,.int .i64 most,.slice none 0 0,.string {data:=#[]}] 144)).alloc (.cells #[.int .i64 0] 145)).heap.size=w.heap.size+1+1+1 by simp] at this
 generalize ((((w.alloc (.cells #[.string a,.int .i64 o,.slice ad l.length ca] 127)).alloc (.cells #[.string a,.int .i64 o,.slice ad l.length ca,.int .i64 most,.slice none 0 0,.string {data:=#[]}] 144)).alloc (.cells #[.int .i64 0] 145)).alloc (.cells #[.func (.func 60) #[] #[],.func (.func 61) #[] #[],.func (.func 62) #[] #[],.func (.func 61) #[] #[],.func (.func 63) #[] #[],.func (.func 61) #[] #[],.func (.func 64) #[] #[],.func (.func 65) #[] #[],.func (.func 66) #[] #[],.func (.func 65) #[] #[]] 151))=wc at*
 have hcell:∀k,k<5->wc.cell? ⟨w.heap.size+1+1+1,k*2,none⟩=some (iR (.func (stF k)) #[] #[])/\wc.cell? ⟨w.heap.size+1+1+1,k*2+1,none⟩=some (iR (.func (stY k)) #[] #[]):=fun k hk=>by
  match k,hk with
  |0,_=>exact⟨hF.cell (i:=0) rfl,hF.cell (i:=1) rfl⟩
  |1,_=>exact⟨hF.cell (i:=2) rfl,hF.cell (i:=3) rfl⟩
  |2,_=>exact⟨hF.cell (i:=4) rfl,hF.cell (i:=5) rfl⟩
  |3,_=>exact⟨hF.cell (i:=6) rfl,hF.cell (i:=7) rfl⟩
  |4,_=>exact⟨hF.cell (i:=8) rfl,hF.cell (i:=9) rfl⟩
 have hAl:=hA.lt;refine(aMs (w.heap.size+1) (w.heap.size+1+1+1) wc stF stY (stD a o l most) (stE a o l most) (stS w (w.heap.size+1) a o (.slice ad l.length ca) l most) hcell (by omega) hAl aNs aNt (HST.out wc (w.heap.size+1) hB (by omega)) (aNq a o l most) (fun k W W' h hb=>aNr w _ a o _ l most k W W' h hb) ⟨_,_,hA,by omega,by omega,by omega,by omega⟩).mono ?_;rintro e w1 ⟨hg,hpost⟩;have hB1:Below w.heap.size w w1:=hB.grown hg hB.size (fun q e=>by injection e with e;omega)
 have hc1:w1.cell? ⟨w.heap.size+1+1,0,none⟩=some (.int .i64 0):=hg.cell (hC.cell (i:=0) rfl) (by simp);have hf1:w1.frozen? ⟨w.heap.size+1+1,0,none⟩=false:=by rw[World.frozen?_of_block (hg.block _ hC.lt (by simp))];exact hC.free 0
 have hE1:iF w1:=hE.below hB1;clear hs1 hB hA hC hF hcell hAl hg;rcases hpost with⟨k,hk,hne,hj,rfl⟩|⟨hj,hS,rfl⟩
 ·have HR:=hid (aNn hk hne hj);obtain⟨x,hx⟩:∃x,x=stE a o l most k:=⟨_,rfl⟩;rw[<-hx] at HR ⊢;clear hne hj hx;have HA:=hid (aNm k x ⟨w.heap.size+1+1,0,none⟩ (.int .i64 0) w1 hE1 hc1 hf1);clear hc1 hf1;go_wp2_with fail;refine HA.out.mono ?_;rintro e w2 ⟨rfl,hg2,hc2⟩;have hB2:Below w.heap.size w w2:=hB1.grown hg2 hB1.size (fun q e=>by injection e with e;omega);go_wp2_with fail
  go_quiet (fail)
  go_wp2_with fail
  go_ret2
  rw[HR.out];exact⟨rfl,iI hB2 _⟩
 ·have HR:=hid (aNo hj);obtain⟨lv,b,harr,_,_,_,hb5⟩:=hS;obtain rfl:=hb5 rfl;have d5:=harr.cell (i:=5) rfl;clear hj hb5;go_wp2_with (go_at_call 67;refine(aNk _ _).mono ?_;rintro e w2 ⟨rfl,rfl⟩)
  go_ret2
  rw[HR.out];exact⟨rfl,hB1⟩
noncomputable def oOf (s:ByteArray):Nat->Int:=Classical.epsilon (fun o=>Ord (bX s) s.size s.size o)
def fS (s:ByteArray):Prop:=Ord (bX s) s.size s.size (oOf s)
noncomputable def oY (s:ByteArray):List UInt8:=dM s (oOf s) s.size
noncomputable def sqA (s:ByteArray):ByteArray:=if s.size=0 then cW else mkS (bK s.data.toList)
noncomputable def sqO (s:ByteArray):Int:=if s.size=0 then 0 else((fD (oOf s) s.size:Nat):Int)
noncomputable def sqS (s:ByteArray):List Int:=if s.size=0 then[] else oA s (oOf s)
def sqE (s:ByteArray):Int:=if s.size=0 then 1 else 0
theorem XT (s:ByteArray):(oY s).length=s.size:=by unfold oY dM;simp
theorem aN1 {s:ByteArray} (h:fS s):(oY s).Perm s.data.toList:=LN s h
theorem aN2 (s:ByteArray):oA s (oOf s)=cZ 0 (cM (bK s.data.toList) (oY s))++[((bK s.data.toList).length:Int)+1]:=rfl
theorem XU {s:ByteArray} (h:fS s):∀b∈oY s,b∈bK s.data.toList:=fun _b hb=>(yC _ _).2 ((aN1 h).mem_iff.1 hb)
theorem XV {s:ByteArray} (h:fS s):∀x∈cM (bK s.data.toList) (oY s),0<=x/\x<((bK s.data.toList).length:Int):=vT _ _ (XU h)
theorem LW (s:ByteArray):(sqS s).length<=s.size+1/\(0<s.size->2<=(sqS s).length):=by
 unfold sqS
 by_cases h0:s.size=0
 ·rw[if_pos h0];exact⟨by simp,fun h=>by omega⟩
 ·rw[if_neg h0,aN2,aL];have:=IT (cM (bK s.data.toList) (oY s)) 0;rw[rH,XT] at this;simp;omega
def RdP (w:World) (v:Value) (l:List (Int×Int)):Prop:=
 ∃a cap,v=.slice a l.length cap/\l.length<=cap/\cap<=maxLen/\
  (0<l.length->∃b off,a=some ⟨b,off,none⟩/\b<w.heap.size/\∀j p,l[j]? =some p->w.cell? ⟨b,off+j*2,none⟩=some (.int .i64 p.1)/\w.cell? ⟨b,off+j*2+1,none⟩=some (.int .i64 p.2))
theorem RdP.below {w w':World} {v:Value} {l:List (Int×Int)} (h:RdP w v l) (hb:Below w.heap.size w w'):RdP w' v l:=by
 obtain⟨a,cap,rfl,h1,h2,h3⟩:=h;refine⟨a,cap,rfl,h1,h2,fun h=>?_⟩;obtain⟨b,off,rfl,hlt,hc⟩:=h3 h;exact⟨b,off,rfl,Nat.lt_of_lt_of_le hlt hb.size,fun j p hp=>by rw[(lP hb).1 _ _ hlt,(lP hb).1 _ _ hlt];exact hc j p hp⟩
end
section
open Go.RowKit
theorem XY {s:ByteArray} (h0:0<s.size):s.data.toList≠[]:=fun e=>by
 have:s.data.toList.length=s.size:=by simp
 rw[e] at this;simp at this;omega
theorem aOa {s:ByteArray} (h0:0<s.size):1<=(bK s.data.toList).length:=kV.2 (BT (XY h0))
theorem zO {s:ByteArray} (h0:0<s.size):sqA s=mkS (bK s.data.toList):=if_neg (by omega)
theorem EF {s:ByteArray} (h0:0<s.size):sqO s=((fD (oOf s) s.size:Nat):Int):=if_neg (by omega)
theorem MA {s:ByteArray} (h0:0<s.size):sqS s=cZ 0 (cM (bK s.data.toList) (oY s))++[((bK s.data.toList).length:Int)+1]:=if_neg (by omega)
theorem XZ {s:ByteArray} (h0:0<s.size):sqE s=0:=if_neg (by omega)
theorem aOb {s:ByteArray} (h0:0<s.size):(sqA s).size=(bK s.data.toList).length:=by rw[zO h0,cP]
theorem YA {s:ByteArray} (h0:0<s.size):(sqA s).data.toList≠[]/\bK (sqA s).data.toList=(sqA s).data.toList:=by
 rw[zO h0,fW];exact⟨BT (XY h0),PK _⟩
theorem YB {s:ByteArray} (h0:0<s.size) (hO:fS s):∀y∈cZ 0 (cM (bK s.data.toList) (oY s)),0<=y/\y<((bK s.data.toList).length:Int)+1:=fun y hy=>by
 have hr:=XV hO;have hp:=aOa h0;rcases aDx _ _ (fun x hx=>(hr x hx).1) y hy with q|q|⟨x,hx,q,_⟩
 ·omega
 ·omega
 ·have:=hr x hx;omega
theorem YC {s:ByteArray} (h0:0<s.size) (hO:fS s):gW (sqS s) (((sqA s).size:Int)+1):=by
 rw[MA h0,aOb h0];refine⟨by simp,by simp,fun x hx=>?_⟩;rw[aL,fK,jZ,vN] at hx
 ·exact YB h0 hO x hx
 ·rfl
theorem YD {s:ByteArray} (h0:0<s.size) (hO:fS s):cE (sqS s)=cM (bK s.data.toList) (oY s):=by
 unfold cE;rw[MA h0,aL,fK,jZ,vN rfl,aDw _ _ (fun x hx=>(XV hO x hx).1)];simp
theorem MB {s:ByteArray} (h0:0<s.size) (hO:fS s):(cE (sqS s)).length=s.size:=by
 rw[YD h0 hO,rH,XT]
theorem aOc {s:ByteArray} (h0:0<s.size) (hO:fS s):unL (sqA s).data.toList (cE (sqS s))=oY s:=by
 rw[YD h0 hO,zO h0,fW];exact PN _ _ (XU hO)
theorem MC {s:ByteArray} (h0:0<s.size) (hO:fS s):fD (oOf s) s.size<s.size/\oOf s (fD (oOf s) s.size)=0:=aLw hO h0
theorem aOd {s:ByteArray} (h0:0<s.size) (hO:fS s) {k:Nat} (hk:k<s.size) {most:Int} (hm:(s.size:Int)<=most):rest (sqA s) (k:Int) (sqS s) most=(mkS (rot s (oOf s k).toNat),0):=by
 rw[wR (YA h0) (YC h0 hO) (by rw[MB h0 hO];exact hm) (by rw[MB h0 hO];omega),aOc h0 hO,Int.toNat_natCast];have:nF (oY s) k=rot s (oOf s k).toNat:=aN9 hO hk;rw[this]
theorem aOe (s:ByteArray):rot s 0=s.data.toList:=by
 unfold rot;simp
theorem YE {s:ByteArray} (h0:0<s.size) (hO:fS s) {most:Int} (hm:(s.size:Int)<=most):rest (sqA s) (sqO s) (sqS s) most=(s,0):=by
 obtain⟨h1,h2⟩:=MC h0 hO;rw[EF h0,aOd h0 hO h1 hm,h2];simp only[Int.toNat_zero,aOe,pL]
def cL (s:List UInt8) (at' room:Int):ByteArray×Int×Int×Int:=
 if at'<0\/room<1\/360<room then(cW,0,0,1)
 else if aO s.length at' 48≠0 then(cW,0,0,aO s.length at' 48)
 else if aE s at' 48≠0x314159265359 then(cW,0,0,3)
 else if aO s.length (at'+48) 32≠0 then(cW,0,0,aO s.length (at'+48) 32)
 else if aO s.length (at'+80) 16≠0 then(cW,0,0,aO s.length (at'+80) 16)
 else
  let u:=cG s (at'+96)
  if u.2.2≠0 then(cW,0,0,u.2.2)
  else
   let c:=cV s u.2.1 ((u.1.length:Int)+2)
   if c.2.2≠0 then(cW,0,0,c.2.2)
   else
    let r:=rest (mkS u.1) (aE s (at'+80) 16) c.1 room
    if r.2≠0 then(cW,0,0,r.2)
    else
     let o:=fR r.1.data.toList (52*room)
     if o.2≠0 then(cW,0,0,o.2)
     else if(fG o.1).toNat≠aE s (at'+48) 32 then(cW,0,0,7)
     else(mkS o.1,(aE s (at'+48) 32:Int),c.2.1,0)
theorem YJ {p:ByteArray} (h0:0<p.size) (hO:fS p):let n:=(bK p.data.toList).length+2
  (∀x∈sqS p,0<=x/\x<(n:Int))/\0<(sqS p).length/\(sqS p)[(sqS p).length-1]? =some ((n:Int)-1)/\(∀x∈(sqS p).take ((sqS p).length-1),x<(n:Int)-1):=by
 intro n;have he:=YB h0 hO;rw[MA h0];refine⟨fun x hx=>?_,by simp,?_,fun x hx=>?_⟩
 ·rcases cU.1 hx with hx|hx
  ·have:=he x hx;omega
  ·obtain rfl:=List.mem_singleton.1 hx;omega
 ·rw[aL,fK,jZ,List.getElem?_append_right (aA _),Nat.sub_self,List.getElem?_cons_zero]
  congr 1;omega
 ·rw[aL,fK,jZ,vN rfl] at hx;have:=he x hx;omega
structure MF (a:ByteArray) (l:List Int) (most:Int) (t:ByteArray):Prop where
 pos:0<t.size
 tm:(t.size:Int)<=most
 len:t.size=(cE l).length
 two:2<=l.length
 last:l[l.length-1]? =some ((a.size:Int)+1)
 sym:∀x∈l.take (l.length-1),0<=x/\x<(a.size:Int)+1
 asz:a.size<=256
 bK:mkS (bK (a++t).data.toList)=a
theorem aOm (a t:ByteArray):(a++t).data.toList=a.data.toList++t.data.toList:=by simp
theorem aOn {s:List UInt8} {o:Nat} (h:o<s.length):∀b∈nF s o,b∈s:=fun b hb=>by
 obtain⟨i,_,rfl⟩:=dU.1 hb;have hlt:=sU s o h (i+1);rw[aV,List.getElem?_eq_getElem hlt];exact List.getElem_mem hlt
theorem aOo (a:ByteArray) (o:Int) (l:List Int) (most:Int):
  (∃e,rest a o l most=(cW,e)/\e≠0)\/∃t,rest a o l most=(t,0)/\MF a l most t:=by
 by_cases h1:a.data.toList≠[]/\Go.Proofs.YtjkjeamepgjicaaGreatDoor.bK a.data.toList=a.data.toList
 rotate_left
 ·exact .inl ⟨1,wQ h1,by decide⟩
 by_cases h2:gW l ((a.size:Int)+1)
 rotate_left
 ·exact .inl ⟨3,zK h1 h2,by decide⟩
 by_cases h3:((cE l).length:Int)<=most
 rotate_left
 ·exact .inl ⟨4,zL h1 h2 h3,by decide⟩
 by_cases h4:0<=o/\o<((cE l).length:Int)
 rotate_left
 ·exact .inl ⟨3,zM h1 h2 h3 h4,by decide⟩
 refine .inr ⟨_,wR h1 h2 h3 h4,?_⟩;have hal:a.data.toList.length=a.size:=by rw[Array.length_toList];rfl
 have hap:0<a.size:=by rw[<-hal];exact kV.2 h1.1
 have hul:(unL a.data.toList (cE l)).length=(cE l).length:=oO _ _;have hbl:(nF (unL a.data.toList (cE l)) o.toNat).length=(cE l).length:=by rw[CN,hul]
 have hmem:∀b∈nF (unL a.data.toList (cE l)) o.toNat,b∈a.data.toList:=fun b hb=>
  IQ _ _ (by rw[hal];exact LQ h2 hap) b (aOn (by rw[hul];omega) b hb)
 refine⟨by rw[cP,hbl];omega,by rw[cP,hbl];exact h3,by rw[cP,hbl],?_,h2.2.1,h2.2.2,?_,?_⟩
 ·rcases Nat.lt_or_ge l.length 2 with q|q
  ·have e:cE l=[]:=by
    unfold cE;rw[show l.length-1=0 by omega];rfl
   rw[e] at h4;simp at h4;omega
  ·exact q
 ·rw[<-hal,<-h1.2];exact rX _
 ·rw[aOm,fW,PJ (t:=a.data.toList),h1.2,pL];intro b;rw[cU];exact⟨fun h=>h.elim id (hmem b),.inl⟩
theorem MF.own {a t:ByteArray} {l:List Int} {most:Int} (h:MF a l most t) (hO:fS t):sqE t=0/\rest (sqA t) (sqO t) (sqS t) (t.size:Int)=(t,0):=
 ⟨XZ h.pos,YE h.pos hO (lJ _)⟩
theorem YK {s:List UInt8} {at' room:Int} (h:(cL s at' room).2.2.2=0):0<=at'/\1<=room/\room<=360/\1<=(cL s at' room).1.size/\((cL s at' room).1.size:Int)<=52*room/\(cL s at' room).2.1=((fG (cL s at' room).1.data.toList).toNat:Int)/\at'+96<(cL s at' room).2.2.1/\(cL s at' room).2.2.1<=8*(s.length:Int)/\
  aE s at' 48=0x314159265359:=by
 unfold cL at h ⊢
 by_cases q0:at'<0\/room<1\/360<room
 ·rw[if_pos q0] at h;simp at h
 rw[if_neg q0] at h ⊢
 by_cases q1:aO s.length at' 48≠0
 ·rw[if_pos q1] at h;exact absurd h q1
 rw[if_neg q1] at h ⊢
 by_cases q2:aE s at' 48≠0x314159265359
 ·rw[if_pos q2] at h;simp at h
 rw[if_neg q2] at h ⊢
 by_cases q3:aO s.length (at'+48) 32≠0
 ·rw[if_pos q3] at h;exact absurd h q3
 rw[if_neg q3] at h ⊢
 by_cases q4:aO s.length (at'+80) 16≠0
 ·rw[if_pos q4] at h;exact absurd h q4
 rw[if_neg q4] at h ⊢;simp only at h ⊢;have hu:(cG s (at'+96)).2.2=0->at'+96<(cG s (at'+96)).2.1:=by
  intro e;have hb:=yE s (at'+96) 16;unfold cG at e ⊢;simp only at e ⊢
  by_cases k1:(cJ s (at'+96) 16).2.2.2≠0
  ·rw[if_pos k1] at e;exact absurd e k1
  ·rw[if_neg k1] at e ⊢
   by_cases k2:(cJ s (at'+96) 16).2.2.1=true
   ·rw[if_pos k2] at e;simp at e
   ·rw[if_neg k2];have:=(hb.2 (dK.1 k1)).1;show at'+96<(cJ s (at'+96) 16).2.1;omega
 by_cases q5:(cG s (at'+96)).2.2≠0
 ·rw[if_pos q5] at h;exact absurd h q5
 rw[if_neg q5] at h ⊢;have hu:=hu (dK.1 q5);generalize cG s (at'+96)=u at*
 by_cases q6:(cV s u.2.1 ((u.1.length:Int)+2)).2.2≠0
 ·rw[if_pos q6] at h;exact absurd h q6
 rw[if_neg q6] at h ⊢;have hc:=LG (dK.1 q6);generalize cV s u.2.1 ((u.1.length:Int)+2)=c at*
 have hk:=aOo (mkS u.1) (aE s (at'+80) 16) c.1 room
 by_cases q7:(rest (mkS u.1) (aE s (at'+80) 16) c.1 room).2≠0
 ·rw[if_pos q7] at h;exact absurd h q7
 rw[if_neg q7] at h ⊢;rcases hk with⟨e,hk,he⟩|⟨p,hk,hkp⟩
 ·rw[hk] at q7;exact absurd he q7
 rw[hk] at h ⊢;simp only at h ⊢;have hpne:p.data.toList≠[]:=fun e=>by
  have h1:p.data.toList.length=p.size:=by simp
  have h2:=hkp.pos;rw[e] at h1;simp at h1;omega
 by_cases q8:(fR p.data.toList (52*room)).2≠0
 ·rw[if_pos q8] at h;exact absurd h q8
 rw[if_neg q8] at h ⊢;have hun:=aKb hpne (dK.1 q8);generalize fR p.data.toList (52*room)=o at*
 by_cases q9:(fG o.1).toNat≠aE s (at'+48) 32
 ·rw[if_pos q9] at h;simp at h
 rw[if_neg q9];have q9:=dK.1 q9;have hpos:=kV.2 hun.1;refine⟨by omega,by omega,by omega,by rw[cP];omega,by rw[cP];exact hun.2,by rw[fW,q9],by show at'+96<c.2.1;omega,hc.2.2.2.2.2.2,dK.1 q2⟩
end
section
open Go.RowKit Go Go.Shelf
def aU8 (x b:BitVec 32):BitVec 32:=(x<<<1|||x>>>31)^^^b
def aUi (l:List (BitVec 32)):BitVec 32:=l.foldl aU8 0#32
structure Prt where
 t:ByteArray
 y:Int
 a:Int
 z:Int
 r:Int
def aU9 (l:List Prt):BitVec 32:=aUi (l.map (fun p=>BitVec.ofInt 32 p.y))
def QU (s:List UInt8) (k:Nat):Int×Int:=
 if s.length<k+4 then(0,2)
 else if(s.drop k).take 3≠[80,77,107]\/(s.getD (k+3) 0).toNat<49\/57<(s.getD (k+3) 0).toNat then(0,3)
 else(40*(((s.getD (k+3) 0).toNat:Int)-48),0)
def aUr (a:Nat):Nat:=(8-a%8)%8
def aUm (s:List UInt8) (a:Int) (v:BitVec 32):Int×Int:=
 if aO s.length (a+48) 32≠0 then(0,aO s.length (a+48) 32)
 else if aE s (a+48) 32≠v.toNat then(0,7)
 else if aE s (a+80) (aUr (a+80).toNat)≠0 then(0,3)
 else(a+80+(aUr (a+80).toNat:Int),0)
def KQ (s:List UInt8) (r:Int):Nat->Int->List Prt->List Prt×Int×Int
 |0,a,acc=>(acc,a,2)
 |f+1,a,acc=>
  if aO s.length a 48≠0 then(acc,a,aO s.length a 48)
  else if aE s a 48=0x177245385090 then(acc,(aUm s a (aU9 acc)).1,(aUm s a (aU9 acc)).2)
  else if aE s a 48≠0x314159265359 then(acc,a,3)
  else if(cL s a r).2.2.2≠0 then(acc,a,(cL s a r).2.2.2)
  else KQ s r f (cL s a r).2.2.1 (acc++[⟨(cL s a r).1,(cL s a r).2.1,a,(cL s a r).2.2.1,r⟩])
def hG (s:List UInt8) (a:Int):List Prt×Int×Int:=
 if(QU s (a/8).toNat).2≠0 then([],a,(QU s (a/8).toNat).2)
 else KQ s (QU s (a/8).toNat).1 (8*s.length+1) (a+32) []
def aUg (s:List UInt8):Nat->Int->List Prt->List Prt×Int
 |0,_,acc=>(acc,2)
 |f+1,a,acc=>
  if 8*(s.length:Int)<=a then(acc,0)
  else if(hG s a).2.2≠0 then(acc++(hG s a).1,(hG s a).2.2)
  else aUg s f (hG s a).2.1 (acc++(hG s a).1)
def hH (s:List UInt8):List Prt×Int:=if s=[] then([],3) else aUg s (8*s.length+1) 0 []
theorem aWq (a:Nat):(a+aUr a)%8=0:=by unfold aUr;omega
theorem aX8 {l:List Bool} {i:Nat} {b:Bool} (h:l[i]? =some b):l.getD i false=b:=by rw[aV,h];rfl
theorem aWr {s:List UInt8} {a:Int} {v:BitVec 32} (h:(aUm s a v).2=0):0<=a+48/\a+80<=(aUm s a v).1/\(aUm s a v).1<=8*(s.length:Int):=by
 unfold aUm at h ⊢
 by_cases q1:aO s.length (a+48) 32≠0
 ·rw[if_pos q1] at h;exact absurd h q1
 rw[if_neg q1] at h ⊢;have hg:=fQ (dK.1 q1)
 by_cases q2:aE s (a+48) 32≠v.toNat
 ·rw[if_pos q2] at h;simp at h
 rw[if_neg q2] at h ⊢
 by_cases q3:aE s (a+80) (aUr (a+80).toNat)≠0
 ·rw[if_pos q3] at h;simp at h
 rw[if_neg q3];refine⟨hg.1,by show a+80<=a+80+_;omega,?_⟩;show a+80+(aUr (a+80).toNat:Int)<=_;unfold aUr;omega
theorem aVh {s:List UInt8} {r:Int}:∀(f:Nat) (a:Int) (acc:List Prt),(KQ s r f a acc).2.2=0->a+80<=(KQ s r f a acc).2.1/\(KQ s r f a acc).2.1<=8*(s.length:Int)
 |0,_,_,h=>absurd h (by show(2:Int)≠0;decide)
 |f+1,a,acc,h=>by
  unfold KQ at h ⊢
  by_cases q1:aO s.length a 48≠0
  ·rw[if_pos q1] at h;exact absurd h q1
  rw[if_neg q1] at h ⊢
  by_cases q2:aE s a 48=0x177245385090
  ·rw[if_pos q2] at h ⊢;have:=aWr h;exact⟨this.2.1,this.2.2⟩
  rw[if_neg q2] at h ⊢
  by_cases q3:aE s a 48≠0x314159265359
  ·rw[if_pos q3] at h;exact absurd h (by show(3:Int)≠0;decide)
  rw[if_neg q3] at h ⊢
  by_cases q4:(cL s a r).2.2.2≠0
  ·rw[if_pos q4] at h;exact absurd h q4
  rw[if_neg q4] at h ⊢;have hb:=YK (dK.1 q4);have ih:=aVh f _ _ h;omega
theorem aVi {s:List UInt8} {a:Int} (h:(hG s a).2.2=0):a+112<=(hG s a).2.1/\(hG s a).2.1<=8*(s.length:Int):=by
 unfold hG at h ⊢
 by_cases q:(QU s (a/8).toNat).2≠0
 ·rw[if_pos q] at h;exact absurd h q
 rw[if_neg q] at h ⊢;have:=aVh _ _ _ h;omega
def aVa (s:List UInt8) (p:Prt):Prop:=cL s p.a p.r=(p.t,p.y,p.z,0)/\40<=p.r/\p.r<=360/\p.r%40=0
def aUu (s:List UInt8):Int->List Prt->Int->Prop
 |lo,[],hi=>lo<=hi
 |lo,p::l,hi=>lo<=p.a/\aVa s p/\aUu s p.z l hi
theorem aVa.facts {s:List UInt8} {p:Prt} (h:aVa s p):p.y=((fG p.t.data.toList).toNat:Int)/\1<=p.t.size/\(p.t.size:Int)<=52*p.r/\0<=p.a/\p.a+96<p.z/\p.z<=8*(s.length:Int):=by
 have hk:=YK (s:=s) (at':=p.a) (room:=p.r) (by rw[h.1]);rw[h.1] at hk;exact⟨hk.2.2.2.2.2.1,hk.2.2.2.1,hk.2.2.2.2.1,hk.1,hk.2.2.2.2.2.2.1,hk.2.2.2.2.2.2.2.1⟩
theorem aVu {s:List UInt8} {lo lo' hi:Int} (h:lo'<=lo):∀{l:List Prt},aUu s lo l hi->aUu s lo' l hi
 |[],k=>eC h k
 |_::_,k=>⟨eC h k.1,k.2⟩
theorem aVo {s:List UInt8} {mid hi:Int} {m:List Prt} (hm:aUu s mid m hi):∀{l:List Prt} {lo:Int},aUu s lo l mid->aUu s lo (l++m) hi
 |[],_,k=>aVu k hm
 |_::_,_,k=>⟨k.1,k.2.1,aVo hm k.2.2⟩
theorem aVv {s:List UInt8} {k:Nat} (h:(QU s k).2=0):40<=(QU s k).1/\(QU s k).1<=360/\(QU s k).1%40=0:=by
 unfold QU at h ⊢
 by_cases q1:s.length<k+4
 ·rw[if_pos q1] at h;exact absurd h (by decide)
 rw[if_neg q1] at h ⊢
 by_cases q2:(s.drop k).take 3≠[80,77,107]\/(s.getD (k+3) 0).toNat<49\/57<(s.getD (k+3) 0).toNat
 ·rw[if_pos q2] at h;exact absurd h (by decide)
 rw[if_neg q2];have a1:¬(s.getD (k+3) 0).toNat<49:=fun q=>q2 (.inr (.inl q))
 have a2:¬57<(s.getD (k+3) 0).toNat:=fun q=>q2 (.inr (.inr q))
 show 40<=40*(((s.getD (k+3) 0).toNat:Int)-48)/\40*(((s.getD (k+3) 0).toNat:Int)-48)<=360/\40*(((s.getD (k+3) 0).toNat:Int)-48)%40=0;omega
theorem aVw {s:List UInt8} {r:Int} (h1:40<=r) (h2:r<=360) (h3:r%40=0):∀(f:Nat) (a:Int) (acc:List Prt),(KQ s r f a acc).2.2=0->∃m,(KQ s r f a acc).1=acc++m/\aUu s a m (KQ s r f a acc).2.1
 |0,_,_,h=>absurd h (by show(2:Int)≠0;decide)
 |f+1,a,acc,h=>by
  have hok:=aVh (f+1) a acc h;unfold KQ at h hok ⊢
  by_cases q1:aO s.length a 48≠0
  ·rw[if_pos q1] at h;exact absurd h q1
  rw[if_neg q1] at h hok ⊢
  by_cases q2:aE s a 48=0x177245385090
  ·rw[if_pos q2] at h hok ⊢;exact⟨[],(eE _).symm,by show a<=_;omega⟩
  rw[if_neg q2] at h hok ⊢
  by_cases q3:aE s a 48≠0x314159265359
  ·rw[if_pos q3] at h;exact absurd h (by show(3:Int)≠0;decide)
  rw[if_neg q3] at h hok ⊢
  by_cases q4:(cL s a r).2.2.2≠0
  ·rw[if_pos q4] at h;exact absurd h q4
  rw[if_neg q4] at h hok ⊢;obtain⟨m,hm,hc⟩:=aVw h1 h2 h3 f _ _ h;refine⟨_::m,by rw[hm,cF];rfl,lJ _,⟨?_,h1,h2,h3⟩,hc⟩;have q4:=dK.1 q4;show cL s a r=((cL s a r).1,(cL s a r).2.1,(cL s a r).2.2.1,0);rw[<-q4]
theorem aVx {s:List UInt8} {a:Int} (h:(hG s a).2.2=0):aUu s (a+32) (hG s a).1 (hG s a).2.1:=by
 unfold hG at h ⊢
 by_cases q:(QU s (a/8).toNat).2≠0
 ·rw[if_pos q] at h;exact absurd h q
 rw[if_neg q] at h ⊢;obtain⟨r1,r2,r3⟩:=aVv (dK.1 q);obtain⟨m,hm,hc⟩:=aVw r1 r2 r3 _ _ _ h;rw[hm,iG];exact hc
theorem aVy {s:List UInt8}:∀(f:Nat) (a:Int) (acc:List Prt),a<=8*(s.length:Int)->(aUg s f a acc).2=0->∃m,(aUg s f a acc).1=acc++m/\aUu s a m (8*(s.length:Int))
 |0,_,_,_,h=>absurd h (by show(2:Int)≠0;decide)
 |f+1,a,acc,ha,h=>by
  unfold aUg at h ⊢
  by_cases q1:8*(s.length:Int)<=a
  ·rw[if_pos q1];exact⟨[],(eE _).symm,ha⟩
  rw[if_neg q1] at h ⊢
  by_cases q2:(hG s a).2.2≠0
  ·rw[if_pos q2] at h;exact absurd h q2
  rw[if_neg q2] at h ⊢;have q2:=dK.1 q2;obtain⟨m,hm,hc⟩:=aVy f _ _ (aVi q2).2 h;exact⟨(hG s a).1++m,by rw[hm,cF],aVo hc (aVu (by omega) (aVx q2))⟩
theorem aWs {s:List UInt8} (h:(hH s).2=0):aUu s 32 (hH s).1 (8*(s.length:Int)):=by
 unfold hH at h ⊢
 by_cases q:s=[]
 ·rw[if_pos q] at h;exact absurd h (by decide)
 rw[if_neg q] at h ⊢;have hl:=kV.2 q;unfold aUg at h ⊢;rw[if_neg (by omega)] at h ⊢
 by_cases q2:(hG s 0).2.2≠0
 ·rw[if_pos q2] at h;exact absurd h q2
 rw[if_neg q2] at h ⊢;have q2:=dK.1 q2;obtain⟨m,hm,hc⟩:=aVy (8*s.length) _ _ (aVi q2).2 h;rw[hm,iG];exact aVo hc (aVx q2)
def aUx:Prt:=⟨cW,0,0,0,0⟩
def okP (l:List Prt):List (Prt×Int):=l.map (fun p=>(p,0))
theorem aVj (l m:List Prt):okP (l++m)=okP l++okP m:=List.map_append
theorem aWt (p:Prt):okP [p]=[(p,0)]:=rfl
def XM (s:List UInt8):List (Prt×Int):=okP (hH s).1++if(hH s).2=0 then[] else[(aUx,(hH s).2)]
theorem aVz {s:List UInt8} {r:Int}:∀(f:Nat) (a:Int) (acc:List Prt),∃m,(KQ s r f a acc).1=acc++m
 |0,a,acc=>⟨[],by unfold KQ;rw[eE]⟩
 |f+1,a,acc=>by
  unfold KQ;split
  ·exact⟨[],by rw[eE]⟩
  split
  ·exact⟨[],by rw[eE]⟩
  split
  ·exact⟨[],by rw[eE]⟩
  split
  ·exact⟨[],by rw[eE]⟩
  ·obtain⟨m,hm⟩:=aVz (s:=s) (r:=r) f (cL s a r).2.2.1 (acc++[⟨(cL s a r).1,(cL s a r).2.1,a,(cL s a r).2.2.1,r⟩]);exact⟨_::m,by rw[hm,cF];rfl⟩
theorem aV0 {s:List UInt8}:∀(f:Nat) (a:Int) (acc:List Prt),∃m,(aUg s f a acc).1=acc++m
 |0,a,acc=>⟨[],by unfold aUg;rw[eE]⟩
 |f+1,a,acc=>by
  unfold aUg;split
  ·exact⟨[],by rw[eE]⟩
  split
  ·exact⟨_,rfl⟩
  ·obtain⟨m,hm⟩:=aV0 (s:=s) f (hG s a).2.1 (acc++(hG s a).1);exact⟨(hG s a).1++m,by rw[hm,cF]⟩
structure InT (s:List UInt8) (a:Int) (pre T:List (Prt×Int)):Prop where
 part:∀acc p m,(hG s a).1=acc++p::m->∃r,T=(pre++okP acc)++(p,0)::r
 bad:(hG s a).2.2≠0->T=(pre++okP (hG s a).1)++[(aUx,(hG s a).2.2)]
theorem aWu {s:List UInt8} {f:Nat} {a:Int} {acc:List Prt} (h:hH s=aUg s (f+1) a acc) (ha:a<8*(s.length:Int)):InT s a (okP acc) (XM s):=by
 have hu:aUg s (f+1) a acc=if 8*(s.length:Int)<=a then(acc,0) else if(hG s a).2.2≠0 then(acc++(hG s a).1,(hG s a).2.2) else aUg s f (hG s a).2.1 (acc++(hG s a).1):=rfl;rw[hu,if_neg (by omega)] at h;refine⟨fun ac p m hp=>?_,fun hb=>?_⟩
 ·have:∃r,(hH s).1=acc++(hG s a).1++r:=by
   rw[h];split
   ·exact⟨[],by rw[eE]⟩
   ·exact aV0 f _ _
  obtain⟨r,hr⟩:=this;unfold XM;rw[hr,hp];simp only[aVj,cF];exact⟨okP m++(okP r++if(hH s).2=0 then[] else[(aUx,(hH s).2)]),by simp[okP]⟩
 ·rw[if_pos hb] at h;unfold XM;rw[h];simp only
  rw[if_neg hb,aVj]
theorem aWv {s:List UInt8} {f:Nat} {a:Int} {acc:List Prt} (h:hH s=aUg s (f+1) a acc) (ha:a<8*(s.length:Int)) (hb:(hG s a).2.2=0):hH s=aUg s f (hG s a).2.1 (acc++(hG s a).1):=by
 rw[h];show(if 8*(s.length:Int)<=a then(acc,0) else if(hG s a).2.2≠0 then(acc++(hG s a).1,(hG s a).2.2) else aUg s f (hG s a).2.1 (acc++(hG s a).1))=_;rw[if_neg (by omega),if_neg (fun k=>k hb)]
theorem aWw {s:List UInt8} {f:Nat} {a:Int} {acc:List Prt} (h:hH s=aUg s (f+1) a acc) (ha:8*(s.length:Int)<=a):XM s=okP acc/\(hH s).2=0:=by
 have:hH s=(acc,0):=by
  rw[h];show(if 8*(s.length:Int)<=a then(acc,0) else if(hG s a).2.2≠0 then(acc++(hG s a).1,(hG s a).2.2) else aUg s f (hG s a).2.1 (acc++(hG s a).1))=_;rw[if_pos ha]
 unfold XM;rw[this];exact⟨by simp,rfl⟩
theorem aWx:XM []=[(aUx,3)]:=by
 have:hH []=([],3):=rfl;unfold XM;rw[this];rfl
theorem aV1 {s:List UInt8} {r:Int}:∀(f:Nat) (a:Int) (acc:List Prt),0<=a->a<=8*(s.length:Int)->96*((KQ s r f a acc).1.length:Int)+a<=96*(acc.length:Int)+8*(s.length:Int)
 |0,a,acc,_,h=>by show 96*(acc.length:Int)+a<=_;omega
 |f+1,a,acc,h0,h=>by
  unfold KQ;split
  ·show 96*(acc.length:Int)+a<=_;omega
  split
  ·show 96*(acc.length:Int)+a<=_;omega
  split
  ·show 96*(acc.length:Int)+a<=_;omega
  split
  ·show 96*(acc.length:Int)+a<=_;omega
  ·next q=>
   have hk:=YK (dK.1 q);have ih:=aV1 (s:=s) (r:=r) f (cL s a r).2.2.1 (acc++[⟨(cL s a r).1,(cL s a r).2.1,a,(cL s a r).2.2.1,r⟩]) (by omega) hk.2.2.2.2.2.2.2.1;rw[aL,fK] at ih;push_cast at ih;omega
theorem aV2 {s:List UInt8} {r:Int}:∀(f:Nat) (a:Int) (acc:List Prt),0<=a->(KQ s r f a acc).2.2=0->(KQ s r f a acc).2.1%8=0
 |0,_,_,_,h=>absurd h (by show(2:Int)≠0;decide)
 |f+1,a,acc,h0,h=>by
  unfold KQ at h ⊢
  by_cases q1:aO s.length a 48≠0
  ·rw[if_pos q1] at h;exact absurd h q1
  rw[if_neg q1] at h ⊢
  by_cases q2:aE s a 48=0x177245385090
  ·rw[if_pos q2] at h ⊢;unfold aUm at h ⊢
   by_cases r1:aO s.length (a+48) 32≠0
   ·rw[if_pos r1] at h;exact absurd h r1
   rw[if_neg r1] at h ⊢
   by_cases r2:aE s (a+48) 32≠(aU9 acc).toNat
   ·rw[if_pos r2] at h;exact absurd h (by show(7:Int)≠0;decide)
   rw[if_neg r2] at h ⊢
   by_cases r3:aE s (a+80) (aUr (a+80).toNat)≠0
   ·rw[if_pos r3] at h;exact absurd h (by show(3:Int)≠0;decide)
   rw[if_neg r3];have:=aWq (a+80).toNat;show(a+80+(aUr (a+80).toNat:Int))%8=0;omega
  rw[if_neg q2] at h ⊢
  by_cases q3:aE s a 48≠0x314159265359
  ·rw[if_pos q3] at h;exact absurd h (by show(3:Int)≠0;decide)
  rw[if_neg q3] at h ⊢
  by_cases q4:(cL s a r).2.2.2≠0
  ·rw[if_pos q4] at h;exact absurd h q4
  rw[if_neg q4] at h ⊢;have hk:=YK (dK.1 q4);exact aV2 f _ _ (by omega) h
theorem aWy {s:List UInt8} {a:Int} (h0:0<=a) (h:(hG s a).2.2=0):(hG s a).2.1%8=0:=by
 unfold hG at h ⊢
 by_cases q:(QU s (a/8).toNat).2≠0
 ·rw[if_pos q] at h;exact absurd h q
 rw[if_neg q] at h ⊢;exact aV2 _ _ _ (by omega) h
theorem aWz {s:List UInt8} {pre r:List (Prt×Int)} {x:Prt×Int} (h:XM s=pre++x::r) (hx:x.2≠0):x=(aUx,(hH s).2)/\(hH s).2≠0:=by
 have hm:x∈XM s:=by rw[h];simp
 unfold XM at hm;rcases cU.1 hm with hm|hm
 ·obtain⟨p,_,rfl⟩:=dU.1 hm;exact absurd rfl hx
 ·by_cases q:(hH s).2=0
  ·rw[if_pos q] at hm;simp at hm
  ·rw[if_neg q] at hm;exact⟨by simpa using hm,q⟩
theorem aW0 {s:List UInt8} (h:∀x∈XM s,x.2=0):(hH s).2=0/\XM s=okP (hH s).1:=by
 by_cases q:(hH s).2=0
 ·exact⟨q,by unfold XM;rw[if_pos q,eE]⟩
 ·exfalso;refine q (h (aUx,(hH s).2) ?_);unfold XM;rw[if_neg q];simp
theorem aV5 {s:List UInt8} {r:Int}:∀(f:Nat) (a:Int) (acc:List Prt),(KQ s r f a acc).2.2=0->96*((KQ s r f a acc).1.length:Int)+a+80<=96*(acc.length:Int)+(KQ s r f a acc).2.1
 |0,_,_,h=>absurd h (by show(2:Int)≠0;decide)
 |f+1,a,acc,h=>by
  have hok:=aVh (s:=s) (r:=r) (f+1) a acc h;unfold KQ at h hok ⊢
  by_cases q1:aO s.length a 48≠0
  ·rw[if_pos q1] at h;exact absurd h q1
  rw[if_neg q1] at h hok ⊢
  by_cases q2:aE s a 48=0x177245385090
  ·rw[if_pos q2] at h hok ⊢;show 96*(acc.length:Int)+a+80<=96*(acc.length:Int)+(aUm s a (aU9 acc)).1;have:a+80<=(aUm s a (aU9 acc)).1:=hok.1;omega
  rw[if_neg q2] at h hok ⊢
  by_cases q3:aE s a 48≠0x314159265359
  ·rw[if_pos q3] at h;exact absurd h (by show(3:Int)≠0;decide)
  rw[if_neg q3] at h hok ⊢
  by_cases q4:(cL s a r).2.2.2≠0
  ·rw[if_pos q4] at h;exact absurd h q4
  rw[if_neg q4] at h hok ⊢;have hk:=YK (dK.1 q4);have ih:=aV5 f _ _ h;rw[aL,fK] at ih;push_cast at ih;omega
theorem aXn {s:List UInt8} {a:Int} (_h0:0<=a) (h:(hG s a).2.2=0):96*((hG s a).1.length:Int)+a<=(hG s a).2.1:=by
 unfold hG at h ⊢
 by_cases q:(QU s (a/8).toNat).2≠0
 ·rw[if_pos q] at h;exact absurd h q
 rw[if_neg q] at h ⊢;have:=aV5 _ _ _ h;simp only[cX] at this;omega
theorem aXo {s:List UInt8} {a:Int} (h0:0<=a) (h:a<=8*(s.length:Int)):96*((hG s a).1.length:Int)+a<=8*(s.length:Int)+32:=by
 unfold hG;split
 ·show 96*(([]:List Prt).length:Int)+a<=_;simp only[cX];omega
 ·next q=>
  by_cases k:a+32<=8*(s.length:Int)
  ·have:=aV1 (s:=s) (r:=(QU s (a/8).toNat).1) (8*s.length+1) (a+32) [] (by omega) k;simp only[cX] at this;omega
  ·have:(KQ s (QU s (a/8).toNat).1 (8*s.length+1) (a+32) []).1=[]:=by
    unfold KQ;have hg:aO s.length (a+32) 48≠0:=by unfold aO;rw[if_neg (by omega),if_pos (by omega)];decide
    rw[if_pos hg]
   rw[this];simp only[cX];omega
theorem aV6 {s:List UInt8}:∀(f:Nat) (a:Int) (acc:List Prt),0<=a->a<=8*(s.length:Int)->96*((aUg s f a acc).1.length:Int)+a<=96*(acc.length:Int)+8*(s.length:Int)+32
 |0,a,acc,_,h=>by show 96*(acc.length:Int)+a<=_;omega
 |f+1,a,acc,h0,h=>by
  unfold aUg;have hd:=aXo (s:=s) h0 h;split
  ·show 96*(acc.length:Int)+a<=_;omega
  split
  ·show 96*((acc++(hG s a).1).length:Int)+a<=_;rw[aL];push_cast;omega
  ·next q=>
   have hk:=aVi (dK.1 q);have hp:=aXn (s:=s) (a:=a) h0 (dK.1 q);have ih:=aV6 (s:=s) f (hG s a).2.1 (acc++(hG s a).1) (by omega) hk.2;rw[aL] at ih;push_cast at ih;omega
theorem aV7 (s:ByteArray) {T:List (Prt×Int)} (h:T=XM s.data.toList):T.length<=8*s.size+2:=by
 have hl:s.data.toList.length=s.size:=by simp
 have:((hH s.data.toList).1.length:Int)*96<=8*(s.size:Int)+32:=by
  unfold hH;split
  ·simp;omega
  ·have:=aV6 (s:=s.data.toList) (8*s.data.toList.length+1) 0 [] (by decide) (by omega);simp only[cX] at this;rw[hl] at this ⊢;omega
 rw[h];unfold XM okP;rw[aL,List.length_map];split<;>simp<;>omega
end
end Go.Proofs.YtjkjeamepgjicaaGreatDoor
