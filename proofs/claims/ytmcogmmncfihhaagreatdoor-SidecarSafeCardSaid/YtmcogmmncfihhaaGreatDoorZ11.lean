/-
  Texts put together (part 11): the walks and the plain laws on which the statement stands.
-/
import Derived.LaidEql
import Derived.Stop.Asserts
import Derived.RowKitTokens
import Derived.Test.YtmcogmmncfihhaaGreatDoorZ10
set_option maxRecDepth 100000
set_option maxHeartbeats 12800000
set_option linter.unusedVariables false
set_option linter.unusedSimpArgs false
open Go renaming run_callFunc_extern->qB,wpAnyH_ready->fL,wpAnyH_take->aQ,wp_region_held_drew->vI
open Go.Act renaming put->aJ
open Go.AllReadyH renaming cons->fA,nil->fM
open Go.Extern.ReflectliteType renaming abiMethod->aCv,assignableTo->aCy,implements_->aTm,method->aTl,relation->GV,toType->aTk,typeOf->aCx
open Go.Extern.ReflectliteValue renaming elem->aC0,flagAddr->aCz,isNil->aCw,method->GU,methodAny->aTj,parts->AZ,set->aC1,unpack->OK,valueError->AY
open Go.Extern.Rtype renaming directlyAssignable->aTn
open Go.Instr renaming typeAssert->BA
open Go.IntKind renaming u8->pX
open Go.Proofs renaming enters_of->fN
open Go.Result renaming andThen->jB
open Go.RowKit.Below renaming refl->aB
open Go.Sem renaming run_bind->vL
open Go.Value renaming func->iR,int->bO
open Go.World renaming block_lt_of_cell?->iO,cell?_alloc_lt->OL,setCell_alloc_new->aCu
open List renaming getElem?_cons_succ->aS,getElem?_cons_zero->aP,getElem?_toArray->aR,length_pos_iff->kV,setIfInBounds_toArray->aK,set_cons_succ->aG,set_cons_zero->aH
open Nat renaming add_sub_cancel->jZ,le_refl->aA,lt_of_lt_of_le->dR
open Or renaming inl->aT
namespace Go.Proofs.YtmcogmmncfihhaaGreatDoor
section
open Go.RowKit Go.Shelf
theorem rZ {w w':World} (h:Below w.heap.size w w') (row:Option Nat):w.grownBy w' row:=⟨h.os,h.tape,h.output,h.size,fun k hk _=>h.block k hk⟩
theorem zN {a b c:World} {row:Option Nat} (h:a.grownBy b row) (k:b.grownBy c row):a.grownBy c row:=
 ⟨k.os.trans h.os,k.tape.trans h.tape,k.output.trans h.output,Nat.le_trans h.size k.size,fun i hi hne=>(k.block i (dR hi h.size) hne).trans (h.block i hi hne)⟩
theorem aMl (wb:Nat) (a:ByteArray) (o most:Int) (v lv:Value) (l:List Int) (b:ByteArray) (w:World) (ha:a.size<=256) (harr:Arr w wb 210 [.string a,.int .i64 o,v,.int .i64 most,lv,.string b]) (hr:RdI w v l) (hyes:gW l ((a.size:Int)+1)):
  Calls Tryz.prog 126 #[.pointer (some ⟨wb,0,none⟩)] w fun e w'=>e=.returned (.int .i64 0)/\w.grownBy w' (some wb)/\∃lv',Arr w' wb 210 [.string a,.int .i64 o,v,.int .i64 most,lv',.string b]/\∀W,RdI W v l->RdI W lv' (l.take (l.length-1)):=by
 obtain⟨ad,ca,rfl,hca,hma,hA⟩:=hr.open;have hma0:=hma;unfold maxLen at hma;have hlt:=harr.lt;have c2:=harr.cell (i:=2) rfl;obtain⟨m,hm⟩:∃m,l.length=m+1:=⟨l.length-1,by have:=hyes.1;omega⟩;obtain⟨b0,o0,rfl,hb0,hc0⟩:=hA (by omega);have hy:l[m]? =some ((a.size:Int)+1):=by have:=hyes.2.1;rwa[hm,jZ] at this
 have cy:=hc0 m _ hy;have r1:IntKind.i64.wrap ((l.length:Int)-1)=(m:Int):=by rw[IntKind.wrap_i64];omega
 have r2:m<=ca:=by omega
 have r3:(m:Int)<=(ca:Int):=by omega
 have r4:(0:Int)<=(m:Int):=by omega
 have r5:m<l.length:=by omega
 have r6:(m:Int)<(l.length:Int):=by omega
 have r7:decide ((m:Int)<0)=false:=decide_eq_false (by omega);have HM:=hid hm;have HC:=hid hc0;have c0:=harr.cell (i:=0) rfl;have c1:=harr.cell (i:=1) rfl;have z0:iE w wb a o (.slice (some ⟨b0,o0,none⟩) l.length ca) b0 (o0+m) ((a.size:Int)+1) (w.alloc (.cells #[.pointer (some ⟨wb,0,none⟩)] 213)):=by
  have hB:Below w.heap.size w (w.alloc (.cells #[.pointer (some ⟨wb,0,none⟩)] 213)):=(aB _ _).alloc (aA _) _;exact⟨bS _ _ _,by rw[hB.cell (p:=⟨wb,0,none⟩) hlt];exact c0,by rw[hB.cell (p:=⟨wb,1,none⟩) hlt];exact c1,by rw[hB.cell (p:=⟨wb,2,none⟩) hlt];exact c2,by rw[hB.cell (p:=⟨b0,o0+m,none⟩) hb0];exact cy,hB,by simp⟩
 have f2:(((a.size:Int)+1) != ((a.size:Int)+1))=false:=by simp
 have hfind:decide (0<=fP (lV ((a.size:Int)+1)) (l.take m))=false:=by
  refine decide_eq_false (Int.not_le.2 ((BQ (lV ((a.size:Int)+1)) (l.take m)).2.2.2 fun x hx=>?_));have:=hyes.2.2 x (by rw[HM.out,jZ];exact hx);unfold lV;rw[Bool.or_eq_false_iff,decide_eq_false_iff_not,decide_eq_false_iff_not];omega
 have HTK:=hid (EB hb0 HC.out m (by omega) hca hma0);have hpr:∀W,iE w wb a o (.slice (some ⟨b0,o0,none⟩) l.length ca) b0 (o0+m) ((a.size:Int)+1) W->EC W 150 #[.pointer (some ⟨w.heap.size,0,none⟩)] (lV ((a.size:Int)+1)) (l.take m):=fun W hW W' hW' x _=>by
  have hk:=iE.keep hW hlt hb0 hW';exact XI x w.heap.size wb a o most _ lv b W' (by omega) rfl hk.1 (harr.below hk.2.2.2.2.2.1 hlt)
 have HPR:=hid hpr;have HF:=hid hfind;have HY:=hid hy;clear hpr hfind hm hc0 hy hA;go_enter Tryz.func126,Tryz.ntmps126;go_upto_region 2 with fail;generalize w.alloc (.cells #[.pointer (some ⟨wb,0,none⟩)] 213)=wa at*
 refine vI (S:=(fun w'=>w'.cell? ⟨w.heap.size,0,none⟩=some (.pointer (some ⟨wb,0,none⟩))/\w'.cell? ⟨wb,0,none⟩=some (.string a)/\w'.cell? ⟨wb,1,none⟩=some (.int .i64 o)/\w'.cell? ⟨wb,2,none⟩=some (.slice (some ⟨b0,o0,none⟩) l.length ca)/\w'.cell? ⟨b0,o0+m,none⟩=some (.int .i64 ((a.size:Int)+1))/\Below w.heap.size w w'/\w.heap.size<w'.heap.size)) (by kernel_rfl) (iE.drew z0) (fun hHeld=>?_);refine aQ (i:=0) (oi:=?oi0) (v:=?v0) ?hi0 (by kernel_rfl) (by kernel_rfl) (by kernel_rfl) ?hq0 ?hy0 (by assumption) ?_
 case hi0=>(simp only[aR,aP];rfl)
 case hq0=>exact fun _ _ _ h=>h
 case hy0=>(refine aT ⟨by rfl,?_⟩;intro w' hSw;(try dsimp only at hSw);(try go_simp);try with_reducible rfl)
 try simp only[aJ,aK,aH,aG]
 refine aQ (i:=1) (oi:=?oi1) (v:=?v1) ?hi1 (by kernel_rfl) (by kernel_rfl) (by kernel_rfl) ?hq1 ?hy1 (by assumption) ?_
 case hi1=>(simp only[aR,aS,aP];rfl)
 case hq1=>exact fun _ _ _ h=>h
 case hy1=>(refine aT ⟨by rfl,?_⟩;intro w' hSw;(try dsimp only at hSw);(try go_simp);try with_reducible rfl)
 try simp only[aJ,aK,aH,aG]
 refine aQ (i:=2) (oi:=?oi2) (v:=?v2) ?hi2 (by kernel_rfl) (by kernel_rfl) (by kernel_rfl) ?hq2 ?hy2 (by assumption) ?_
 case hi2=>(simp only[aR,aS,aP];rfl)
 case hq2=>exact fun _ _ _ h=>h
 case hy2=>(refine aT ⟨by rfl,?_⟩;intro w' hSw;(try dsimp only at hSw);(try go_simp);try with_reducible rfl)
 try simp only[aJ,aK,aH,aG]
 refine aQ (i:=3) (oi:=?oi3) (v:=?v3) ?hi3 (by kernel_rfl) (by kernel_rfl) (by kernel_rfl) ?hq3 ?hy3 (by assumption) ?_
 case hi3=>(simp only[aR,aS,aP];rfl)
 case hq3=>exact fun _ _ _ h=>h
 case hy3=>(refine aT ⟨by rfl,?_⟩;intro w' hSw;(try dsimp only at hSw);(try go_simp);try with_reducible rfl)
 try simp only[aJ,aK,aH,aG]
 refine aQ (i:=4) (oi:=?oi4) (v:=?v4) ?hi4 (by kernel_rfl) (by kernel_rfl) (by kernel_rfl) ?hq4 ?hy4 (by assumption) ?_
 case hi4=>(simp only[aR,aS,aP];rfl)
 case hq4=>exact fun _ _ _ h=>h
 case hy4=>(refine aT ⟨by rfl,?_⟩;intro w' hSw;(try dsimp only at hSw);(try go_simp);try with_reducible rfl)
 try simp only[aJ,aK,aH,aG]
 refine aQ (i:=5) (oi:=?oi5) (v:=?v5) ?hi5 (by kernel_rfl) (by kernel_rfl) (by kernel_rfl) ?hq5 ?hy5 (by assumption) ?_
 case hi5=>(simp only[aR,aS,aP];rfl)
 case hq5=>exact fun _ _ _ h=>h
 case hy5=>(refine aT ⟨by rfl,?_⟩;intro w' hSw;(try dsimp only at hSw);(try go_simp);try with_reducible rfl)
 try simp only[aJ,aK,aH,aG]
 refine aQ (i:=6) (oi:=?oi6) (v:=?v6) ?hi6 (by kernel_rfl) (by kernel_rfl) (by kernel_rfl) ?hq6 ?hy6 (by assumption) ?_
 case hi6=>(simp only[aR,aS,aP];rfl)
 case hq6=>exact fun _ _ _ h=>h
 case hy6=>(refine aT ⟨by rfl,?_⟩;intro w' hSw;(try dsimp only at hSw);(try go_simp);try with_reducible rfl)
 try simp only[aJ,aK,aH,aG]
 refine aQ (i:=7) (oi:=?oi7) (v:=?v7) ?hi7 (by kernel_rfl) (by kernel_rfl) (by kernel_rfl) ?hq7 ?hy7 (by assumption) ?_
 case hi7=>(simp only[aR,aS,aP];rfl)
 case hq7=>exact fun _ _ _ h=>h
 case hy7=>(refine aT ⟨by rfl,?_⟩;intro w' hSw;(try dsimp only at hSw);(try go_simp);try with_reducible rfl)
 try simp only[aJ,aK,aH,aG]
 refine aQ (i:=8) (oi:=?oi8) (v:=?v8) ?hi8 (by kernel_rfl) (by kernel_rfl) (by kernel_rfl) ?hq8 ?hy8 (by assumption) ?_
 case hi8=>(simp only[aR,aS,aP];rfl)
 case hq8=>exact fun _ _ _ h=>h
 case hy8=>(refine aT ⟨by rfl,?_⟩;intro w' hSw;(try dsimp only at hSw);(try go_simp);try with_reducible rfl)
 try simp only[aJ,aK,aH,aG]
 refine aQ (i:=9) (oi:=?oi9) (v:=?v9) ?hi9 (by kernel_rfl) (by kernel_rfl) (by kernel_rfl) ?hq9 ?hy9 (by assumption) ?_
 case hi9=>(simp only[aR,aS,aP];rfl)
 case hq9=>exact fun _ _ _ h=>h
 case hy9=>(refine aT ⟨by rfl,?_⟩;intro w' hSw;(try dsimp only at hSw);(try go_simp);try with_reducible rfl)
 try simp only[aJ,aK,aH,aG]
 refine aQ (i:=10) (oi:=?oi10) (v:=?v10) ?hi10 (by kernel_rfl) (by kernel_rfl) (by kernel_rfl) ?hq10 ?hy10 (by assumption) ?_
 case hi10=>(simp only[aR,aS,aP];rfl)
 case hq10=>exact fun _ _ _ h=>h
 case hy10=>(refine aT ⟨by rfl,?_⟩;intro w' hSw;(try dsimp only at hSw);(try go_simp);try with_reducible rfl)
 try simp only[aJ,aK,aH,aG]
 refine aQ (i:=11) (oi:=?oi11) (v:=?v11) ?hi11 (by kernel_rfl) (by kernel_rfl) (by kernel_rfl) ?hq11 ?hy11 (by assumption) ?_
 case hi11=>(simp only[aR,aS,aP];rfl)
 case hq11=>exact fun _ _ _ h=>h
 case hy11=>(refine aT ⟨by rfl,?_⟩;intro w' hSw;(try dsimp only at hSw);(try go_simp);try with_reducible rfl)
 try simp only[aJ,aK,aH,aG]
 refine aQ (i:=12) (oi:=?oi12) (v:=?v12) ?hi12 (by kernel_rfl) (by kernel_rfl) (by kernel_rfl) ?hq12 ?hy12 (by assumption) ?_
 case hi12=>(simp only[aR,aS,aP];rfl)
 case hq12=>exact fun _ _ _ h=>h
 case hy12=>(refine aT ⟨by rfl,?_⟩;intro w' hSw;(try dsimp only at hSw);(try go_simp);try with_reducible rfl)
 try simp only[aJ,aK,aH,aG]
 refine aQ (i:=13) (oi:=?oi13) (v:=?v13) ?hi13 (by kernel_rfl) (by kernel_rfl) (by kernel_rfl) ?hq13 ?hy13 (by assumption) ?_
 case hi13=>(simp only[aR,aS,aP];rfl)
 case hq13=>exact fun _ _ _ h=>h
 case hy13=>(refine aT ⟨by rfl,?_⟩;intro w' hSw;(try dsimp only at hSw);(try go_simp);try with_reducible rfl)
 try simp only[aJ,aK,aH,aG]
 refine aQ (i:=14) (oi:=?oi14) (v:=?v14) ?hi14 (by kernel_rfl) (by kernel_rfl) (by kernel_rfl) ?hq14 ?hy14 (by assumption) ?_
 case hi14=>(simp only[aR,aS,aP];rfl)
 case hq14=>exact fun _ _ _ h=>h
 case hy14=>(refine aT ⟨by rfl,?_⟩;intro w' hSw;(try dsimp only at hSw);(try go_simp);try with_reducible rfl)
 try simp only[aJ,aK,aH,aG]
 refine fL (rs:=[15]) (by kernel_rfl) (by simp) ?_;refine fA rfl (fun K hK=>?_) ?_
 rotate_left
 ·exact fM
 go_simp
 go_at_call 118
 refine(wP a o _ rfl _ (by omega)).mono ?_;rintro e w' ⟨rfl,hb⟩
 (try go_wp2_with fail)
 refine hK.out _ _ (iE.keep (by assumption) hlt hb0 hb) (fun hHeld2=>?_);clear hK K
 try simp only[aJ,aK,aH,aG]
 refine aQ (i:=16) (oi:=?oi16) (v:=?v16) ?hi16 (by kernel_rfl) (by kernel_rfl) (by kernel_rfl) ?hq16 ?hy16 (by assumption) ?_
 case hi16=>(simp only[aR,aS,aP];rfl)
 case hq16=>exact fun _ _ _ h=>h
 case hy16=>(refine aT ⟨by rfl,?_⟩;intro w' hSw;(try dsimp only at hSw);(try go_simp);try with_reducible rfl)
 try simp only[aJ,aK,aH,aG]
 refine aQ (i:=17) (oi:=?oi17) (v:=?v17) ?hi17 (by kernel_rfl) (by kernel_rfl) (by kernel_rfl) ?hq17 ?hy17 (by assumption) ?_
 case hi17=>(simp only[aR,aS,aP];rfl)
 case hq17=>exact fun _ _ _ h=>h
 case hy17=>(refine aT ⟨by rfl,?_⟩;intro w' hSw;(try dsimp only at hSw);(try go_simp);try with_reducible rfl)
 try simp only[aJ,aK,aH,aG]
 refine aQ (i:=18) (oi:=?oi18) (v:=?v18) ?hi18 (by kernel_rfl) (by kernel_rfl) (by kernel_rfl) ?hq18 ?hy18 (by assumption) ?_
 case hi18=>(simp only[aR,aS,aP];rfl)
 case hq18=>exact fun _ _ _ h=>h
 case hy18=>(refine aT ⟨by rfl,?_⟩;intro w' hSw;(try dsimp only at hSw);(try go_simp);try with_reducible rfl)
 try simp only[aJ,aK,aH,aG]
 refine aQ (i:=19) (oi:=?oi19) (v:=?v19) ?hi19 (by kernel_rfl) (by kernel_rfl) (by kernel_rfl) ?hq19 ?hy19 (by assumption) ?_
 case hi19=>(simp only[aR,aS,aP];rfl)
 case hq19=>exact fun _ _ _ h=>h
 case hy19=>(refine aT ⟨by rfl,?_⟩;intro w' hSw;(try dsimp only at hSw);(try go_simp);try with_reducible rfl)
 try simp only[aJ,aK,aH,aG]
 refine aQ (i:=20) (oi:=?oi20) (v:=?v20) ?hi20 (by kernel_rfl) (by kernel_rfl) (by kernel_rfl) ?hq20 ?hy20 (by assumption) ?_
 case hi20=>(simp only[aR,aS,aP];rfl)
 case hq20=>exact fun _ _ _ h=>h
 case hy20=>(refine aT ⟨by rfl,?_⟩;intro w' hSw;(try dsimp only at hSw);(try go_simp);try with_reducible rfl)
 try simp only[aJ,aK,aH,aG]
 refine aQ (i:=21) (oi:=?oi21) (v:=?v21) ?hi21 (by kernel_rfl) (by kernel_rfl) (by kernel_rfl) ?hq21 ?hy21 (by assumption) ?_
 case hi21=>(simp only[aR,aS,aP];rfl)
 case hq21=>exact fun _ _ _ h=>h
 case hy21=>(refine aT ⟨by rfl,?_⟩;intro w' hSw;(try dsimp only at hSw);(try go_simp);try with_reducible rfl)
 try simp only[aJ,aK,aH,aG]
 refine aQ (i:=22) (oi:=?oi22) (v:=?v22) ?hi22 (by kernel_rfl) (by kernel_rfl) (by kernel_rfl) ?hq22 ?hy22 (by assumption) ?_
 case hi22=>(simp only[aR,aS,aP];rfl)
 case hq22=>exact fun _ _ _ h=>h
 case hy22=>(refine aT ⟨by rfl,?_⟩;intro w' hSw;(try dsimp only at hSw);(try go_simp);try with_reducible rfl)
 try simp only[aJ,aK,aH,aG]
 refine aQ (i:=23) (oi:=?oi23) (v:=?v23) ?hi23 (by kernel_rfl) (by kernel_rfl) (by kernel_rfl) ?hq23 ?hy23 (by assumption) ?_
 case hi23=>(simp only[aR,aS,aP];rfl)
 case hq23=>exact fun _ _ _ h=>h
 case hy23=>(refine aT ⟨by rfl,?_⟩;intro w' hSw;(try dsimp only at hSw);(try go_simp);try with_reducible rfl)
 try simp only[aJ,aK,aH,aG]
 refine aQ (i:=24) (oi:=?oi24) (v:=?v24) ?hi24 (by kernel_rfl) (by kernel_rfl) (by kernel_rfl) ?hq24 ?hy24 (by assumption) ?_
 case hi24=>(simp only[aR,aS,aP];rfl)
 case hq24=>exact fun _ _ _ h=>h
 case hy24=>(refine aT ⟨by rfl,?_⟩;intro w' hSw;(try dsimp only at hSw);(try go_simp);try with_reducible rfl)
 try simp only[aJ,aK,aH,aG]
 refine aQ (i:=25) (oi:=?oi25) (v:=?v25) ?hi25 (by kernel_rfl) (by kernel_rfl) (by kernel_rfl) ?hq25 ?hy25 (by assumption) ?_
 case hi25=>(simp only[aR,aS,aP];rfl)
 case hq25=>exact fun _ _ _ h=>h
 case hy25=>(refine aT ⟨by rfl,?_⟩;intro w' hSw;(try dsimp only at hSw);(try go_simp);try with_reducible rfl)
 try simp only[aJ,aK,aH,aG]
 refine aQ (i:=26) (oi:=?oi26) (v:=?v26) ?hi26 (by kernel_rfl) (by kernel_rfl) (by kernel_rfl) ?hq26 ?hy26 (by assumption) ?_
 case hi26=>(simp only[aR,aS,aP];rfl)
 case hq26=>exact fun _ _ _ h=>h
 case hy26=>(refine aT ⟨by rfl,?_⟩;intro w' hSw;(try dsimp only at hSw);(try go_simp);try with_reducible rfl)
 try simp only[aJ,aK,aH,aG]
 refine fL (rs:=[27]) (by kernel_rfl) (by simp) ?_;refine fA rfl (fun K hK=>?_) ?_
 rotate_left
 ·exact fM
 go_simp
 go_at_call 149
 refine(XH _ _ (lV ((a.size:Int)+1)) _ (l.take m) _ (HTK.out.below (show iE w wb a o _ b0 (o0+m) _ _ by assumption).2.2.2.2.2.1) (fN Tryz.func150 rfl rfl) (HPR.out _ (by assumption))).mono ?_;rintro e w3 ⟨rfl,hb3⟩;rw[HF.out]
 (try go_wp2_with fail)
 refine hK.out _ _ (iE.keep (by assumption) hlt hb0 hb3) (fun hHeld3=>?_);clear hK K
 try simp only[aJ,aK,aH,aG]
 refine aQ (i:=28) (oi:=?oi28) (v:=?v28) ?hi28 (by kernel_rfl) (by kernel_rfl) (by kernel_rfl) ?hq28 ?hy28 (by assumption) ?_
 case hi28=>(simp only[aR,aS,aP];rfl)
 case hq28=>exact fun _ _ _ h=>h
 case hy28=>(refine aT ⟨by rfl,?_⟩;intro w' hSw;(try dsimp only at hSw);(try go_simp);try with_reducible rfl)
 try simp only[aJ,aK,aH,aG]
 refine wpAnyH_done (by kernel_rfl) ?_ _;clear hHeld hHeld2;obtain⟨k0,k1,k2,k3,k4,k5,k6⟩:=hHeld3;have har3:=harr.below k5 hlt;have k7:=har3.cell (i:=4) rfl;have k8:=har3.free;clear hb3 hb harr z0;go_upto_region 4 with fail
 go_still_tail 10,(by kernel_rfl)
 change wpList _ _ _ _ _ w3.drew;have har4:Arr w3.drew wb 210 _:=har3;have k0':w3.drew.cell? ⟨w.heap.size,0,none⟩=some (.pointer (some ⟨wb,0,none⟩)):=k0;have k7':w3.drew.cell? ⟨wb,4,none⟩=some lv:=k7;have k8':∀i,w3.drew.frozen? ⟨wb,i,none⟩=false:=k8;have k5':Below w.heap.size w w3.drew:=k5.drew;generalize w3.drew=w4 at*
 clear har3 k0 k1 k2 k3 k4 k5 k6 k7 k8;go_wp2_with fail;go_ret;exact⟨rfl,nK (rZ k5' _) 4 _,_,har4.set 4 _,fun W hW=>by
  obtain⟨b1,o1,e1,hb1,hc1⟩:=WZ hW (by omega);obtain⟨rfl,rfl⟩:b0=b1/\o0=o1:=by simpa using e1
  rw[HM.out,jZ];exact EB hb1 hc1 m (by omega) hca hma0⟩
theorem LS (x:Int) (w:World):Calls Tryz.prog 125 #[.int .i64 x] w fun e w'=>e=.returned (.int .i64 x)/\w'=w:=by
 go_enter Tryz.func125,Tryz.ntmps125;go_wp2_with fail;go_ret;exact⟨rfl,rfl⟩
theorem XJ (x:Int) (w:World):Calls Tryz.prog 129 #[.int .i64 x] w fun e w'=>e=.returned (.int .i64 (if x=0 then 0 else 3))/\w'=w:=by
 by_cases h:x=0
 ·subst h;go_enter Tryz.func129,Tryz.ntmps129;go_wp2_with fail;go_ret;exact⟨rfl,rfl⟩
 ·have t1:(x != 0)=true:=by simpa using h
  rw[if_neg h];go_enter Tryz.func129,Tryz.ntmps129;go_wp2_with fail;go_ret;exact⟨rfl,rfl⟩
theorem LT {w w1:World} {wb:Nat} (hb:Below w.heap.size w w1) (i:Nat) (v:Value):w.grownBy (w1.setCell ⟨wb,i,none⟩ v) (some wb):=nK (rZ hb _) i v
theorem OwI.setW {w w1:World} {B wb:Nat} {v:Value} {l:List Int} (h:OwI w1 B v l) (hl:wb<w.heap.size) (hB:w.heap.size<=B) (i:Nat) (x:Value):RdI (w1.setCell ⟨wb,i,none⟩ x) v l:=
 (h.setLow (p:=⟨wb,i,none⟩) (dR hl hB) x).rd
theorem aMm (wb:Nat) (a:ByteArray) (o most:Int) (v lv:Value) (m:List Int) (b:ByteArray) (w:World) (harr:Arr w wb 210 [.string a,.int .i64 o,v,.int .i64 most,lv,.string b]) (hr:RdI w lv m) (hlen:m.length<=1000000) (hv:∀x∈m,0<=x/\x<=1000000) (hm1: -9223372036854775808<=most) (hm2:most<=1000000):
  Calls Tryz.prog 127 #[.pointer (some ⟨wb,0,none⟩)] w fun e w'=>e=.returned (.int .i64 (nZ m most))/\w.grownBy w' (some wb)/\∃lv',Arr w' wb 210 [.string a,.int .i64 o,v,.int .i64 most,lv',.string b]/\RdI w' lv' (oX m most):=by
 obtain⟨ad,ca,rfl,hca,hma,_⟩:=hr.open;have hlt:=harr.lt;have c3:=harr.cell (i:=3) rfl;have c4:=harr.cell (i:=4) rfl;have HD:∀W:World,RdI W (.slice ad m.length ca) m->Hid (Calls Tryz.prog 151 #[.slice ad m.length ca,.int .i64 most] W fun e w'=>∃v',e=.returned (.tuple #[v',.int .i64 (nZ m most)])/\OwI w' W.heap.size v' (oX m most)/\Below W.heap.size W w'):=fun W hW=>hid (aLy _ m most W hW hlen hv hm1 hm2)
 have hrd:RdI w.drew (.slice ad m.length ca) m:=hr;clear hlen hv hm1 hm2;go_enter Tryz.func127,Tryz.ntmps127;go_upto_region 1 with fail
 go_region_with (go_at_call 151;refine((HD _ (by assumption)).out).mono ?_;rintro e w1 ⟨v',rfl,hown,hb⟩;obtain⟨a3,k3,e3,_,_,_⟩:=hown.rd.open;subst e3;have hb':Below w.heap.size w w1:=(aB _ _).drew.trans hb;have hown':OwI w1 w.heap.size _ _:=hown;have k:=harr.below hb' hlt;have k4:=k.cell (i:=4) rfl;have k5:=k.free)
 all_goals go_wp2_with fail
 all_goals go_ret
 all_goals exact⟨rfl,LT hb' 4 _,_,k.set 4 _,hown'.setW hlt (aA _) 4 _⟩
theorem aMn (wb:Nat) (a:ByteArray) (o most:Int) (v lv:Value) (b:ByteArray) (w:World) (harr:Arr w wb 210 [.string a,.int .i64 o,v,.int .i64 most,lv,.string b]) (hr:RdI w lv []):
  Calls Tryz.prog 128 #[.pointer (some ⟨wb,0,none⟩)] w fun e w'=>e=.returned (.int .i64 3)/\w'=w:=by
 obtain⟨ad,ca,rfl,_,_,_⟩:=hr.open;have c4:=harr.cell (i:=4) rfl;go_enter Tryz.func128,Tryz.ntmps128;go_wp2_with fail;go_ret;exact⟨rfl,rfl⟩
theorem aMo (wb:Nat) (a:ByteArray) (o most:Int) (v lv:Value) (m:List Int) (b:ByteArray) (w:World) (harr:Arr w wb 210 [.string a,.int .i64 o,v,.int .i64 most,lv,.string b]) (hr:RdI w lv m) (h0:0<m.length) (ha:a.size<=1000) (hl:m.length<=1000000) (hn:a.data.toList.Nodup) (hx:∀x∈m,0<=x/\x<(a.size:Int)):
  Calls Tryz.prog 128 #[.pointer (some ⟨wb,0,none⟩)] w fun e w'=>e=.returned (.int .i64 0)/\w.grownBy w' (some wb)/\Arr w' wb 210 [.string a,.int .i64 o,v,.int .i64 most,lv,.string (mkS (unL a.data.toList m))]:=by
 obtain⟨ad,ca,rfl,_,_,_⟩:=hr.open;have hlt:=harr.lt;have c0:=harr.cell (i:=0) rfl;have c4:=harr.cell (i:=4) rfl;have t1:((m.length:Int)==0)=false:=by rw[beq_eq_false_iff_ne];omega
 have t2:decide (m.length=0)=false:=decide_eq_false (by omega);have HD:∀W:World,RdI W (.slice ad m.length ca) m->Hid (Calls Tryz.prog 152 #[.string a,.slice ad m.length ca] W fun e w'=>e=.returned (.tuple #[.string (mkS (unL a.data.toList m)),.int .i64 0])/\Below W.heap.size W w'):=fun W hW=>hid (aK5 a _ m W ha hl hn hW hx)
 have hrd:RdI w.drew (.slice ad m.length ca) m:=hr;clear ha hl hn hx;go_enter Tryz.func128,Tryz.ntmps128;go_upto_region 3 with fail
 go_region_with (go_at_call 152;refine((HD _ (by assumption)).out).mono ?_;rintro e w1 ⟨rfl,hb⟩;have hb':Below w.heap.size w w1:=(aB _ _).drew.trans hb;have k:=harr.below hb' hlt;have k4:=k.cell (i:=5) rfl;have k5:=k.free)
 all_goals go_wp2_with fail
 all_goals go_ret
 all_goals exact⟨rfl,LT hb' 5 _,k.set 5 _⟩
theorem aMp (wb:Nat) (a:ByteArray) (o most:Int) (v lv:Value) (b:ByteArray) (w:World) (harr:Arr w wb 210 [.string a,.int .i64 o,v,.int .i64 most,lv,.string b]) (hb:b.size<=1000000000) (ho1: -9223372036854775808<=o) (ho2:o<=9223372036854775807):
  Calls Tryz.prog 130 #[.pointer (some ⟨wb,0,none⟩)] w fun e w'=>e=.returned (.int .i64 (nW b.data.toList o))/\w.grownBy w' (some wb)/\Arr w' wb 210 [.string a,.int .i64 o,v,.int .i64 most,lv,.string (mkS (lE b.data.toList o))]:=by
 have hlt:=harr.lt;have c1:=harr.cell (i:=1) rfl;have c5:=harr.cell (i:=5) rfl;have HD:∀W:World,Hid (Calls Tryz.prog 153 #[.string b,.int .i64 o] W fun e w'=>e=.returned (.tuple #[.string (mkS (lE b.data.toList o)),.int .i64 (nW b.data.toList o)])/\Below W.heap.size W w'):=fun W=>hid (aMb b o W hb ho1 ho2)
 clear hb ho1 ho2;go_enter Tryz.func130,Tryz.ntmps130;go_upto_region 1 with fail
 go_region_with (go_at_call 153;refine((HD _).out).mono ?_;rintro e w1 ⟨rfl,hb⟩;have hb':Below w.heap.size w w1:=(aB _ _).drew.trans hb;have k:=harr.below hb' hlt;have k4:=k.cell (i:=5) rfl;have k5:=k.free)
 all_goals go_wp2_with fail
 all_goals go_ret
 all_goals exact⟨rfl,LT hb' 5 _,k.set 5 _⟩
def LU (w:World) (wb:Nat) (E:Nat->Int) (S:Nat->World->Prop) (e:Ending) (w':World):Prop:=
 w.grownBy w' (some wb)/\((∃k,k<5/\E k≠0/\(∀j,j<k->E j=0)/\e=.returned (.iface 247 (.agg #[.int .i64 (k:Int),.iface 211 (.int .i64 (E k))])))\/((∀j,j<5->E j=0)/\S 5 w'/\e=.returned .nilIface))
theorem aMq {w w':World} {wb:Nat} {E:Nat->Int} {S:Nat->World->Prop} {k:Nat} (hg:w.grownBy w' (some wb)) (hk:k<5) (hE:E k≠0) (hj:∀j,j<k->E j=0):LU w wb E S (.returned (.iface 247 (.agg #[.int .i64 (k:Int),.iface 211 (.int .i64 (E k))]))) w':=⟨hg,.inl ⟨k,hk,hE,hj,rfl⟩⟩
theorem aMr {w w':World} {wb:Nat} {E:Nat->Int} {S:Nat->World->Prop} (hg:w.grownBy w' (some wb)) (hj:∀j,j<5->E j=0) (hS:S 5 w'):LU w wb E S (.returned .nilIface) w':=⟨hg,.inr ⟨hj,hS,rfl⟩⟩
abbrev sA (W:World) (wb sx d y:Nat) (w':World):Prop:=w'.cell? ⟨sx,0,none⟩=some (iR (.func d) #[] #[])/\w'.cell? ⟨sx,1,none⟩=some (iR (.func y) #[] #[])/\W.grownBy w' (some wb)/\sx<w'.heap.size
theorem sA.drew {W w:World} {wb sx d y:Nat} (h:sA W wb sx d y w):sA W wb sx d y w.drew:=⟨h.1,h.2.1,zN h.2.2.1 ⟨rfl,rfl,rfl,aA _,fun _ _ _=>rfl⟩,h.2.2.2⟩
theorem sA.keep {W w w':World} {wb sx d y:Nat} (h:sA W wb sx d y w) (hne:sx≠wb) (hg:w.grownBy w' (some wb)):sA W wb sx d y w':=
 ⟨hg.cell h.1 (by simpa using hne),hg.cell h.2.1 (by simpa using hne),zN h.2.2.1 hg,dR h.2.2.2 hg.size⟩
theorem aMs (wb sb:Nat) (w:World) (dF yF:Nat->Nat) (D E:Nat->Int) (S:Nat->World->Prop)
  (hc:∀k,k<5->w.cell? ⟨sb,k*2,none⟩=some (iR (.func (dF k)) #[] #[])/\w.cell? ⟨sb,k*2+1,none⟩=some (iR (.func (yF k)) #[] #[])) (hne:sb≠wb) (hwb:wb<w.heap.size)
  (hdE:∀k,k<5->Enters Tryz.prog (dF k)) (hyE:∀k,k<5->Enters Tryz.prog (yF k))
  (hd:∀k,k<5->∀W,S k W->w.grownBy W (some wb)->(∀j,j<k->E j=0)->Calls Tryz.prog (dF k) #[.pointer (some ⟨wb,0,none⟩)] W fun e W'=>e=.returned (.int .i64 (D k))/\W.grownBy W' (some wb)/\(E k=0->S (k+1) W'))
  (hy:∀k,k<5->∀W,Calls Tryz.prog (yF k) #[.int .i64 (D k)] W fun e W'=>e=.returned (.int .i64 (E k))/\W'=W)
  (hS:∀k W W',S k W->Below W.heap.size W W'->S k W') (h0:S 0 w):
  Calls Tryz.prog 123 #[.pointer (some ⟨wb,0,none⟩),.slice (some ⟨sb,0,none⟩) 5 5] w (LU w wb E S):=by
 have HC:=hid hc;have HDE:=hid hdE;have HYE:=hid hyE;have HD:=hid hd;have HY:=hid hy;have HS:=hid hS;clear hc hdE hyE hd hy hS;go_enter Tryz.func123,Tryz.ntmps123;go_wp2_with fail
 go_loopg [10,5,6,7] 5 (fun gh s10 _s5 _s6 _s7 wr=>∃k:Nat,k<=5/\gh=5-k/\s10=.int .i64 k/\S k wr/\w.grownBy wr (some wb)/\Hid (∀j,j<k->E j=0))
 case atStart=>exact⟨0,by omega,rfl,rfl,h0,rZ (aB _ _) _,hid (fun j hj=>by omega)⟩
 case round=>
  obtain⟨k,hk,hg,rfl,hSk,hgr,HJ⟩:=hrel;have HG:=hid hg;clear hg
  by_cases hlt:k<5
  ·obtain⟨p1,p2⟩:=HC.out k hlt;have c1:=hgr.cell p1 (by simpa using hne);have c2:=hgr.cell p2 (by simpa using hne);obtain⟨d,hdd⟩:∃d,d=dF k:=⟨_,rfl⟩;obtain⟨y,hyy⟩:∃y,y=yF k:=⟨_,rfl⟩;obtain⟨xD,hxD⟩:∃x,x=D k:=⟨_,rfl⟩;obtain⟨xE,hxE⟩:∃x,x=E k:=⟨_,rfl⟩;have hE1:∀args W,(callFunc d args).run Tryz.prog W=.ok (.enter d args) W:=by rw[hdd];exact HDE.out k hlt
   have hE2:∀args W,(callFunc y args).run Tryz.prog W=.ok (.enter y args) W:=by rw[hyy];exact HYE.out k hlt
   have HDk:Hid (∀W,S k W->w.grownBy W (some wb)->Calls Tryz.prog d #[.pointer (some ⟨wb,0,none⟩)] W fun e W'=>e=.returned (.int .i64 xD)/\W.grownBy W' (some wb)/\(xE=0->S (k+1) W')):=hid (fun W h1 h2=>by rw[hdd,hxD,hxE];exact HD.out k hlt W h1 h2 HJ.out);have HYk:Hid (∀W,Calls Tryz.prog y #[.int .i64 xD] W fun e W'=>e=.returned (.int .i64 xE)/\W'=W):=hid (fun W=>by rw[hyy,hxD,hxE];exact HY.out k hlt W);rw[<-hdd] at c1;rw[<-hyy] at c2;have HXE:=hid hxE;clear hdd hyy hxD hxE p1 p2
   have s1:(store ⟨wr.heap.size,0,none⟩ (iR (.func d) #[] #[])).run Tryz.prog (wr.alloc (.cells #[.nilFunc,.nilFunc] 217))=.ok () (wr.alloc (.cells #[iR (.func d) #[] #[],.nilFunc] 217)):=by
    rw[run_store _ _ _ _ _ rfl];simp[aCu]
   have s2:(store ⟨wr.heap.size,1,none⟩ (iR (.func y) #[] #[])).run Tryz.prog (wr.alloc (.cells #[iR (.func d) #[] #[],.nilFunc] 217))=.ok () (wr.alloc (.cells #[iR (.func d) #[] #[],iR (.func y) #[] #[]] 217)):=by
    rw[run_store _ _ _ _ _ rfl];simp[aCu]
   go_upto_region 4 with fail;have z0:sA w wb wr.heap.size d y (wr.alloc (.cells #[iR (.func d) #[] #[],iR (.func y) #[] #[]] 217)):=by
    have ha:=Arr.new wr 217 [iR (.func d) #[] #[],iR (.func y) #[] #[]];exact⟨ha.cell (i:=0) rfl,ha.cell (i:=1) rfl,zN hgr (rZ ((aB _ _).alloc (aA _) _) _),by simp⟩
   have z1:S k (wr.alloc (.cells #[iR (.func d) #[] #[],iR (.func y) #[] #[]] 217)).drew:=HS.out k _ _ hSk ((aB _ _).alloc (aA _) _).drew;have hnx:wr.heap.size≠wb:=by have:=hgr.size;omega
   generalize wr.alloc (.cells #[iR (.func d) #[] #[],iR (.func y) #[] #[]] 217)=wa at*
   refine vI (S:=(fun w'=>w'.cell? ⟨wr.heap.size,0,none⟩=some (iR (.func d) #[] #[])/\w'.cell? ⟨wr.heap.size,1,none⟩=some (iR (.func y) #[] #[])/\w.grownBy w' (some wb)/\wr.heap.size<w'.heap.size)) (by kernel_rfl) (sA.drew z0) (fun hHeld=>?_);refine aQ (i:=0) (oi:=?oi0) (v:=?v0) ?hi0 (by kernel_rfl) (by kernel_rfl) (by kernel_rfl) ?hq0 ?hy0 (by assumption) ?_
   case hi0=>(simp only[aR,aP];rfl)
   case hq0=>exact fun _ _ _ h=>h
   case hy0=>(refine aT ⟨by rfl,?_⟩;intro w' hSw;(try dsimp only at hSw);(try go_simp);try with_reducible rfl)
   try simp only[aJ,aK,aH,aG]
   refine aQ (i:=1) (oi:=?oi1) (v:=?v1) ?hi1 (by kernel_rfl) (by kernel_rfl) (by kernel_rfl) ?hq1 ?hy1 (by assumption) ?_
   case hi1=>(simp only[aR,aS,aP];rfl)
   case hq1=>exact fun _ _ _ h=>h
   case hy1=>(refine aT ⟨by rfl,?_⟩;intro w' hSw;(try dsimp only at hSw);(try go_simp);try with_reducible rfl)
   try simp only[aJ,aK,aH,aG]
   refine aQ (i:=2) (oi:=?oi2) (v:=?v2) ?hi2 (by kernel_rfl) (by kernel_rfl) (by kernel_rfl) ?hq2 ?hy2 (by assumption) ?_
   case hi2=>(simp only[aR,aS,aP];rfl)
   case hq2=>exact fun _ _ _ h=>h
   case hy2=>(refine aT ⟨by rfl,?_⟩;intro w' hSw;(try dsimp only at hSw);(try go_simp);try with_reducible rfl)
   try simp only[aJ,aK,aH,aG]
   refine aQ (i:=3) (oi:=?oi3) (v:=?v3) ?hi3 (by kernel_rfl) (by kernel_rfl) (by kernel_rfl) ?hq3 ?hy3 (by assumption) ?_
   case hi3=>(simp only[aR,aS,aP];rfl)
   case hq3=>exact fun _ _ _ h=>h
   case hy3=>(refine aT ⟨by rfl,?_⟩;intro w' hSw;(try dsimp only at hSw);(try go_simp);try with_reducible rfl)
   try simp only[aJ,aK,aH,aG]
   refine aQ (i:=4) (oi:=?oi4) (v:=?v4) ?hi4 (by kernel_rfl) (by kernel_rfl) (by kernel_rfl) ?hq4 ?hy4 (by assumption) ?_
   case hi4=>(simp only[aR,aS,aP];rfl)
   case hq4=>exact fun _ _ _ h=>h
   case hy4=>(refine aT ⟨by rfl,?_⟩;intro w' hSw;(try dsimp only at hSw);(try go_simp);try with_reducible rfl)
   try simp only[aJ,aK,aH,aG]
   refine fL (rs:=[5]) (by kernel_rfl) (by simp) ?_;refine fA rfl (fun K hK=>?_) ?_
   rotate_left
   ·exact fM
   go_simp;refine(HDk.out _ z1 hHeld.2.2.1).mono ?_;rintro e w1 ⟨rfl,hg1,hS1⟩
   (try go_wp2_with fail)
   refine hK.out _ _ (sA.keep hHeld hnx hg1) (fun hHeld2=>?_);clear hK K
   try simp only[aJ,aK,aH,aG]
   refine fL (rs:=[6]) (by kernel_rfl) (by simp) ?_;refine fA rfl (fun K hK=>?_) ?_
   rotate_left
   ·exact fM
   go_simp;refine(HYk.out _).mono ?_;rintro e w2 ⟨rfl,rfl⟩
   (try go_wp2_with fail)
   refine hK.out _ _ hHeld2 (fun hHeld3=>?_);clear hK K
   try simp only[aJ,aK,aH,aG]
   refine aQ (i:=7) (oi:=?oi7) (v:=?v7) ?hi7 (by kernel_rfl) (by kernel_rfl) (by kernel_rfl) ?hq7 ?hy7 (by assumption) ?_
   case hi7=>(simp only[aR,aS,aP];rfl)
   case hq7=>exact fun _ _ _ h=>h
   case hy7=>(refine aT ⟨by rfl,?_⟩;intro w' hSw;(try dsimp only at hSw);(try go_simp);try with_reducible rfl)
   try simp only[aJ,aK,aH,aG]
   refine wpAnyH_done (by kernel_rfl) ?_ _;obtain⟨_,_,hgN,_⟩:=hHeld2
   by_cases hx0:xE=0
   ·have HSN:=hid (hS1 hx0);have t1:(xE != 0)=false:=by simp[hx0]
    clear hHeld3 hHeld hS1 z0 z1 c1 c2;go_wp2_with fail;have hg:=HG.out
    go_roundg (5-(k+1))
    case measure=>omega
    case rel=>
     refine⟨k+1,by omega,rfl,by go_num,HSN.out,hgN,hid (fun j hj=>?_)⟩;rcases Nat.lt_succ_iff_lt_or_eq.1 hj with q|rfl
     ·exact HJ.out j q
     ·rw[<-HXE.out];exact hx0
   ·have t1:(xE != 0)=true:=by simpa using hx0
    clear hHeld3 hHeld hS1 z0 z1 c1 c2;go_wp2_with fail;go_ret;rw[HXE.out];exact aMq hgN hlt (by rw[<-HXE.out];exact hx0) HJ.out
  ·go_wp2_with fail;go_ret;exact aMr hgr (fun j hj=>HJ.out j (by omega)) (by(obtain rfl:k=5:=(by omega));exact hSk)
end
section
open Go.RowKit Go.Extern.Stop Go.Stop Go.Extern
theorem aMt (t:Addr) (w:World):(OK (.iface 219 (.pointer (some t)))).run Tryz.prog w
  =.ok (.agg #[.pointer (some ⟨1,219,none⟩),.pointer (some ⟨w.heap.size,0,none⟩),.int .u64 150]) (w.alloc (.cells #[.pointer (some t)] 219)):=by kernel_rfl
theorem aMu (a:Addr) (w:World):(aTj (AY "reflectlite.Value.Type" 0) (fun t _ _ _=>aTk t) #[.agg #[.pointer (some ⟨1,219,none⟩),.pointer (some a),.int .u64 150]]).run Tryz.prog w
  =.ok (.iface 150 (.agg #[.pointer (some ⟨1,219,none⟩)])) w:=by kernel_rfl
theorem aMv (w:World):((aCv fun t=>(fun a:Nat=>bO pX (a:Int)) <$> Rtype.kind t) #[.pointer (some ⟨1,219,none⟩)]).run Tryz.prog w=.ok (.int .u8 22) w:=by kernel_rfl
theorem aMw (w:World):((aCv fun t=>(fun a:Nat=>bO pX (a:Int)) <$> Rtype.kind t) #[.pointer (some ⟨1,211,none⟩)]).run Tryz.prog w=.ok (.int .u8 2) w:=by kernel_rfl
theorem XK (z:Sem Value) (f:TypeId->Addr->Nat->Nat->Sem Value) (v:Value):
  GU z f #[v]=(do match<-AZ v with|none=>z|some (t,a,fl)=>f t a fl (fl%32)):=rfl
theorem XL (a:Addr) (w:World):(AZ (.agg #[.pointer (some ⟨1,219,none⟩),.pointer (some a),.int .u64 150])).run Tryz.prog w=.ok (some (219,a,150)) w:=by kernel_rfl
theorem aMx (a p:Addr) (W:World) (ha:W.cell? a=some (.pointer (some p))):
  (GU (AY "reflectlite.Value.IsNil" 0) aCw #[.agg #[.pointer (some ⟨1,219,none⟩),.pointer (some a),.int .u64 150]]).run Tryz.prog W=.ok (.bool false) W:=by
 rw[XK];simp only[vL,XL,jB];simp[aCw,loadVar,isAgg,underlying,Tryz.underlying219,ha,jB]
theorem aMy (h:Value) (w:World):(Go.method 416 150 (.agg #[h]) "Kind").run Tryz.prog w=.ok (192,h) w:=by kernel_rfl
theorem aMz (h:Value) (w:World):(Go.method 416 150 (.agg #[h]) "Elem").run Tryz.prog w=.ok (202,.agg #[h]) w:=by kernel_rfl
theorem aM0 (h:Value) (w:World):(Go.method 416 150 (.agg #[h]) "Implements").run Tryz.prog w=.ok (203,.agg #[h]) w:=by kernel_rfl
theorem aM1 (h:Value) (w:World):(Go.method 416 150 (.agg #[h]) "AssignableTo").run Tryz.prog w=.ok (200,.agg #[h]) w:=by kernel_rfl
theorem aM2 (h:Value) (w:World):(Go.method 416 247 h "Unwrap").run Tryz.prog w=.ok (213,h) w:=by kernel_rfl
theorem aM3 (w:World):(aTl ReflectliteType.elem #[.agg #[.pointer (some ⟨1,219,none⟩)]]).run Tryz.prog w=.ok (.iface 150 (.agg #[.pointer (some ⟨1,211,none⟩)])) w:=by kernel_rfl
theorem aM4 (w:World):(GV "Implements" aTm #[.agg #[.pointer (some ⟨1,211,none⟩)],.iface 150 (.agg #[.pointer (some ⟨1,66,none⟩)])]).run Tryz.prog w=.ok (.bool true) w:=by kernel_rfl
theorem aM5 (v:Value) (w:World):(aCx #[.iface 247 v]).run Tryz.prog w=.ok (.iface 150 (.agg #[.pointer (some ⟨1,247,none⟩)])) w:=by kernel_rfl
theorem aM6 (v:Value) (w:World):(aCx #[.iface 211 v]).run Tryz.prog w=.ok (.iface 150 (.agg #[.pointer (some ⟨1,211,none⟩)])) w:=by kernel_rfl
theorem aM7 (w:World):(GV "AssignableTo" aCy #[.agg #[.pointer (some ⟨1,247,none⟩)],.iface 150 (.agg #[.pointer (some ⟨1,211,none⟩)])]).run Tryz.prog w=.ok (.bool false) w:=by kernel_rfl
theorem aM8 (w:World):(GV "AssignableTo" aCy #[.agg #[.pointer (some ⟨1,211,none⟩)],.iface 150 (.agg #[.pointer (some ⟨1,211,none⟩)])]).run Tryz.prog w=.ok (.bool true) w:=by kernel_rfl
theorem aM9 (x:Int) (w:World):(OK (.iface 211 (.int .i64 x))).run Tryz.prog w
  =.ok (.agg #[.pointer (some ⟨1,211,none⟩),.pointer (some ⟨w.heap.size,0,none⟩),.int .u64 130]) (w.alloc (.cells #[.int .i64 x] 211)):=by kernel_rfl
theorem aNa (w:World):(Rtype.elem? 219).run Tryz.prog w=.ok (some 211) w:=by kernel_rfl
theorem aNb (p:Addr) (w:World):(ReflectliteValue.mk 211 p aCz).run Tryz.prog w=.ok (.agg #[.pointer (some ⟨1,211,none⟩),.pointer (some p),.int .u64 386]) w:=by kernel_rfl
theorem aNc (a p:Addr) (W:World) (ha:W.cell? a=some (.pointer (some p))):
  (GU (AY "reflectlite.Value.Elem" 0) aC0 #[.agg #[.pointer (some ⟨1,219,none⟩),.pointer (some a),.int .u64 150]]).run Tryz.prog W
   =.ok (.agg #[.pointer (some ⟨1,211,none⟩),.pointer (some p),.int .u64 386]) W:=by
 rw[XK];simp only[vL,XL,jB];simp[aC0,loadVar,isAgg,underlying,Tryz.underlying219,ha,jB,aNa,aNb]
theorem aNd (v x:Value):aC1 #[v,x]=(do
  let(some (dst,a,fl),some (src,b,_)):=(<-AZ v,<-AZ x)
   |unsupported (.noEntry "extern/(internal/reflectlite.Value).Set.zeroValue")
  if fl/aCz%2==0 then unsupported (.noEntry "extern/(internal/reflectlite.Value).Set.unaddressable")
  let val<-loadVar src b
  if<-aTn dst src then storeVar dst a val
  else if<-Rtype.implements dst src then
   if(<-Rtype.kind src)==20 then
    match val with
    |.nilIface=>unsupported (.noEntry "extern/reflectlite: a nil value of one interface type handed on as a value of another")
    |_=>storeVar dst a val
   else storeVar dst a (.iface src val)
  else panicString ("reflectlite.Set: value of type "++(<-Rtype.spelt src)++ " is not assignable to type "++(<-Rtype.spelt dst))
  pure (.tuple #[])):=rfl
theorem aNe (a:Addr) (w:World):(AZ (.agg #[.pointer (some ⟨1,211,none⟩),.pointer (some a),.int .u64 386])).run Tryz.prog w=.ok (some (211,a,386)) w:=by kernel_rfl
theorem aNf (a:Addr) (w:World):(AZ (.agg #[.pointer (some ⟨1,211,none⟩),.pointer (some a),.int .u64 130])).run Tryz.prog w=.ok (some (211,a,130)) w:=by kernel_rfl
theorem aNg (w:World):(aTn 211 211).run Tryz.prog w=.ok true w:=by kernel_rfl
theorem aNh (ta b:Addr) (x:Int) (old:Value) (W:World) (hb:W.cell? b=some (.int .i64 x)) (ht:W.cell? ta=some old) (hf:W.frozen? ta=false):
  (aC1 #[.agg #[.pointer (some ⟨1,211,none⟩),.pointer (some ta),.int .u64 386],.agg #[.pointer (some ⟨1,211,none⟩),.pointer (some b),.int .u64 130]]).run Tryz.prog W
   =.ok (.tuple #[]) (W.setCell ta (.int .i64 x)):=by
 rw[aNd];simp only[vL,aNe,aNf,jB];simp[aCz,loadVar,isAgg,underlying,Tryz.underlying211,hb,jB,aNg,storeVar,Value.cells,storeCells,Addr.add];rw[run_store Tryz.prog W ta _ _ (by rfl)];simp[ht,hf]
def iF (w:World):Prop:=w.cell? ⟨0,0,none⟩=some (.iface 150 (.agg #[.pointer (some ⟨1,66,none⟩)]))
theorem iF.lt {w:World} (h:iF w):0<w.heap.size:=iO w _ h
theorem iF.below {w w':World} (h:iF w) (hb:Below w.heap.size w w'):iF w':=(hb.cell (p:=⟨0,0,none⟩) h.lt).trans h
theorem iF.grown {w w':World} {g:Nat} (h:iF w) (hg:w.grownBy w' (some g)) (h0:0<g):iF w':=hg.cell h (by simp;omega)
theorem aNi (v:Value) (w:World):(BA (.iface 247 v) 66 278 true).run Tryz.prog w=.ok (.tuple #[.nilIface,.bool false]) w:=run_typeAssert_lacksB Tryz.underlying278 (by kernel_rfl) (by kernel_rfl) v _ w
theorem aNj (v:Value) (w:World):(BA (.iface 247 v) 66 155 true).run Tryz.prog w=.ok (.tuple #[.iface 247 v,.bool true]) w:=by kernel_rfl
theorem aNk (t:Value) (w:World):
  Calls Tryz.prog 131 #[.nilIface,t] w fun e w'=>e=.returned (.bool false)/\w'=w:=by
 go_enter Tryz.func131,Tryz.ntmps131;go_wp2;go_ret;exact⟨rfl,rfl⟩
theorem aNl (k x:Int) (ct g:Addr) (old:Value) (w:World) (hg:w.cell? g=some (.pointer (some ct))) (hc:w.cell? ct=some old) (hf:w.frozen? ct=false):
  Calls Tryz.prog 157 #[.iface 247 (.agg #[.int .i64 k,.iface 211 (.int .i64 x)]),.iface 219 (.pointer (some ct)),.agg #[.pointer (some ⟨1,219,none⟩),.pointer (some g),.int .u64 150],.iface 150 (.agg #[.pointer (some ⟨1,211,none⟩)])] w
   fun e w'=>e=.returned (.bool true)/\w.grownBy w' (some ct.block)/\w'.cell? ct=some (.int .i64 x):=by
 have hTO:=@qB Tryz.prog 64 _ aCx Tryz.func64 (by kernel_rfl) (by kernel_rfl) (by kernel_rfl) (by kernel_rfl);have hAT:=@qB Tryz.prog 200 _ (GV "AssignableTo" aCy) Tryz.func200 (by kernel_rfl) (by kernel_rfl) (by kernel_rfl) (by kernel_rfl);have hEl:=@qB Tryz.prog 170 _ (GU (AY "reflectlite.Value.Elem" 0) aC0) Tryz.func170 (by kernel_rfl) (by kernel_rfl) (by kernel_rfl) (by kernel_rfl)
 have hVO:=@qB Tryz.prog 154 _ (fun args=>OK (args.getD 0 (.tuple #[]))) Tryz.func154 (by kernel_rfl) (by kernel_rfl) (by kernel_rfl) (by kernel_rfl);have hSt:=@qB Tryz.prog 171 _ aC1 Tryz.func171 (by kernel_rfl) (by kernel_rfl) (by kernel_rfl) (by kernel_rfl);have tF:=aM5;have tC:=aM6;have mA:=aM1;have mU:=aM2;have aF:=aM7;have aC:=aM8;have uC:=aM9 x;have q1:=aNi;have q2:=aNj;go_enter Tryz.func157,Tryz.ntmps157;go_wp2;refine wp_loop_rounds 2 ?_;rw[rounds_succ];go_wp2
 have hgl:=iO w _ hg;have hcl:=iO w _ hc;have hB:Below w.heap.size w ((w.alloc (.cells #[.pointer (some ⟨1,219,none⟩),.pointer (some g),.int .u64 150] 253)).alloc (.cells #[.int .i64 k,.iface 211 (.int .i64 x)] 247)):=((aB _ _).alloc (aA _) _).alloc (by simp) _;have hn:((w.alloc (.cells #[.pointer (some ⟨1,219,none⟩),.pointer (some g),.int .u64 150] 253)).alloc (.cells #[.int .i64 k,.iface 211 (.int .i64 x)] 247)).heap.size=w.heap.size+1+1:=by simp
 have hv:∀i,i<3->((w.alloc (.cells #[.pointer (some ⟨1,219,none⟩),.pointer (some g),.int .u64 150] 253)).alloc (.cells #[.int .i64 k,.iface 211 (.int .i64 x)] 247)).cell? ⟨w.heap.size,i,none⟩=#[.pointer (some ⟨1,219,none⟩),.pointer (some g),.int .u64 150][i]? :=fun i hi=>by
  rw[OL _ _ ⟨w.heap.size,i,none⟩ (by simp),World.cell?_alloc_at _ _ _ _ rfl]
 have v0:=hv 0 (by decide);have v1:=hv 1 (by decide);have v2:=hv 2 (by decide);clear hv;generalize (w.alloc (.cells #[.pointer (some ⟨1,219,none⟩),.pointer (some g),.int .u64 150] 253)).alloc (.cells #[.int .i64 k,.iface 211 (.int .i64 x)] 247)=w3 at*
 have eV:=aNc g ct w3 (by rw[hB.cell hgl];exact hg);have hsz:w3.heap.size=w.heap.size+1+1:=hn;have HN:=hid hn;have sC:=aNh ct ⟨w3.heap.size,0,none⟩ x old (w3.alloc (.cells #[.int .i64 x] 211)) (bS _ _ _)
  (by rw[OL _ _ ct (by omega),hB.cell hcl];exact hc)
  (by rw[World.frozen?_alloc_old _ _ ct (by omega),hB.frozen hcl];exact hf)
 clear hn hsz;rw[rounds_succ];go_wp2;go_ret;have hcl3:ct.block<w3.heap.size:=by have:=HN.out;omega
 refine⟨rfl,zN (b:=w3.alloc (.cells #[.int .i64 x] 211)) (rZ (hB.alloc (by have:=HN.out;omega) _) _) ?_,?_⟩
 ·exact⟨rfl,rfl,rfl,by simp,fun i hi hne=>heap_setCell_other _ _ _ _ (fun e=>hne (by rw[e]))⟩
 ·exact World.cell?_setCell_same _ _ _ (by rw[OL _ _ ct hcl3,hB.cell hcl];exact hc)
theorem aNm (k x:Int) (ct:Addr) (old:Value) (w:World) (hE:iF w) (hc:w.cell? ct=some old) (hf:w.frozen? ct=false):
  Calls Tryz.prog 131 #[.iface 247 (.agg #[.int .i64 k,.iface 211 (.int .i64 x)]),.iface 219 (.pointer (some ct))] w
   fun e w'=>e=.returned (.bool true)/\w.grownBy w' (some ct.block)/\w'.cell? ct=some (.int .i64 x):=by
 have hVO:=@qB Tryz.prog 154 _ (fun args=>OK (args.getD 0 (.tuple #[]))) Tryz.func154 (by kernel_rfl) (by kernel_rfl) (by kernel_rfl) (by kernel_rfl);have hTy:=@qB Tryz.prog 155 _ (aTj (AY "reflectlite.Value.Type" 0) (fun t _ _ _=>aTk t)) Tryz.func155 (by kernel_rfl) (by kernel_rfl) (by kernel_rfl) (by kernel_rfl)
 have hIN:=@qB Tryz.prog 156 _ (GU (AY "reflectlite.Value.IsNil" 0) aCw) Tryz.func156 (by kernel_rfl) (by kernel_rfl) (by kernel_rfl) (by kernel_rfl);have hKi:=@qB Tryz.prog 192 _ (aCv fun t=>do pure (.int .u8 (<-Rtype.kind t))) Tryz.func192 (by kernel_rfl) (by kernel_rfl) (by kernel_rfl) (by kernel_rfl);have hEl:=@qB Tryz.prog 202 _ (aTl ReflectliteType.elem) Tryz.func202 (by kernel_rfl) (by kernel_rfl) (by kernel_rfl) (by kernel_rfl)
 have hIm:=@qB Tryz.prog 203 _ (GV "Implements" aTm) Tryz.func203 (by kernel_rfl) (by kernel_rfl) (by kernel_rfl) (by kernel_rfl);have uP:=aMt ct;have tP:=aMu;have mK:=aMy;have mE:=aMz;have mI:=aM0;have kP:=aMv;have kC:=aMw;have eP:=aM3;have iC:=aM4;have hcl:=iO w _ hc;have h0:=hE.lt;have hE0:w.cell? ⟨0,0,none⟩=some (.iface 150 (.agg #[.pointer (some ⟨1,66,none⟩)])):=hE
 obtain⟨w2,hw2⟩:∃w2,w2=(w.alloc (.cells #[.pointer (some ct)] 219)).alloc (.cells #[.pointer (some ⟨1,219,none⟩),.pointer (some ⟨w.heap.size,0,none⟩),.int .u64 150] 253):=⟨_,rfl⟩;have hB:Below w.heap.size w w2:=by rw[hw2];exact((aB _ _).alloc (aA _) _).alloc (by simp) _
 have hg2:w2.cell? ⟨w.heap.size,0,none⟩=some (.pointer (some ct)):=by
  rw[hw2,OL _ _ ⟨w.heap.size,0,none⟩ (by simp),bS]
 have n8:=aMx ⟨w.heap.size,0,none⟩ ct w2 hg2;have hE2:w2.cell? ⟨0,0,none⟩=some (.iface 150 (.agg #[.pointer (some ⟨1,66,none⟩)])):=by rw[hB.cell (p:=⟨0,0,none⟩) h0];exact hE0
 have HA:=hid (aNl k x ct ⟨w.heap.size,0,none⟩ old w2 hg2 (by rw[hB.cell hcl];exact hc) (by rw[hB.frozen hcl];exact hf));rw[hw2] at n8 hE2 HA;have HB:=hid hB;have HW:=hid hw2;clear hB hg2 hw2 hE hE0 hc hf;go_enter Tryz.func131,Tryz.ntmps131;go_wp2_with (go_at_call 157;refine HA.out.mono ?_;rintro e w4 ⟨rfl,hg4,hc4⟩);go_ret;rw[<-HW.out] at hg4;exact⟨rfl,zN (rZ HB.out _) hg4,hc4⟩
end
section
open Go.RowKit Go.Shelf
def stD (a:ByteArray) (o:Int) (l:List Int) (most:Int):Nat->Int
 |0=>if a.data.toList≠[]/\bK a.data.toList=a.data.toList then 0 else 1
 |1=>if gW l ((a.size:Int)+1) then 0 else 3
 |2=>nZ (l.take (l.length-1)) most
 |3=>if cE l=[] then 3 else 0
 |_=>nW (unL a.data.toList (cE l)) o
def stE (a:ByteArray) (o:Int) (l:List Int) (most:Int):Nat->Int
 |4=>if stD a o l most 4=0 then 0 else 3
 |k=>stD a o l most k
def stF:Nat->Nat
 |0=>124
 |1=>126
 |2=>127
 |3=>128
 |_=>130
def stY:Nat->Nat
 |0|1|2=>125
 |_=>129
def stS (w0:World) (wb:Nat) (a:ByteArray) (o:Int) (v:Value) (l:List Int) (most:Int) (k:Nat) (W:World):Prop:=
 ∃lv b,Arr W wb 210 [.string a,.int .i64 o,v,.int .i64 most,lv,.string b]/\(k=2->RdI w0 lv (l.take (l.length-1)))/\(k=3->RdI W lv (cE l))/\(k=4->b=mkS (unL a.data.toList (cE l)))/\(k=5->b=mkS (lE (unL a.data.toList (cE l)) o))
theorem st0 {a:ByteArray} {o:Int} {l:List Int} {most:Int} (h:stE a o l most 0=0):a.data.toList≠[]/\bK a.data.toList=a.data.toList:=by
 by_cases q:a.data.toList≠[]/\bK a.data.toList=a.data.toList
 ·exact q
 ·exfalso;have:stE a o l most 0=if a.data.toList≠[]/\bK a.data.toList=a.data.toList then 0 else 1:=rfl;rw[this,if_neg q] at h;omega
theorem st1 {a:ByteArray} {o:Int} {l:List Int} {most:Int} (h:stE a o l most 1=0):gW l ((a.size:Int)+1):=by
 by_cases q:gW l ((a.size:Int)+1)
 ·exact q
 ·exfalso;have:stE a o l most 1=if gW l ((a.size:Int)+1) then 0 else 3:=rfl;rw[this,if_neg q] at h;omega
theorem st2 {a:ByteArray} {o:Int} {l:List Int} {most:Int} (h:stE a o l most 2=0):((cE l).length:Int)<=most:=by
 by_cases q:((cE l).length:Int)<=most
 ·exact q
 ·exfalso;have:stE a o l most 2=if((cE l).length:Int)<=most then 0 else 4:=rfl;rw[this,if_neg q] at h;omega
theorem st3 {a:ByteArray} {o:Int} {l:List Int} {most:Int} (h:stE a o l most 3=0):cE l≠[]:=fun q=>by
 have:stE a o l most 3=if cE l=[] then 3 else 0:=rfl;rw[this,if_pos q] at h;omega
theorem XN {L:List UInt8} {o:Int} (hL:0<L.length):mJ L o=true↔(0<=o/\o<(L.length:Int)):=by
 unfold mJ;rw[Bool.and_eq_true,decide_eq_true_iff,decide_eq_true_iff];omega
theorem st4 {a:ByteArray} {o:Int} {l:List Int} {most:Int} (h3:cE l≠[]):stE a o l most 4=0↔(0<=o/\o<((cE l).length:Int)):=by
 have hl:(unL a.data.toList (cE l)).length=(cE l).length:=oO _ _;have hp:0<(unL a.data.toList (cE l)).length:=by rw[hl];exact kV.2 h3
 have e:stE a o l most 4=if(if mJ (unL a.data.toList (cE l)) o then(0:Int) else 1)=0 then 0 else 3:=rfl;rw[e,<-hl];have hi:=XN (o:=o) hp
 cases hk:mJ (unL a.data.toList (cE l)) o with
 |true=>simp;exact hi.1 hk
 |false=>
  simp;intro h0;rw[hk] at hi;rcases Int.lt_or_le o (unL a.data.toList (cE l)).length with q|q
  ·exact absurd (hi.2 ⟨h0,q⟩) (by simp)
  ·exact q
theorem aNn {a:ByteArray} {o:Int} {l:List Int} {most:Int} {k:Nat} (hk:k<5) (h:stE a o l most k≠0) (hj:∀j,j<k->stE a o l most j=0):rest a o l most=(cW,stE a o l most k):=by
 match k,hk with
 |0,_=>
  have e:stE a o l most 0=if a.data.toList≠[]/\bK a.data.toList=a.data.toList then 0 else 1:=rfl
  by_cases q:a.data.toList≠[]/\bK a.data.toList=a.data.toList
  ·rw[e,if_pos q] at h;omega
  ·rw[e,if_neg q];exact wQ q
 |1,_=>
  have e:stE a o l most 1=if gW l ((a.size:Int)+1) then 0 else 3:=rfl
  by_cases q:gW l ((a.size:Int)+1)
  ·rw[e,if_pos q] at h;omega
  ·rw[e,if_neg q];exact zK (st0 (hj 0 (by omega))) q
 |2,_=>
  have e:stE a o l most 2=if((cE l).length:Int)<=most then 0 else 4:=rfl
  by_cases q:((cE l).length:Int)<=most
  ·rw[e,if_pos q] at h;omega
  ·rw[e,if_neg q];exact zL (st0 (hj 0 (by omega))) (st1 (hj 1 (by omega))) q
 |3,_=>
  have e:stE a o l most 3=if cE l=[] then 3 else 0:=rfl
  by_cases q:cE l=[]
  ·rw[e,if_pos q];exact zM (st0 (hj 0 (by omega))) (st1 (hj 1 (by omega))) (st2 (hj 2 (by omega))) (by rw[q];simp)
  ·rw[e,if_neg q] at h;omega
 |4,_=>
  have h3:=st3 (hj 3 (by omega));have hn:=fun q=>h ((st4 (a:=a) (most:=most) h3).2 q)
  rw[zM (st0 (hj 0 (by omega))) (st1 (hj 1 (by omega))) (st2 (hj 2 (by omega))) hn];have e:stE a o l most 4=if stD a o l most 4=0 then 0 else 3:=rfl
  by_cases q:stD a o l most 4=0
  ·rw[e,if_pos q] at h;omega
  ·rw[e,if_neg q]
theorem aNo {a:ByteArray} {o:Int} {l:List Int} {most:Int} (hj:∀j,j<5->stE a o l most j=0):rest a o l most=(mkS (lE (unL a.data.toList (cE l)) o),0):=by
 have h3:=st3 (hj 3 (by omega));have h4:=(st4 (a:=a) (most:=most) h3).1 (hj 4 (by omega));have hl:(unL a.data.toList (cE l)).length=(cE l).length:=oO _ _;rw[wR (st0 (hj 0 (by omega))) (st1 (hj 1 (by omega))) (st2 (hj 2 (by omega))) h4];unfold lE;rw[if_pos ((XN (by rw[hl];exact kV.2 h3)).2 (by rw[hl];exact h4))]
theorem aNp (w0 w:World) (wb:Nat) (a:ByteArray) (o:Int) (v:Value) (l:List Int) (most:Int) (ha:a.size<=140737488355328) (hr:RdI w0 v l) (hl:l.length<=1000000) (ho1: -9223372036854775808<=o) (ho2:o<=9223372036854775807) (hm1: -9223372036854775808<=most) (hm2:most<=1000000) (hb0:Below w0.heap.size w0 w) (hwb:w0.heap.size<=wb):
  ∀k,k<5->∀W,stS w0 wb a o v l most k W->w.grownBy W (some wb)->(∀j,j<k->stE a o l most j=0)->Calls Tryz.prog (stF k) #[.pointer (some ⟨wb,0,none⟩)] W fun e W'=>e=.returned (.int .i64 (stD a o l most k))/\W.grownBy W' (some wb)/\(stE a o l most k=0->stS w0 wb a o v l most (k+1) W'):=by
 intro k hk W hS hg hj;obtain⟨lv,b,harr,s2,s3,s4,s5⟩:=hS;have hB:Below w0.heap.size w0 W:=hb0.grown hg hb0.size (fun q e=>by injection e with e;omega);have hrW:RdI W v l:=hr.below hB
 match k,hk with
 |0,_=>
  refine(aMi wb a o most v lv b W ha harr).mono ?_;rintro e W' ⟨rfl,hb⟩;exact⟨rfl,rZ hb _,fun _=>⟨lv,b,harr.below hb harr.lt,by omega,by omega,by omega,by omega⟩⟩
 |1,_=>
  have h0:=st0 (hj 0 (by omega));have ha6:a.size<=256:=by
   have hla:a.data.toList.length=a.size:=by simp
   rw[<-hla,<-h0.2];exact rX _
  have e1:stD a o l most 1=if gW l ((a.size:Int)+1) then 0 else 3:=rfl
  by_cases hq:gW l ((a.size:Int)+1)
  ·rw[e1,if_pos hq];refine(aMl wb a o most v lv l b W ha6 harr hrW hq).mono ?_;rintro e W' ⟨rfl,hg',lv',harr',hrl⟩;exact⟨rfl,hg',fun _=>⟨lv',b,harr',fun _=>hrl w0 hr,by omega,by omega,by omega⟩⟩
  ·rw[e1,if_neg hq];refine(aMk wb a o most v lv l b W ha6 harr hrW hq).mono ?_;rintro e W' ⟨rfl,hb⟩;exact⟨rfl,rZ hb _,fun h=>absurd (st1 h) hq⟩
 |2,_=>
  have h1:=st1 (hj 1 (by omega));have ha6:a.size<=256:=by
   have h0:=st0 (hj 0 (by omega));have hla:a.data.toList.length=a.size:=by simp
   rw[<-hla,<-h0.2];exact rX _
  refine(aMm wb a o most v lv (l.take (l.length-1)) b W harr ((s2 rfl).below hB) (by rw[List.length_take];omega) (fun x hx=>by have:=h1.2.2 x hx;omega) hm1 hm2).mono ?_;rintro e W' ⟨rfl,hg',lv',harr',hrl⟩;refine⟨rfl,hg',fun h=>⟨lv',b,harr',by omega,fun _=>?_,by omega,by omega⟩⟩;rw[(wO (m:=l.take (l.length-1)) (st2 h)).1] at hrl;exact hrl
 |3,_=>
  have h0:=st0 (hj 0 (by omega));have h1:=st1 (hj 1 (by omega));have h2:=st2 (hj 2 (by omega));have hla:a.data.toList.length=a.size:=by simp
  have ha6:a.size<=256:=by rw[<-hla,<-h0.2];exact rX _
  have hap:0<a.size:=by rw[<-hla];exact kV.2 h0.1
  have e3:stD a o l most 3=if cE l=[] then 3 else 0:=rfl
  by_cases hq:cE l=[]
  ·rw[e3,if_pos hq];refine(aMn wb a o most v lv b W harr (by have:=s3 rfl;rwa[hq] at this)).mono ?_;rintro e W' ⟨rfl,rfl⟩;exact⟨rfl,rZ (aB _ _) _,fun h=>absurd hq (st3 h)⟩
  ·rw[e3,if_neg hq];refine(aMo wb a o most v lv (cE l) b W harr (s3 rfl) (kV.2 hq) (by omega) (by omega) (by rw[<-h0.2];exact BS _) (LQ h1 hap)).mono ?_;rintro e W' ⟨rfl,hg',harr'⟩;exact⟨rfl,hg',fun _=>⟨lv,_,harr',by omega,by omega,fun _=>rfl,by omega⟩⟩
 |4,_=>
  have h2:=st2 (hj 2 (by omega));obtain rfl:=s4 rfl;have hls:(mkS (unL a.data.toList (cE l))).size<=1000000000:=by rw[cP,oO];omega
  refine(aMp wb a o most v lv _ W harr hls ho1 ho2).mono ?_;rintro e W' ⟨rfl,hg',harr'⟩;exact⟨rfl,hg',fun _=>⟨lv,_,harr',by omega,by omega,by omega,fun _=>rfl⟩⟩
theorem aNq (a:ByteArray) (o:Int) (l:List Int) (most:Int):∀k,k<5->∀W,Calls Tryz.prog (stY k) #[.int .i64 (stD a o l most k)] W fun e W'=>e=.returned (.int .i64 (stE a o l most k))/\W'=W:=by
 intro k hk W
 match k,hk with
 |0,_=>exact LS _ W
 |1,_=>exact LS _ W
 |2,_=>exact LS _ W
 |3,_=>
  refine(XJ (stD a o l most 3) W).mono ?_;rintro e W' ⟨rfl,rfl⟩;refine⟨fX ?_,rfl⟩;have e3:stD a o l most 3=if cE l=[] then 3 else 0:=rfl;have e4:stE a o l most 3=if cE l=[] then 3 else 0:=rfl;rw[e3,e4]
  by_cases hq:cE l=[]
  ·rw[if_pos hq];rfl
  ·rw[if_neg hq];rfl
 |4,_=>exact XJ (stD a o l most 4) W
theorem aNr (w0:World) (wb:Nat) (a:ByteArray) (o:Int) (v:Value) (l:List Int) (most:Int) (k:Nat) (W W':World) (h:stS w0 wb a o v l most k W) (hb:Below W.heap.size W W'):stS w0 wb a o v l most k W':=by
 obtain⟨lv,b,harr,s2,s3,s4,s5⟩:=h;exact⟨lv,b,harr.below hb harr.lt,s2,fun e=>(s3 e).below hb,s4,s5⟩
theorem aNs:∀k,k<5->Enters Tryz.prog (stF k):=by
 intro k hk
 match k,hk with
 |0,_=>exact fN Tryz.func124 rfl rfl
 |1,_=>exact fN Tryz.func126 rfl rfl
 |2,_=>exact fN Tryz.func127 rfl rfl
 |3,_=>exact fN Tryz.func128 rfl rfl
 |4,_=>exact fN Tryz.func130 rfl rfl
theorem aNt:∀k,k<5->Enters Tryz.prog (stY k):=by
 intro k hk
 match k,hk with
 |0,_=>exact fN Tryz.func125 rfl rfl
 |1,_=>exact fN Tryz.func125 rfl rfl
 |2,_=>exact fN Tryz.func125 rfl rfl
 |3,_=>exact fN Tryz.func129 rfl rfl
 |4,_=>exact fN Tryz.func129 rfl rfl
theorem aNu (a:ByteArray) (o:Int) (v:Value) (l:List Int) (most:Int) (w:World) (hE:iF w) (ha:a.size<=140737488355328) (hr:RdI w v l) (hl:l.length<=1000000) (ho1: -9223372036854775808<=o) (ho2:o<=9223372036854775807) (hm1: -9223372036854775808<=most) (hm2:most<=1000000):
  Calls Tryz.prog 115 #[.agg #[.string a,.int .i64 o,v],.int .i64 most] w fun e w'=>e=.returned (.tuple #[.string (rest a o l most).1,.int .i64 (rest a o l most).2])/\Below w.heap.size w w':=by
 have HST:=hid (fun w1 wb hb0 hwb=>aNp w w1 wb a o v l most ha hr hl ho1 ho2 hm1 hm2 hb0 hwb);obtain⟨ad,ca,rfl,hca,hma,_⟩:=hr.open;go_enter Tryz.func115,Tryz.ntmps115;go_wp2_with fail;have hs1:(w.alloc (.cells #[.string a,.int .i64 o,.slice ad l.length ca] 106)).heap.size=w.heap.size+1:=by simp
 have hB:Below w.heap.size w ((((w.alloc (.cells #[.string a,.int .i64 o,.slice ad l.length ca] 106)).alloc (.cells #[.string a,.int .i64 o,.slice ad l.length ca,.int .i64 most,.slice none 0 0,.string {data:=#[]}] 210)).alloc (.cells #[.int .i64 0] 211)).alloc (.cells #[.func (.func 124) #[] #[],.func (.func 125) #[] #[],.func (.func 126) #[] #[],.func (.func 125) #[] #[],.func (.func 127) #[] #[],.func (.func 125) #[] #[],.func (.func 128) #[] #[],.func (.func 129) #[] #[],.func (.func 130) #[] #[],.func (.func 129) #[] #[]] 217)):=((((aB _ _).alloc (aA _) _).alloc (by simp) _).alloc (by simp;omega) _).alloc (by simp;omega) _
 have hA:Arr ((((w.alloc (.cells #[.string a,.int .i64 o,.slice ad l.length ca] 106)).alloc (.cells #[.string a,.int .i64 o,.slice ad l.length ca,.int .i64 most,.slice none 0 0,.string {data:=#[]}] 210)).alloc (.cells #[.int .i64 0] 211)).alloc (.cells #[.func (.func 124) #[] #[],.func (.func 125) #[] #[],.func (.func 126) #[] #[],.func (.func 125) #[] #[],.func (.func 127) #[] #[],.func (.func 125) #[] #[],.func (.func 128) #[] #[],.func (.func 129) #[] #[],.func (.func 130) #[] #[],.func (.func 129) #[] #[]] 217)) (w.heap.size+1) 210 [.string a,.int .i64 o,.slice ad l.length ca,.int .i64 most,.slice none 0 0,.string {data:=#[]}]:=by
  have:=((Arr.new (w.alloc (.cells #[.string a,.int .i64 o,.slice ad l.length ca] 106)) 210 [.string a,.int .i64 o,.slice ad l.length ca,.int .i64 most,.slice none 0 0,.string {data:=#[]}]).alloc (.cells #[.int .i64 0] 211)).alloc (.cells #[.func (.func 124) #[] #[],.func (.func 125) #[] #[],.func (.func 126) #[] #[],.func (.func 125) #[] #[],.func (.func 127) #[] #[],.func (.func 125) #[] #[],.func (.func 128) #[] #[],.func (.func 129) #[] #[],.func (.func 130) #[] #[],.func (.func 129) #[] #[]] 217);rwa[hs1] at this
 have hC:Arr ((((w.alloc (.cells #[.string a,.int .i64 o,.slice ad l.length ca] 106)).alloc (.cells #[.string a,.int .i64 o,.slice ad l.length ca,.int .i64 most,.slice none 0 0,.string {data:=#[]}] 210)).alloc (.cells #[.int .i64 0] 211)).alloc (.cells #[.func (.func 124) #[] #[],.func (.func 125) #[] #[],.func (.func 126) #[] #[],.func (.func 125) #[] #[],.func (.func 127) #[] #[],.func (.func 125) #[] #[],.func (.func 128) #[] #[],.func (.func 129) #[] #[],.func (.func 130) #[] #[],.func (.func 129) #[] #[]] 217)) (w.heap.size+1+1) 211 [.int .i64 0]:=by
  have:=(Arr.new ((w.alloc (.cells #[.string a,.int .i64 o,.slice ad l.length ca] 106)).alloc (.cells #[.string a,.int .i64 o,.slice ad l.length ca,.int .i64 most,.slice none 0 0,.string {data:=#[]}] 210)) 211 [.int .i64 0]).alloc (.cells #[.func (.func 124) #[] #[],.func (.func 125) #[] #[],.func (.func 126) #[] #[],.func (.func 125) #[] #[],.func (.func 127) #[] #[],.func (.func 125) #[] #[],.func (.func 128) #[] #[],.func (.func 129) #[] #[],.func (.func 130) #[] #[],.func (.func 129) #[] #[]] 217)
  rwa[show((w.alloc (.cells #[.string a,.int .i64 o,.slice ad l.length ca] 106)).alloc (.cells #[.string a,.int .i64 o,.slice ad l.length ca,.int .i64 most,.slice none 0 0,.string {data:=#[]}] 210)).heap.size=w.heap.size+1+1 by simp] at this
 have hF:Arr ((((w.alloc (.cells #[.string a,.int .i64 o,.slice ad l.length ca] 106)).alloc (.cells #[.string a,.int .i64 o,.slice ad l.length ca,.int .i64 most,.slice none 0 0,.string {data:=#[]}] 210)).alloc (.cells #[.int .i64 0] 211)).alloc (.cells #[.func (.func 124) #[] #[],.func (.func 125) #[] #[],.func (.func 126) #[] #[],.func (.func 125) #[] #[],.func (.func 127) #[] #[],.func (.func 125) #[] #[],.func (.func 128) #[] #[],.func (.func 129) #[] #[],.func (.func 130) #[] #[],.func (.func 129) #[] #[]] 217)) (w.heap.size+1+1+1) 217 [.func (.func 124) #[] #[],.func (.func 125) #[] #[],.func (.func 126) #[] #[],.func (.func 125) #[] #[],.func (.func 127) #[] #[],.func (.func 125) #[] #[],.func (.func 128) #[] #[],.func (.func 129) #[] #[],.func (.func 130) #[] #[],.func (.func 129) #[] #[]]:=by
  have:=Arr.new (((w.alloc (.cells #[.string a,.int .i64 o,.slice ad l.length ca] 106)).alloc (.cells #[.string a,.int .i64 o,.slice ad l.length ca,.int .i64 most,.slice none 0 0,.string {data:=#[]}] 210)).alloc (.cells #[.int .i64 0] 211)) 217 [.func (.func 124) #[] #[],.func (.func 125) #[] #[],.func (.func 126) #[] #[],.func (.func 125) #[] #[],.func (.func 127) #[] #[],.func (.func 125) #[] #[],.func (.func 128) #[] #[],.func (.func 129) #[] #[],.func (.func 130) #[] #[],.func (.func 129) #[] #[]]
  rwa[show(((w.alloc (.cells #[.string a,.int .i64 o,.slice ad l.length ca] 106)).alloc (.cells #[.string a,.int .i64 o,.slice ad l.length ca,.int .i64 most,.slice none 0 0,.string {data:=#[]}] 210)).alloc (.cells #[.int .i64 0] 211)).heap.size=w.heap.size+1+1+1 by simp] at this
 generalize ((((w.alloc (.cells #[.string a,.int .i64 o,.slice ad l.length ca] 106)).alloc (.cells #[.string a,.int .i64 o,.slice ad l.length ca,.int .i64 most,.slice none 0 0,.string {data:=#[]}] 210)).alloc (.cells #[.int .i64 0] 211)).alloc (.cells #[.func (.func 124) #[] #[],.func (.func 125) #[] #[],.func (.func 126) #[] #[],.func (.func 125) #[] #[],.func (.func 127) #[] #[],.func (.func 125) #[] #[],.func (.func 128) #[] #[],.func (.func 129) #[] #[],.func (.func 130) #[] #[],.func (.func 129) #[] #[]] 217))=wc at*
 have hcell:∀k,k<5->wc.cell? ⟨w.heap.size+1+1+1,k*2,none⟩=some (iR (.func (stF k)) #[] #[])/\wc.cell? ⟨w.heap.size+1+1+1,k*2+1,none⟩=some (iR (.func (stY k)) #[] #[]):=fun k hk=>by
  match k,hk with
  |0,_=>exact⟨hF.cell (i:=0) rfl,hF.cell (i:=1) rfl⟩
  |1,_=>exact⟨hF.cell (i:=2) rfl,hF.cell (i:=3) rfl⟩
  |2,_=>exact⟨hF.cell (i:=4) rfl,hF.cell (i:=5) rfl⟩
  |3,_=>exact⟨hF.cell (i:=6) rfl,hF.cell (i:=7) rfl⟩
  |4,_=>exact⟨hF.cell (i:=8) rfl,hF.cell (i:=9) rfl⟩
 have hAl:=hA.lt;refine(aMs (w.heap.size+1) (w.heap.size+1+1+1) wc stF stY (stD a o l most) (stE a o l most) (stS w (w.heap.size+1) a o (.slice ad l.length ca) l most) hcell (by omega) hAl aNs aNt (HST.out wc (w.heap.size+1) hB (by omega)) (aNq a o l most) (fun k W W' h hb=>aNr w _ a o _ l most k W W' h hb) ⟨_,_,hA,by omega,by omega,by omega,by omega⟩).mono ?_;rintro e w1 ⟨hg,hpost⟩;have hB1:Below w.heap.size w w1:=hB.grown hg hB.size (fun q e=>by injection e with e;omega)
 have hc1:w1.cell? ⟨w.heap.size+1+1,0,none⟩=some (.int .i64 0):=hg.cell (hC.cell (i:=0) rfl) (by simp);have hf1:w1.frozen? ⟨w.heap.size+1+1,0,none⟩=false:=by rw[World.frozen?_of_block (hg.block _ hC.lt (by simp))];exact hC.free 0
 have hE1:iF w1:=hE.below hB1;clear hs1 hB hA hC hF hcell hAl hg;rcases hpost with⟨k,hk,hne,hj,rfl⟩|⟨hj,hS,rfl⟩
 ·have HR:=hid (aNn hk hne hj);obtain⟨x,hx⟩:∃x,x=stE a o l most k:=⟨_,rfl⟩;rw[<-hx] at HR ⊢;clear hne hj hx;have HA:=hid (aNm k x ⟨w.heap.size+1+1,0,none⟩ (.int .i64 0) w1 hE1 hc1 hf1);clear hc1 hf1;go_wp2_with fail;refine HA.out.mono ?_;rintro e w2 ⟨rfl,hg2,hc2⟩;have hB2:Below w.heap.size w w2:=hB1.grown hg2 hB1.size (fun q e=>by injection e with e;omega);go_wp2_with fail
  go_quiet (fail)
  go_wp2_with fail
  go_ret2
  rw[HR.out];exact⟨rfl,iI hB2 _⟩
 ·have HR:=hid (aNo hj);obtain⟨lv,b,harr,_,_,_,hb5⟩:=hS;obtain rfl:=hb5 rfl;have d5:=harr.cell (i:=5) rfl;clear hj hb5;go_wp2_with (go_at_call 131;refine(aNk _ _).mono ?_;rintro e w2 ⟨rfl,rfl⟩)
  go_ret2
  rw[HR.out];exact⟨rfl,hB1⟩
end
end Go.Proofs.YtmcogmmncfihhaaGreatDoor
