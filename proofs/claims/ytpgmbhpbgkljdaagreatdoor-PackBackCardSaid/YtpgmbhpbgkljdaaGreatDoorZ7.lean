/-
  Texts put together (part 7): the walks and the plain laws on which the statement stands.
-/
import Derived.Laws.ResultCell
import Derived.Test.YtpgmbhpbgkljdaaGreatDoorZ5
set_option maxRecDepth 100000
set_option maxHeartbeats 12800000
open Classical renaming byContradiction->aCc
open Go.IntKind renaming i64->aI
open Go.IntWalk renaming i64_in->tS
open Go.Lib renaming bytesWorld_size->aCt
open Go.Result renaming andThen->jB
open Go.RowKit.Below renaming heap_alloc->oF,refl->aB
open Go.World renaming cell?_of_block->oK,frozen?_of_block->OI,grownBy_alloc->AV,size_alloc->fV
open Int renaming toNat_natCast->eG
open List renaming ext_getElem?->jA,getD->fF,getElem?_eq_getElem->aN,getElem?_eq_none->dL,length_drop->cI,length_take->aX,map_congr_left->qW,map_map->xJ,mem_of_getElem?->cH,mem_range->jF,range->dG,take_add_one->cQ,take_of_length_le->cS
open List.Pairwise renaming imp_of_mem->aB5
open Nat renaming add_assoc->dZ,add_mod_right->aCi,add_mul_mod_self_left->aTo,add_zero->pH,eq_zero_or_pos->fJ,le_refl->aA,le_trans->aW,lt_of_lt_of_le->dR,lt_or_ge->bT,mod_add_div->NU,mod_add_mod->AO,mod_eq_of_lt->kU,mod_lt->jQ,mul_one->sE,zero_add->iZ,zero_le->aU
open Option renaming toList_some->mX
open Option.some renaming inj->bW
open UInt8 renaming toNat_inj->qV
namespace Go.Proofs.YtpgmbhpbgkljdaaGreatDoor
section
open Go.RowKit
def qQ (f:Nat->Bool):List Value:=(dG 256).map (fun d=>Value.bool (f d))
theorem LK (f:Nat->Bool) (i:Nat) (h:i<256):(qQ f)[i]? =some (.bool (f i)):=by simp[qQ,h]
theorem aKv (f f':Nat->Bool) (i:Nat) (v:Bool) (h:∀d,d<256->f' d=if d=i then v else f d):(qQ f).set i (.bool v)=qQ f':=by
 apply jA;intro j
 by_cases hj:j<256
 ·by_cases hij:i=j
  ·subst hij;simp[qQ,hj,h i hj]
  ·rw[List.getElem?_set_ne hij,LK f j hj,LK f' j hj,h j hj,if_neg (fun e=>hij e.symm)]
 ·rw[dL (by simp[qQ];omega),dL (by simp[qQ];omega)]
theorem aKw {l:List UInt8} {c:UInt8} (h:c∈l):Lib.indexByte l c=((plc l c:Nat):Int):=by
 induction l with
 |nil=>simp at h
 |cons b l ih=>
  unfold Lib.indexByte plc;rw[List.findIdx_cons]
  by_cases e:b=c
  ·subst e;simp
  ·have hm:c∈l:=by rcases List.mem_cons.1 h with q|q;exact absurd q.symm e;exact q
   have:=ih hm;unfold plc at this;have e2:(b==c)=false:=by simp[e]
   rw[this];simp only[e2,cond_false];rw[if_neg (by simp),if_neg (by simp)];rfl
theorem aKx (g cap:Nat) (l:List UInt8) (c:UInt8) (w:World) (hA:ByA w g l) (hc:c∈l):
  Calls Tryz.prog 167 #[.slice (some ⟨g,0,none⟩) l.length cap,.int .u8 (c.toNat:Int)] w fun e w'=>e=.returned (.int .i64 ((plc l c:Nat):Int))/\w'=w:=by
 have hrun:=Lib.run_indexByteSlice (P:=Tryz.prog) w g 0 l.length cap (l.map (fun b=>(b.toNat:Int))) (by simp) (fun i hi=>by
  rw[iZ,hA.2.1 i _ (aN hi)];simp[fF,aN hi]) (c.toNat:Int)
 have hb:Lib.bytesOf (l.map (fun b=>(b.toNat:Int)))=l:=by
  unfold Lib.bytesOf;rw[xJ]
  conv=>rhs;rw[<-List.map_id l]
  exact qW (fun b _=>by simp)
 rw[hb,show((c.toNat:Int).toNat.toUInt8)=c by simp,aKw hc] at hrun;go_enter Tryz.func167,Tryz.ntmps167;go_wp2_with fail;rw[run_callFunc_extern Tryz.func191 (by kernel_rfl) (by kernel_rfl) (by kernel_rfl) (e:=Extern.BytealgIndexByte.indexByte) (by kernel_rfl),hrun];simp only[jB];rw[Oper.upon_value];go_wp2;go_ret;exact⟨rfl,rfl⟩
theorem WN (a:ByteArray) (w:World) (hs:a.size<=1000000000) (hn:a.data.toList.Nodup):
  Calls Tryz.prog 145 #[.string a] w fun e w'=>e=.returned (.bool true)/\Below w.heap.size w w':=by
 have HN:=hid hn;clear hn;have hl:a.data.toList.length=a.size:=by simp
 have HL:=hid hl;clear hl;go_enter Tryz.func145,Tryz.ntmps145;go_wp2_with fail
 go_loopg [2,4,7] a.size (fun gh _s2 _s4 s7 wr=>∃k:Nat,k<=a.size/\gh=a.size-k/\s7=.int .i64 k/\Arr wr w.heap.size 161 (qQ (fun d=>(a.data.toList.take k).any (fun b=>b.toNat==d)))/\Below w.heap.size w wr)
 case atStart=>
  refine⟨0,aU _,rfl,rfl,?_,(aB _ _).alloc (aA _) _⟩;have z:Tryz.zeroCells161=(qQ (fun _=>false)).toArray:=by kernel_rfl
  rw[z]
  simpa using Arr.new w 161 (qQ (fun _=>false))
 case round=>
 obtain⟨k,hk,hg,rfl,harr,hbel⟩:=hrel;have HG:=hid hg;clear hg
 by_cases hka:k<a.size
 ·have hb:=a[k].toNat_lt;have hb1:a[k].toNat<256:=hb;have hb2:(a[k].toNat:Int)<256:=by omega
  have hno:(a.data.toList.take k).any (fun b=>b.toNat==a[k].toNat)=false:=by
   rw[<-Bool.not_eq_true,List.any_eq_true];rintro⟨b,hb,e⟩
   replace e:=beq_iff_eq.1 e
   have e2:b=a[k]:=qV.1 e;subst e2;obtain⟨j,hj,hje⟩:=List.getElem_of_mem hb;rw[aX] at hj;rw[List.getElem_take] at hje;have p1:=IL HN.out (i:=j) (by rw[HL.out];omega);have p2:=IL HN.out (i:=k) (by rw[HL.out];exact hka);rw[hje] at p1;have p3:a.data.toList[k]'(by rw[HL.out];exact hka)=a[k]:=by simp;rfl
   rw[p3] at p2;omega
  have hcell:=harr.cell (i:=a[k].toNat) (by rw[LK _ _ hb1,hno]);have hfro:=harr.free a[k].toNat;have hset:=aKv (fun d=>(a.data.toList.take k).any (fun b=>b.toNat==d)) (fun d=>(a.data.toList.take (k+1)).any (fun b=>b.toNat==d)) a[k].toNat true (fun d _=>by
   rw[cQ,eW a k hka,mX];rw[List.any_append]
   by_cases hd:d=a[k].toNat
   ·rw[if_pos hd,hd];simp
   ·rw[if_neg hd];have:(a[k].toNat==d)=false:=by(rw[beq_eq_false_iff_ne];exact fun e=>hd e.symm)
    simp[this])
  have hnew:=harr.set a[k].toNat (.bool true);rw[hset] at hnew;clear hset;go_wp2_with fail;have hg:=HG.out
  go_roundg (a.size-(k+1))
  case measure=>omega
  case rel=>exact⟨k+1,by omega,rfl,by go_num,hnew,hbel.setCell (aA _) _⟩
 ·go_wp2_with fail;go_ret;exact⟨rfl,hbel⟩
structure Tel (w:World) (B C tb g cap:Nat) (l:List UInt8) (pv:Value) (ps:List Int):Prop where
 c0:w.cell? ⟨tb,0,none⟩=some (.slice (some ⟨g,0,none⟩) l.length cap)
 c1:w.cell? ⟨tb,1,none⟩=some pv
 fr:w.frozen? ⟨tb,1,none⟩=false
 by':ByA w g l
 own:OwI w C pv ps
 sep:B<=g/\B<=tb/\tb≠g/\g<C/\tb<C/\C<=w.heap.size
theorem zH (w:World) (row:Option Nat):w.grownBy w row:=⟨rfl,rfl,rfl,aA _,fun _ _ _=>rfl⟩
theorem OwI.kept {w w':World} {B:Nat} {v:Value} {l:List Int} {row:Option Nat} (h:OwI w B v l) (hg:w.grownBy w' row) (hne:∀b,row=some b->b<B):OwI w' B v l:=by
 refine Ow.kept h hg ?_
 cases e:v.ownBlock with
 |none=>exact .inl rfl
 |some k=>
  right
  intro e2;have:=hne k e2.symm;have:=(Ow.lt h k e).1;omega
theorem aKy {w w3:World} {C tb g:Nat} {l:List UInt8} {x y:Value} {o:Obj} (h0:w.cell? ⟨tb,0,none⟩=some x) (h1:w.cell? ⟨tb,1,none⟩=some y) (hf:w.frozen? ⟨tb,1,none⟩=false) (hA:ByA w g l) (hg:g<C) (htb:tb<C) (hC:C<=w.heap.size) (hb:Below C (w.alloc o) w3):
  w3.cell? ⟨tb,0,none⟩=some x/\w3.cell? ⟨tb,1,none⟩=some y/\w3.frozen? ⟨tb,1,none⟩=false/\ByA w3 g l:=by
 have ht:tb<w.heap.size:=dR htb hC;refine⟨?_,?_,?_,((hA.kept (row:=none) (AV w o none) (by simp)).below hb hg)⟩
 ·rw[hb.cell (p:=⟨tb,0,none⟩) htb,oK (oF w o tb ht)];exact h0
 ·rw[hb.cell (p:=⟨tb,1,none⟩) htb,oK (oF w o tb ht)];exact h1
 ·rw[hb.frozen (p:=⟨tb,1,none⟩) htb,OI (oF w o tb ht)];exact hf
theorem aKz (B C tb g cap:Nat) (l:List UInt8) (pv:Value) (ps:List Int) (c:UInt8) (w w0:World) (hT:Tel w B C tb g cap l pv ps) (hbel:Below B w0 w) (hc:c∈l) (hl:l.length<=1000) (hcap:l.length<=cap) (hcm:cap<=maxLen) (hp:ps.length<=1000000):
  Calls Tryz.prog 146 #[.pointer (some ⟨tb,0,none⟩),.int .u8 (c.toNat:Int)] w fun e w'=>e=.returned (.bool true)/\Below B w0 w'/\∃pv',Tel w' B C tb g cap (eF l (plc l c)) pv' (ps++[((plc l c:Nat):Int)]):=by
 obtain⟨t1,t2,t3,hA,hown,hg,htb,hne,hgC,htC,hCs⟩:=hT;have hplc:=rG hc;obtain⟨p,hpe⟩:∃p,p=plc l c:=⟨_,rfl⟩;rw[<-hpe] at hplc;have HP:=hid hpe;clear hpe;rw[<-HP.out];have hcb:=c.toNat_lt;have tests:=decide_eq_false (show ¬(p:Int)<0 by omega);go_enter Tryz.func146,Tryz.ntmps146;go_wp2_with fail;refine(aKx g cap l c _ hA hc).mono ?_;rintro e w1 ⟨rfl,rfl⟩;rw[<-HP.out]
 go_wp2_with (at_builtin;refine eN rfl _ _ rfl C _ _ rfl (hown.alloc _) w1.heap.size (p:Int) rfl ?_ ?_ ?_ ?_;(exact bS _ _ _);omega;(simp;omega);intro v' w3 hown' hB3 _;obtain⟨a3,c3,e3,_,_,_⟩:=hown'.rd.open;subst e3;obtain⟨u1,u2,u3,u4⟩:=aKy t1 t2 t3 hA hgC htC hCs hB3);rw[show(ps++[(p:Int)]).length=ps.length+1 by simp] at hown';generalize hv:Value.slice a3 (ps.length+1) c3=pv' at*
 have hs3:C<=w3.heap.size:=by have:=hB3.size;simp at this;omega
 have hg4:=nK (zH w3 (some tb)) 1 pv';have hA4:=u4.kept hg4 (by simp;omega);have ho4:=hown'.kept hg4 (fun b e=>by simp at e;omega);have q0:(w3.setCell ⟨tb,1,none⟩ pv').cell? ⟨tb,0,none⟩=some (.slice (some ⟨g,0,none⟩) l.length cap):=by
  rw[World.cell?_setCell_other _ _ _ _ (by simp)];exact u1
 have q1:(w3.setCell ⟨tb,1,none⟩ pv').cell? ⟨tb,1,none⟩=some pv':=World.cell?_setCell_same _ _ _ u2;have q2:(w3.setCell ⟨tb,1,none⟩ pv').frozen? ⟨tb,1,none⟩=false:=by rw[World.frozen?_setCell];exact u3
 have hb4:Below B w0 (w3.setCell ⟨tb,1,none⟩ pv'):=((hbel.alloc (by omega) _).trans (hB3.mono (by omega))).setCell htb _;have hs4:C<=(w3.setCell ⟨tb,1,none⟩ pv').heap.size:=by simpa using hs3
 generalize w3.setCell ⟨tb,1,none⟩ pv'=w4 at*
 refine(WM g cap p l _ hA4 hplc hl hcap hcm).mono ?_;rintro e w5 ⟨rfl,hA5,hg5⟩;have hbb:=(l[p]).toNat_lt;go_wp2_with fail;go_ret;have tl:=(vS l p).symm;refine⟨rfl,hb4.grown hg5 (by omega) (fun k e=>by simp at e;omega),pv',⟨?_,?_,?_,hA5,ho4.kept hg5 (fun b e=>by simp at e;omega),hg,htb,hne,hgC,htC,aW hs4 hg5.size⟩⟩
 ·rw[oK (hg5.block tb (by omega) (by simpa using hne)),<-tl];exact q0
 ·rw[oK (hg5.block tb (by omega) (by simpa using hne))];exact q1
 ·rw[OI (hg5.block tb (by omega) (by simpa using hne))];exact q2
theorem aK0 (w:World) (e:TypeId) (s:ByteArray):Below w.heap.size w (Lib.bytesWorld w e s):=
 ⟨rfl,rfl,rfl,by rw[aCt];omega,fun k hk=>Lib.bytesWorld_at_old w e s k hk⟩
theorem DX (w:World) (a:ByteArray) (ha:a.size<=1000000):∃cap w',(convert 9 75 (.string a)).run Tryz.prog w=.ok (.slice (some ⟨w.heap.size,0,none⟩) a.size cap) w'/\a.size<=cap/\cap<=maxLen/\ByA w' w.heap.size a.data.toList/\Below w.heap.size w w'/\w'.heap.size=w.heap.size+1:=by
 refine⟨grownCap w a.size 0 5,Lib.bytesWorld w 5 a,Lib.run_convert_string_bytes w _ _ _ a Tryz.underlying9 Tryz.underlying75 Tryz.underlying5,grownCap_ge _ _ _ _,grownCap_le_maxLen _ _ _ _ (by unfold maxLen;omega),⟨?_,?_,?_⟩,aK0 _ _ _,aCt _ _ _⟩
 ·rw[aCt];omega
 ·intro j b hj;have hjl:j<a.size:=by simpa using(List.getElem?_eq_some_iff.1 hj).1
  rw[Lib.bytesWorld_cell w _ a j hjl,List.getD_eq_getElem?_getD,hj];rfl
 ·intro j hj;have hjl:j<a.size:=by simpa using hj
  have hc:j<(Lib.bytesCells w 5 a).size:=by
   unfold Lib.bytesCells;rw[Array.size_append,Array.size_map];have:a.data.size=a.size:=rfl;omega
  simp only[World.frozen?,Lib.bytesWorld_at_new];simp;omega
theorem zI {P:Program} {fn:Func} {p u:Tmp} {ty:TypeId} (h:fn.results=#[.cell p ty,.tmp u]) (tmps:Array Value) (w:World) (g:Nat) (t:TypeId) (cs:Array Value) (fr:Nat×Nat) (d:TypeDesc)
  (hp:tmps.getD p undef=.pointer (some ⟨g,0,none⟩)) (hg:w.heap[g]? =some (.cells cs t fr))
  (hu:P.underlying ty=some d) (hd:(match d with|.struct _|.array _ _=>true|_=>false)=true) (hi:(P.info? ty).map (·.size)=some cs.size):
  (results fn tmps).run P w=.ok (.tuple #[.agg cs,tmps.getD u undef]) w:=by
 rw[results_cell_tmp h,hp];simp[asAddr,jB,run_loadVar_row w g t ty cs fr d hg hu hd hi]
theorem aK1:(Tryz.prog.info? 201).map (·.size)=some 2:=by kernel_rfl
theorem aK2 (a s:ByteArray) (w:World) (ha:a.size<=1000) (hs:s.size<=1000000) (hn:a.data.toList.Nodup) (hsub:∀b∈s.data.toList,b∈a.data.toList):
  Calls Tryz.prog 125 #[.string a,.string s] w fun e w'=>∃ad n c v,e=.returned (.tuple #[.agg #[.slice ad n c,v],.int .i64 0])/\OwI w' w.heap.size v (cM a.data.toList s.data.toList)/\Below w.heap.size w w':=by
 have HN:=hid hn;have HSUB:=hid hsub;have hl:s.data.toList.length=s.size:=by simp
 have hla:a.data.toList.length=a.size:=by simp
 have HL:=hid hl;have HLA:=hid hla;clear hn hsub hl hla;go_enter Tryz.func125,Tryz.ntmps125;go_wp2_with fail;have harr:=Arr.new w 201 [.slice none 0 0,.slice none 0 0];have hb1:=(aB (w.heap.size+1) (w.alloc (.cells #[.slice none 0 0,.slice none 0 0] 201)));have hb0:=((aB w.heap.size w).alloc (aA _) (.cells #[.slice none 0 0,.slice none 0 0] 201));have hz1:(w.alloc (.cells #[.slice none 0 0,.slice none 0 0] 201)).heap.size=w.heap.size+1:=by simp
 change Arr (w.alloc (.cells #[.slice none 0 0,.slice none 0 0] 201)) _ _ _ at harr;generalize w.alloc (.cells #[.slice none 0 0,.slice none 0 0] 201)=w1 at*
 obtain⟨cap,w2,hcv,hcap1,hcap2,hA2,hb2,hz2⟩:=DX w1 a (by omega);rw[hcv];rw[hz1] at hz2 hA2;have hA3:=hA2.kept (row:=none) (AV w2 (.cells #[.slice (some ⟨w.heap.size+1,0,none⟩) a.size cap,.slice none 0 0] 201) none) (by simp);have harr3:=Arr.new w2 201 [.slice (some ⟨w.heap.size+1,0,none⟩) a.size cap,.slice none 0 0];have hb3:Below (w.heap.size+1) w1 (w2.alloc (.cells #[.slice (some ⟨w.heap.size+1,0,none⟩) a.size cap,.slice none 0 0] 201)):=(hb2.mono (by omega)).alloc (by omega) _
 have hz3:(w2.alloc (.cells #[.slice (some ⟨w.heap.size+1,0,none⟩) a.size cap,.slice none 0 0] 201)).heap.size=w.heap.size+1+1+1:=by simp[hz2]
 rw[hz2] at harr3;go_wp2_with fail;change Arr (w2.alloc (.cells #[.slice (some ⟨w.heap.size+1,0,none⟩) a.size cap,.slice none 0 0] 201)) _ _ _ at harr3;generalize w2.alloc (.cells #[.slice (some ⟨w.heap.size+1,0,none⟩) a.size cap,.slice none 0 0] 201)=w3 at*
 refine(WN a w3 (by omega) HN.out).mono ?_;rintro e w4 ⟨rfl,hb4⟩;have hz4:=hb4.size;have hT4:Tel w4 (w.heap.size+1) (w.heap.size+1+1+1) (w.heap.size+1+1) (w.heap.size+1) cap a.data.toList (.slice none 0 0) []:=
  ⟨by rw[hb4.cell (p:=⟨w.heap.size+1+1,0,none⟩) (by show w.heap.size+1+1<w3.heap.size;omega),harr3.cell (i:=0) rfl,HLA.out],
   by rw[hb4.cell (p:=⟨w.heap.size+1+1,1,none⟩) (by show w.heap.size+1+1<w3.heap.size;omega),harr3.cell (i:=1) rfl],
   by rw[hb4.frozen (p:=⟨w.heap.size+1+1,1,none⟩) (by show w.heap.size+1+1<w3.heap.size;omega),harr3.free],
   hA3.below hb4 (by omega),OwI.nil _ _,by omega⟩
 have hb14:Below (w.heap.size+1) w1 w4:=hb3.trans (hb4.mono (by omega));go_wp2_with fail
 go_loopg [5,7,18] s.size (fun gh s5 _s7 s18 wr=>∃k:Nat,∃pv:Value,k<=s.size/\gh=s.size-k/\s18=.int .i64 k/\s5=.int .i64 0/\Tel wr (w.heap.size+1) (w.heap.size+1+1+1) (w.heap.size+1+1) (w.heap.size+1) cap (eB a.data.toList (s.data.toList.take k)) pv (cM a.data.toList (s.data.toList.take k))/\Below (w.heap.size+1) w1 wr)
 case atStart=>exact⟨0,_,aU _,rfl,rfl,rfl,by simpa [eB,cM] using hT4,hb14⟩
 case round=>
 obtain⟨k,pv,hk,hg,rfl,rfl,hT,hbel⟩:=hrel;have HG:=hid hg;clear hg
 by_cases hlt:k<s.size
 ·have hperm:=BV (s.data.toList.take k) a.data.toList;have hAs:(eB a.data.toList (s.data.toList.take k)).length=a.size:=by rw[hperm.length_eq];exact HLA.out
  have hmem:s[k]∈eB a.data.toList (s.data.toList.take k):=hperm.mem_iff.2 (HSUB.out _ (cH (eW s k hlt)));have e1:=hid (show cM a.data.toList (s.data.toList.take (k+1))=cM a.data.toList (s.data.toList.take k)++[((plc (eB a.data.toList (s.data.toList.take k)) s[k]:Nat):Int)] by
   rw[cQ,eW s k hlt,mX,BW])
  have e2:=hid (show eB a.data.toList (s.data.toList.take (k+1))=eF (eB a.data.toList (s.data.toList.take k)) (plc (eB a.data.toList (s.data.toList.take k)) s[k]) by
   rw[cQ,eW s k hlt,mX,IM])
  have hll:=hid (show(cM a.data.toList (s.data.toList.take k)).length=k by rw[rH,aX,HL.out];omega);have hb:=s[k].toNat_lt;go_wp2_with fail;refine(aKz _ _ _ _ cap _ _ _ s[k] _ w1 hT hbel hmem (by omega) (by omega) hcap2 (by rw[hll.out];omega)).mono ?_;rintro e w6 ⟨rfl,hbel6,pv6,hT6⟩;rw[<-e1.out,<-e2.out] at hT6;go_wp2_with fail;have hg:=HG.out
  go_roundg (s.size-(k+1))
  case measure=>omega
  case rel=>exact⟨k+1,pv6,by omega,rfl,by go_num,rfl,hT6,hbel6⟩
 ·have hke:k=s.size:=by omega
  rw[cS (by rw[HL.out];omega)] at hT;have harrE:Arr wr w.heap.size 201 [.slice none 0 0,.slice none 0 0]:=harr.below hbel (by omega);obtain⟨c0,c1,_,_,hown,hsep⟩:=hT;obtain⟨a3,c3,e3,_,_,_⟩:=hown.rd.open;have f0:=harrE.cell (i:=0) rfl;have f1:=harrE.cell (i:=1) rfl;have f2:=harrE.free 0;have f3:=harrE.free 1;have hS:∀(v:Value),v=pv->OwI ((wr.setCell ⟨w.heap.size,0,none⟩ (.slice (some ⟨w.heap.size+1,0,none⟩) (eB a.data.toList s.data.toList).length cap)).setCell ⟨w.heap.size,1,none⟩ v) w.heap.size v (cM a.data.toList s.data.toList):=fun v hv=>by
   subst hv;exact(hown.kept (nK (nK (zH wr (some w.heap.size)) 0 _) 1 v) (fun b e=>by simp at e;omega)).base (by omega)
  have hB:∀(v:Value),Below w.heap.size w ((wr.setCell ⟨w.heap.size,0,none⟩ (.slice (some ⟨w.heap.size+1,0,none⟩) (eB a.data.toList s.data.toList).length cap)).setCell ⟨w.heap.size,1,none⟩ v):=fun v=>((hb0.trans (hbel.mono (by omega))).setCell (aA _) _).setCell (aA _) _
  subst e3;go_wp2_with fail;have hF:Arr ((wr.setCell ⟨w.heap.size,0,none⟩ (.slice (some ⟨w.heap.size+1,0,none⟩) (eB a.data.toList s.data.toList).length cap)).setCell ⟨w.heap.size,1,none⟩ (.slice a3 (cM a.data.toList s.data.toList).length c3)) w.heap.size 201 [.slice (some ⟨w.heap.size+1,0,none⟩) (eB a.data.toList s.data.toList).length cap,.slice a3 (cM a.data.toList s.data.toList).length c3]:=(harrE.set 0 _).set 1 _;exact bodyPost_ret (zI rfl _ _ w.heap.size _ _ (0,0) _ rfl hF Tryz.underlying201 rfl aK1) rfl ⟨_,_,_,_,rfl,hS _ rfl,hB _⟩
theorem aK3 (a s:ByteArray) (w:World) (ha:a.size<=1000) (hs:s.size<=1000000) (hn:a.data.toList.Nodup) (hsub:∀b∈s.data.toList,b∈a.data.toList):
  Calls Tryz.prog 94 #[.string a,.string s] w fun e w'=>∃v,e=.returned (.tuple #[v,.int .i64 0])/\OwI w' w.heap.size v (cM a.data.toList s.data.toList)/\Below w.heap.size w w':=by
 have HT:=hid (aK2 a s w ha hs hn hsub);clear hn hsub;go_enter Tryz.func94,Tryz.ntmps94;go_wp2_with fail;refine HT.out.mono ?_;rintro e w1 ⟨ad,n,c,v,rfl,hown,hb⟩;obtain⟨a3,c3,e3,_,_,_⟩:=hown.rd.open;have hs1:=hb.size;have hown':=hown.alloc (.cells #[.slice ad n c,v] 201);have hb':=hb.alloc hs1 (.cells #[.slice ad n c,v] 201);subst e3;go_wp2_with fail
 go_ret2
 exact⟨_,rfl,hown',hb'⟩
theorem aK4 {P:Program} {ops:Array Oper} {rest:List Oper} {o:Oper} {a:Act} {Q:Exit->Act->World->Prop} {w:World} {t e bytes:Nat} {z:Value} (E:ElT P t e bytes z) (hgd:o.guard=none) (l c:Operand)
  (ho:o.op=.makeSlice t l c) (n:Nat) (hl:a.eval l=.int .i64 0) (hc:a.eval c=.int .i64 (n:Int)) (hroom:n*bytes<=140737488355328)
  (h:∀w',Ow w' w.heap.size e (.slice (some ⟨w.heap.size,0,none⟩) 0 n) []->Below w.heap.size w w'->w'.heap.size=w.heap.size+1->wpList P ops Q rest (a.put o.dst (.slice (some ⟨w.heap.size,0,none⟩) 0 n)) w'):wpList P ops Q (o::rest) a w:=by
 refine wpList_plain hgd fun K hK'=>?_
 obtain⟨i,hi,hz,h2,h3⟩:=E.info;have hpos:=E.pos;have hn:n<=140737488355328:=aW (Nat.le_mul_of_pos_right _ hpos) hroom;have hb:(i.bytes:Int)*(n:Int)<=281474976710656:=by
  rw[h3,<-Int.natCast_mul,Nat.mul_comm];omega
 have hrun:=run_make (P:=P) w t e i z E.under hi hz .i64 .i64 0 (n:Int) (by omega) (by omega) hb (by omega);rw[h2,sE,eG,E.cells,show madeCells #[z] n=fB z n from by rw[fB,<-toList_madeCells_one]] at hrun;unfold Oper.wp;simp[execOp,ho,hl,hc,hrun,jB];exact hK' _ _ (h _ (World.ownsRow_made w _ n (aA _) (by unfold maxLen;omega) (by simp[fB])) ((aB _ _).alloc (aA _) _) (by simp))
theorem OwB.kept {w w':World} {B:Nat} {v:Value} {l:List UInt8} {row:Option Nat} (h:OwB w B v l) (hg:w.grownBy w' row) (hne:∀b,row=some b->b<B):OwB w' B v l:=by
 refine Ow.kept h hg ?_
 cases e:v.ownBlock with
 |none=>exact .inl rfl
 |some k=>
  right
  intro e2;have:=hne k e2.symm;have:=(Ow.lt h k e).1;omega
theorem aK5 (a:ByteArray) (v:Value) (l:List Int) (w:World) (ha:a.size<=1000) (hl:l.length<=1000000) (hn:a.data.toList.Nodup) (hr:RdI w v l) (hx:∀x∈l,0<=x/\x<(a.size:Int)):
  Calls Tryz.prog 219 #[.string a,v] w fun e w'=>e=.returned (.tuple #[.string (mkS (unL a.data.toList l)),.int .i64 0])/\Below w.heap.size w w':=by
 obtain⟨ad,ca,rfl,hca,hma,hA⟩:=hr.open;unfold maxLen at hma;have HN:=hid hn;have HX:=hid hx;have hla:a.data.toList.length=a.size:=by simp
 have HLA:=hid hla;clear hn hx hr hla;go_enter Tryz.func219,Tryz.ntmps219;go_wp2_with fail;refine(WN a _ (by omega) HN.out).mono ?_;rintro e w1 ⟨rfl,hb1⟩;have hz1:=hb1.size;go_wp2_with fail;obtain⟨cap,w2,hcv,hcap1,hcap2,hA2,hb2,hz2⟩:=DX w1 a (by omega);rw[hcv];have hA3:=hA2.kept (row:=none) (AV w2 (.cells #[.slice (some ⟨w1.heap.size,0,none⟩) a.size cap] 199) none) (by simp);have hc3:=bS w2 (.slice (some ⟨w1.heap.size,0,none⟩) a.size cap) 199
 have hb3:Below w.heap.size w (w2.alloc (.cells #[.slice (some ⟨w1.heap.size,0,none⟩) a.size cap] 199)):=(hb1.trans (hb2.mono hz1)).alloc (by omega) _;have hz3:(w2.alloc (.cells #[.slice (some ⟨w1.heap.size,0,none⟩) a.size cap] 199)).heap.size=w1.heap.size+1+1:=by simp[hz2]
 rw[hz2] at hc3;go_wp2_with (at_make;generalize w2.alloc (.cells #[.slice (some ⟨w1.heap.size,0,none⟩) a.size cap] 199)=w3 at*;refine aK4 vQ rfl _ _ rfl l.length rfl rfl (by omega) ?_;intro w4 hown4 hb4 hz4);have hown4':OwB w4 (w1.heap.size+1+1) (.slice (some ⟨w1.heap.size+1+1,0,none⟩) 0 l.length) []:=by rw[hz3] at hown4;exact hown4
 have hA4:=hA3.below hb4 (by omega);have hc4:w4.cell? ⟨w1.heap.size+1,0,none⟩=some (.slice (some ⟨w1.heap.size,0,none⟩) a.size cap):=by
  rw[hb4.cell (p:=⟨w1.heap.size+1,0,none⟩) (by show w1.heap.size+1<w3.heap.size;omega)];exact hc3
 have hbl4:Below w.heap.size w w4:=hb3.trans (hb4.mono (by omega))
 go_loopg [7,9,21] l.length (fun gh s7 _s9 s21 wr=>∃k:Nat,k<=l.length/\gh=l.length-k/\s21=.int .i64 k/\OwB wr (w1.heap.size+1+1) s7 (unL a.data.toList (l.take k))/\ByA wr w1.heap.size (unA a.data.toList (l.take k))/\wr.cell? ⟨w1.heap.size+1,0,none⟩=some (.slice (some ⟨w1.heap.size,0,none⟩) a.size cap)/\Below w.heap.size w wr/\w1.heap.size+1+1<=wr.heap.size)
 case atStart=>exact⟨0,aU _,rfl,rfl,by simpa [unL] using hown4',by simpa [unA] using hA4,hc4,hbl4,by omega⟩
 case round=>
 obtain⟨k,hk,hg,rfl,hown,hAk,hck,hbel,hsz⟩:=hrel;have HG:=hid hg;clear hg
 by_cases hlt:k<l.length
 ·obtain⟨b0,o0,rfl,hb0,hc0⟩:=hA (by omega);obtain⟨x,hx⟩:=dH hlt;have c1:=(hbel.cell (p:=⟨b0,o0+k,none⟩) hb0).trans (hc0 k x hx);have hxb:=HX.out x (cH hx);obtain⟨i,rfl⟩:∃i:Nat,x=(i:Int):=⟨x.toNat,by omega⟩;obtain⟨A,hAA⟩:∃A,A=unA a.data.toList (l.take k):=⟨_,rfl⟩;have hAs:A.length=a.size:=by rw[hAA,(PM _ _).length_eq];exact HLA.out
  have hll:=hid (show(unL a.data.toList (l.take k)).length=k by rw[oO,aX];omega);have hi:i<A.length:=by omega
  have e1:=hid (show unL a.data.toList (l.take (k+1))=unL a.data.toList (l.take k)++[A[i]] by
   rw[cQ,hx,mX,IN,<-hAA];simp[fF,aN hi])
  have e2:=hid (show unA a.data.toList (l.take (k+1))=eF A i by
   rw[cQ,hx,mX,IP,<-hAA];rfl)
  rw[<-hAA] at hAk;have t1:decide ((i:Int)<0)=false:=decide_eq_false (by omega);have t2:decide (a.size<=i)=false:=decide_eq_false (by omega);have t3:decide ((a.size:Int)<=(i:Int))=false:=decide_eq_false (by omega);have hb0r:=dR hb0 hbel.size;have HAL:=hid hAs;clear hc0 hA hx hxb hAA hAs;go_wp2_with fail;have htk:=WM w1.heap.size cap i A wr hAk hi (by rw[HAL.out];exact ha) (by rw[HAL.out];exact hcap1) hcap2;rw[HAL.out] at htk;refine htk.mono ?_;rintro e w6 ⟨rfl,hA6,hg6⟩;rw[<-e2.out] at hA6;have hbb:=(A[i]).toNat_lt;have hown6:=hown.kept hg6 (fun b e=>by simp at e;omega)
  have hc6:=hck;rw[<-oK (hg6.block (w1.heap.size+1) (by omega) (by simp))] at hc6;have hb6:Below w.heap.size w w6:=hbel.grown hg6 (by omega) (fun k e=>by simp at e;omega);have hz6:=hg6.size;go_wp2_with (at_builtin;refine yZ rfl _ _ rfl (w1.heap.size+1+1) _ _ rfl (hown6.alloc _) w6.heap.size A[i] rfl ?_ ?_ ?_ ?_;(exact bS _ _ _);(rw[hll.out];omega);(simp;omega);intro v' w7 hown7 hb7 _);rw[<-e1.out] at hown7;have hg:=HG.out;have hz7:=hb7.size;simp only[fV] at hz7
  go_roundg (l.length-(k+1))
  case measure=>omega
  case rel=>
   refine⟨k+1,by omega,rfl,by go_num,hown7,?_,?_,(hb6.alloc (by omega) _).trans (hb7.mono (by omega)),by omega⟩
   ·exact(hA6.kept (row:=none) (AV w6 _ none) (by simp)).below hb7 (by omega)
   ·rw[hb7.cell (p:=⟨w1.heap.size+1,0,none⟩) (by show w1.heap.size+1<w1.heap.size+1+1;omega),oK (oF w6 _ (w1.heap.size+1) (by omega))];exact hc6
 ·have hke:k=l.length:=by omega
  rw[cS (by omega)] at hown;have hcv2:=lQ hown.rd;go_wp2_with fail
  go_ret2
  exact⟨rfl,hbel⟩
theorem aGy {s:ByteArray} (h:s.size=0):s=mkS []:=by
 apply IB;apply List.eq_nil_of_length_eq_zero
 simpa using h
theorem aGz (w:World):
  Calls Tryz.prog 123 #[.string (mkS [])] w fun e w'=>e=.returned (.slice none 0 0)/\Below w.heap.size w w':=by
 have hz:(mkS []).size=0:=rfl;obtain⟨s,hs⟩:∃s,s=mkS []:=⟨_,rfl⟩;rw[<-hs] at hz ⊢;clear hs;go_enter Tryz.func123,Tryz.ntmps123;go_wp2_with (at_make;refine mkA gL rfl _ _ rfl 0 rfl rfl ?_ ?_;omega)
 go_loopg [2,4,15] 0 (fun _gh s2 _s4 s15 wr=>s15=.int .i64 0/\s2=.slice none 0 0/\
   Arr wr (w.heap.size+1) 223 [.string s,.slice (some ⟨w.heap.size,0,none⟩) 0 0,.int .i64 0]/\
   Below w.heap.size w wr/\w.heap.size+2<=wr.heap.size)
 case atStart=>
  refine⟨rfl,rfl,?_,(uM _ _).trans ((aB _ _).alloc (by simp) _),by simp⟩;have:=Arr.new (w.alloc (.cells (fB (.int .i64 0) 0) 3)) 223 [.string s,.slice (some ⟨w.heap.size,0,none⟩) 0 0,.int .i64 0];rwa[fV] at this
 case round=>
  obtain⟨rfl,rfl,hst,hbel,hsz⟩:=hrel;obtain⟨wo,rfl⟩:∃wo:World,wo=wr:=⟨_,rfl⟩;go_wp2_with fail
  go_loopg [2,5,6] 0 (fun _gh s2 _s5 _s6 wr=>s2=.slice none 0 0/\wo=wr)
  case atStart=>exact⟨rfl,rfl⟩
  case round=>
   obtain⟨rfl,rfl⟩:=hrel;go_wp2_with fail;refine(Tryz.slices_Sort_int_none none 0 _).mono ?_;rintro e w1 ⟨rfl,h⟩;subst h;have c0:=hst.cell (i:=0) rfl;have c1:=hst.cell (i:=1) rfl;have c2:=hst.cell (i:=2) rfl;go_wp2_with fail;refine(aGl none 0 _ _ _).mono ?_;rintro e w2 ⟨rfl,hb2⟩;have hst2:=hst.below hb2 hst.lt;have hbel2:=hbel.trans (hb2.mono hbel.size);have hsz2:=hb2.size;clear hst hbel c0 c1 c2;go_wp2_with (at_make;refine mkA gL rfl _ _ rfl 0 rfl rfl ?_ ?_;omega)
   go_loopg [6] 0 (fun _gh s6 wr=>s6=.int .i64 1/\Arr wr (w.heap.size+1) 223 [.string s,.slice (some ⟨w.heap.size,0,none⟩) 0 0,.int .i64 0]/\Below w.heap.size w wr)
   case atStart=>exact⟨rfl,hst2.alloc _,hbel2.alloc hbel2.size _⟩
   case round=>
    obtain⟨rfl,hst,hbel⟩:=hrel;have c0:=hst.cell (i:=0) rfl;have c1:=hst.cell (i:=1) rfl;have c2:=hst.cell (i:=2) rfl;have f1:=hst.free 1;have f2:=hst.free 2;go_wp2_with fail;go_ret;exact⟨rfl,(hbel.setCell (by show w.heap.size<=w.heap.size+1;omega) _).setCell (by show w.heap.size<=w.heap.size+1;omega) _⟩
theorem aG0 {n:Nat} {f f':Nat->Int} (h:∀d,d<n->f d=f' d):tab n f=tab n f':=qW (fun d hd=>by rw[h d (by simpa using hd)])
theorem aG1 (s:ByteArray) {k:Nat} (h:k<s.size):bX s k=s[k].toNat:=by
 rw[aGw s h];simp[fF,eW s k h]
theorem aG2 (s:ByteArray) (w:World) (hn:s.size<=1000000) (hpos:0<s.size):
  Calls Tryz.prog 123 #[.string s] w fun e w'=>∃v o,e=.returned v/\Ord (bX s) s.size s.size o/\OwI w' w.heap.size v (gI s.size o)/\Below w.heap.size w w':=by
 go_enter Tryz.func123,Tryz.ntmps123;go_wp2_with (at_make;refine mkA gL rfl _ _ rfl s.size rfl rfl ?_ ?_;omega)
 go_loopg [2,4,15] s.size (fun gh s2 _s4 s15 wr=>∃k:Nat,k<=s.size/\gh=s.size-k/\s15=.int .i64 k/\(k=0->s2=.slice none 0 0)/\OwI wr (w.heap.size+2) s2 (gI k (fun d=>(d:Int)))/\
   Arr wr w.heap.size 3 (tab s.size (fun d=>if d<k then(bX s d:Int) else 0))/\Arr wr (w.heap.size+1) 223 [.string s,.slice (some ⟨w.heap.size,0,none⟩) s.size s.size,.int .i64 0]/\
   Below w.heap.size w wr/\w.heap.size+2<=wr.heap.size)
 case atStart=>
  refine⟨0,aU _,rfl,rfl,fun _=>rfl,OwI.nil _ _,?_,?_,(uM _ _).trans ((aB _ _).alloc (by simp) _),by simp⟩
  ·have:=(Arr.made w 3 (.int .i64 0) s.size).alloc (.cells #[.string s,.slice (some ⟨w.heap.size,0,none⟩) s.size s.size,.int .i64 0] 223);rw[BF] at this;have e:(fun d=>if d<0 then(bX s d:Int) else 0)=fun _=>(0:Int):=by funext d;simp
   rw[e];exact this
  ·have:=Arr.new (w.alloc (.cells (fB (.int .i64 0) s.size) 3)) 223 [.string s,.slice (some ⟨w.heap.size,0,none⟩) s.size s.size,.int .i64 0];rwa[fV] at this
 case round=>
  obtain⟨k,hk,hg,rfl,hnil,hown,hrk,hst,hbel,hsz⟩:=hrel;have HG:=hid hg;have HNIL:=hid hnil;clear hg hnil
  by_cases hlt:k<s.size
  ·have hb:s[k].toNat<256:=s[k].toNat_lt;have HB:=hid (aG1 s hlt);go_wp2_with (at_builtin;refine eN rfl _ _ rfl (w.heap.size+2) _ _ rfl (hown.alloc _) wr.heap.size (k:Int) rfl ?_ ?_ ?_ ?_;(exact bS _ _ _);(rw[mL];omega);(simp;omega);intro v' w1 hown' hB hgrow;(have hrk1:=(hrk.alloc (.cells #[.int .i64 (k:Int)] 3)).below hB (by omega));(have hst1:=(hst.alloc (.cells #[.int .i64 (k:Int)] 3)).below hB (by omega)));have c1:w1.cell? ⟨w.heap.size+1,1,none⟩=some (.slice (some ⟨w.heap.size,0,none⟩) s.size s.size):=hst1.cell rfl
   have c2:=hrk1.cell (iS s.size (fun d=>if d<k then(bX s d:Int) else 0) k hlt);have f1:=hrk1.free k;have hsz1:=hB.size;rw[fV] at hsz1
   go_region
   all_goals go_wp2
   have hg:=HG.out
   go_roundg (s.size-(k+1))
   case measure=>omega
   case rel=>
    refine⟨k+1,by omega,rfl,by go_num,fun h=>by omega,?_,?_,?_,?_,?_⟩
    ·rw[aGp];exact Ow.drewN (ownsRow_setCell_below hown' (by show w.heap.size<_;omega) _) 1
    ·have e:=qD s.size (fun d=>if d<k then(bX s d:Int) else 0) (fun d=>if d<k+1 then(bX s d:Int) else 0) k (s[k].toNat:Int) (fun d _=>by
      by_cases h1:d=k
      ·rw[if_pos h1,h1];show(if k<k+1 then(bX s k:Int) else 0)=_;rw[if_pos (by omega),HB.out]
      ·rw[if_neg h1]
       by_cases h2:d<k
       ·show(if d<k+1 then(bX s d:Int) else 0)=(if d<k then(bX s d:Int) else 0);rw[if_pos (by omega),if_pos h2]
       ·show(if d<k+1 then(bX s d:Int) else 0)=(if d<k then(bX s d:Int) else 0);rw[if_neg (by omega),if_neg h2])
     rw[<-e];exact(hrk1.set k _).drewN 1
    ·exact(hst1.other ⟨w.heap.size,k,none⟩ (by simp) _).drewN 1
    ·exact(((hbel.alloc (by omega) _).trans (hB.mono (by omega))).setCell (aA _) _).drew
    ·show w.heap.size+2<=(w1.setCell _ _).heap.size;exact aW (by omega) (eM w1 _ _ _).size
  ·have hke:k=s.size:=by omega
   subst hke;have hrk':Arr wr w.heap.size 3 (tab s.size (fun d=>(bX s d:Int))):=by
    rw[aG0 (f':=fun d=>if d<s.size then(bX s d:Int) else 0) (fun d hd=>(if_pos hd).symm)];exact hrk
   clear hrk hlt;rcases fJ s.size with h0|h0
   ·omega
   ·obtain⟨g,cap,hv,hBg,hd,hcap⟩:=aGr hown (by intro e;have:=congrArg List.length e;rw[mL,List.length_nil] at this;omega);subst hv;rw[mL] at hd ⊢;have hd':Dat wr g cap s.size (fun d=>(d:Int)):=hd.congr (fun d hd=>by simp[fF,wC _ _ _ hd]);clear hd hown hk;obtain⟨wo,rfl⟩:∃wo:World,wo=wr:=⟨_,rfl⟩;go_wp2_with fail
    go_loopg [2,5,6] s.size (fun gh s2 _s5 _s6 wr=>∃(M b:Nat) (r o:Nat->Int),M<s.size/\gh=s.size-M/\s2=.slice (some ⟨g,0,none⟩) s.size cap/\Dat wr g cap s.size o/\
     Hid ((∀k,k<s.size->0<=o k/\o k<(s.size:Int))/\∀i j,i<j->j<s.size->o i≠o j)/\Arr wr b 3 (tab s.size r)/\
     Arr wr (w.heap.size+1) 223 [.string s,.slice (some ⟨b,0,none⟩) s.size s.size,.int .i64 (M:Int)]/\Hid (sW (bX s) s.size (max M 1) r)/\b≠g/\w.heap.size<=b/\b≠w.heap.size+1/\
     Below w.heap.size w wr)
    case atStart=>exact⟨0,w.heap.size,_,_,h0,rfl,rfl,hd',hid ⟨fun k hk=>by show 0<=(k:Int)/\(k:Int)<(s.size:Int);omega,fun i j h1 h2=>by show(i:Int)≠(j:Int);omega⟩,hrk',hst,hid (aGx s),by omega,aA _,by omega,hbel⟩
    case round=>
     clear hd' hst hbel hrk' hsz;obtain⟨M,b,r,o,hMn,hg,rfl,hd,HO,hr,hst,HK,hbg,hbB,hbq,hbel⟩:=hrel;have HG2:=hid hg;clear hg;obtain⟨wp,rfl⟩:∃wp:World,wp=wr:=⟨_,rfl⟩;go_wp2_with fail;refine(aGu g cap s.size o _ hd hn HO.out.1 HO.out.2).mono ?_;rintro e w1 ⟨rfl,hd1,hg1⟩;have hr1:=hr.grown hg1 (fun e=>hbg (bW e));have hst1:=hst.grown hg1 (fun e=>by have:=bW e;omega);have hbel1:=hbel.trans (QC hg1 (B:=w.heap.size) (by omega) hbel.size);clear hd hr hst hbel hg1;have c0:=hst1.cell (i:=0) rfl;have c1:=hst1.cell (i:=1) rfl;have c2:=hst1.cell (i:=2) rfl
     have hsrt:=aGo s b g cap s.size M r w1 (bX s) rfl hn (by omega) hr1 hbg hd1 hcap (sX s) HK.out;unfold qJ pP at hsrt;have HS:=hid hsrt;clear hsrt;go_wp2_with fail;refine HS.out.mono ?_;rintro e w2 ⟨rfl,⟨h,hO,hd2⟩,hg2⟩;have hr2:=hr1.grown hg2 (fun e=>hbg (bW e));have hst2:=hst1.grown hg2 (fun e=>by have:=bW e;omega);have hbel2:=hbel1.trans (QC hg2 (B:=w.heap.size) (by omega) hbel1.size);have HORD:=hid hO;clear HS HO hO hd1 hr1 hst1 hbel1 hg2 c0 c1 c2;go_wp2_with (at_make;refine mkA gL rfl _ _ rfl s.size rfl rfl ?_ ?_;omega)
     go_loopg [6] (s.size-1) (fun gh s6 wr=>∃(p:Nat) (f:Nat->Int),1<=p/\p<=s.size/\gh=s.size-p/\s6=.int .i64 p/\Dat wr g cap s.size h/\Arr wr b 3 (tab s.size r)/\
      Arr wr (w.heap.size+1) 223 [.string s,.slice (some ⟨b,0,none⟩) s.size s.size,.int .i64 (M:Int)]/\Arr wr w2.heap.size 3 (tab s.size f)/\
      Hid (∀j,j<p->f (h j).toNat=vr (bX s) (max (2*M) 1) h j)/\Below w.heap.size w wr)
     case atStart=>
      refine⟨1,fun _=>0,aA _,h0,?_,rfl,hd2.below (uM _ _) hd2.lt,hr2.alloc _,hst2.alloc _,?_,hid (fun j hj=>?_),hbel2.alloc hbel2.size _⟩
      ·rfl
      ·have:=Arr.made w2 3 (.int .i64 0) s.size;rwa[BF] at this
      ·have:j=0:=by omega
       subst this;rfl
     case round=>
      have hw2:=hbel2.size;have hgw2:=hd2.lt;have hbw2:=hr2.lt;have hqw2:=hst2.lt;clear hd2 hr2 hst2 hbel2;obtain⟨p,f,hp1,hpn,hg,rfl,hd,hr,hst,hnx,HV,hbel⟩:=hrel;have HG3:=hid hg;clear hg
      by_cases hlt:p<s.size
      ·obtain⟨x,hx⟩:∃x,x=(h p).toNat:=⟨_,rfl⟩;obtain⟨y,hy⟩:∃y,y=(h (p-1)).toNat:=⟨_,rfl⟩;have bx:=HORD.out.rng p hlt;have by':=HORD.out.rng (p-1) (by omega);have ex:h p=(x:Int):=by omega
       have ey:h (p-1)=(y:Int):=by omega
       have hxn:x<s.size:=by omega
       have hyn:y<s.size:=by omega
       have c1:=hd.cell (k:=p) hlt;have c2:=hd.cell (k:=p-1) (by omega);rw[ex] at c1;rw[ey] at c2;have c3:=hnx.cell (iS s.size f y hyn);have c4:=hnx.cell (iS s.size f x hxn);have f1:=hnx.free x;have hz:=HV.out (p-1) (by omega);rw[<-hy] at hz;have vb:=aGv (bX s) (max (2*M) 1) h (p-1);rw[<-hz] at vb;obtain⟨z,hzz⟩:∃z,z=f y:=⟨_,rfl⟩;rw[<-hzz] at c3 vb hz;have HX:=hid hx;have HY:=hid hy;have EX:=hid ex;have EY:=hid ey;have HZ:=hid hz;clear hx hy ex ey hz hzz bx by';have s1:aI.wrap ((p:Int)-1)=(p:Int)-1:=tS _ (by omega);have s2:((p:Int)-1).toNat=p-1:=by omega
       have s3:(0:Int)<=(p:Int)-1:=by omega
       have s4:(p:Int)-1<(s.size:Int):=by omega
       have s6:(1:Int)<=(p:Int):=by omega
       have s11:(p:Int)<(s.size:Int):=by omega
       have s12:(0:Int)<=(p:Int):=by omega
       have s7:1<=p:=hp1;have s8:0<p:=by omega
       have s9:(p:Int)<=(s.size:Int):=by omega
       go_wp2_with fail
       go_cut [] (fun wx=>Dat wx g cap s.size h/\Arr wx b 3 (tab s.size r)/\Arr wx (w.heap.size+1) 223 [.string s,.slice (some ⟨b,0,none⟩) s.size s.size,.int .i64 (M:Int)]/\
        Arr wx w2.heap.size 3 (tab s.size (gH f x z))/\Below w.heap.size w wx)
       case first=>as_aux_lemma=>
        go_region
        all_goals go_wp2_with fail
        all_goals go_meet
        exact⟨(hd.other _ (by show w2.heap.size≠g;omega) _).drew,(hr.other _ (by show w2.heap.size≠b;omega) _).drewN 1,(hst.other _ (by show w2.heap.size≠w.heap.size+1;omega) _).drewN 1,
         (by have e:=qD s.size f (gH f x z) x z (fun d _=>rfl);rw[<-e];exact(hnx.set x _).drewN 1),(hbel.setCell (by show w.heap.size<=w2.heap.size;omega) _).drew⟩
       case rest=>
        obtain⟨hd',hr',hst',hnx',hbel'⟩:=hcut;clear hd hr hst hnx hbel c1 c2 c3 c4 f1;have c1:=hd'.cell (k:=p) hlt;have c2:=hd'.cell (k:=p-1) (by omega);rw[EX.out] at c1;rw[EY.out] at c2;have d0:=hst'.cell (i:=0) rfl;have d1:=hst'.cell (i:=1) rfl;have d2:=hst'.cell (i:=2) rfl;obtain⟨wq,hwq⟩:∃wq:World,wq=wc:=⟨_,rfl⟩;rw[<-hwq] at hd' hr' hst' hnx' hbel' c1 c2 d0 d1 d2;rw[<-hwq];clear hwq;go_wp2_with fail
        go_cut [71] (fun s71 wx=>s71=.bool (rM r s.size M y x != 0)/\Dat wx g cap s.size h/\Arr wx b 3 (tab s.size r)/\Arr wx (w.heap.size+1) 223 [.string s,.slice (some ⟨b,0,none⟩) s.size s.size,.int .i64 (M:Int)]/\
         Arr wx w2.heap.size 3 (tab s.size (gH f x z))/\Below w.heap.size w wx)
        case first=>as_aux_lemma=>
         have hcmp:∀W,Arr W b 3 (tab s.size r)->Calls Tryz.prog 144 #[pP s b s.size M,.int .i64 (y:Int),.int .i64 (x:Int)] W fun e w'=>e=.returned (.int .i64 (rM r s.size M y x))/\Below W.heap.size W w':=
          fun W hW=>RB s b s.size M y x r W rfl hn (by omega) hyn hxn hW
         unfold pP at hcmp;have HC:=hid hcmp;clear hcmp;have hbq':=hr'.lt;have hS0:=yL ⟨d0,d1,d2,c2,c1,aB wq.heap.size wq,aA _⟩ (aB wq.heap.size wq).drew;clear c1 c2 d0 d1 d2
         go_region_held3 (fun w'=>w'.cell? ⟨w.heap.size+1,0,none⟩=some (.string s)/\w'.cell? ⟨w.heap.size+1,1,none⟩=some (.slice (some ⟨b,0,none⟩) s.size s.size)/\w'.cell? ⟨w.heap.size+1,2,none⟩=some (.int .i64 (M:Int))/\
           w'.cell? ⟨g,p-1,none⟩=some (.int .i64 (y:Int))/\w'.cell? ⟨g,p,none⟩=some (.int .i64 (x:Int))/\Below wq.heap.size wq w'/\wq.heap.size<=w'.heap.size)
          (first
           |with_reducible assumption
           |with_reducible exact yL (by assumption) (by assumption))
          (first
           |(go_at_call 144;refine(HC.out _ (JH hr' hbq' (by assumption))).mono ?_;rintro e w' ⟨rfl,hb⟩))
         all_goals go_wp2_with fail
         all_goals go_meet
         all_goals(have hb:=RA (aB wq.heap.size wq) (by assumption) (aA _);exact⟨rfl,hd'.below hb hd'.lt,hr'.below hb hr'.lt,hst'.below hb hst'.lt,hnx'.below hb hnx'.lt,hbel'.trans (hb.mono hbel'.size)⟩)
        case rest=>
         obtain⟨rfl,hd,hr,hst,hnx,hbel⟩:=hcut;clear hd' hr' hst' hnx' hbel' c1 c2 d0 d1 d2;have hcs:=(QX (x:=y) (y:=x) (sX s) HK.out hyn hxn).2;rw[<-QZ] at hcs;have hvs:=JP (bX s) (max (2*M) 1) h (p-1);rw[show p-1+1=p by omega,<-HX.out,<-HY.out,<-HZ.out] at hvs
         by_cases hne:rM r s.size M y x=0
         ·have t1:(rM r s.size M y x != 0)=false:=by simp[hne]
          have hvp:vr (bX s) (max (2*M) 1) h p=z:=(hvs.resolve_right (fun q=>q.1 (hcs.1 hne))).2;have HVP:=hid hvp;clear hvp hvs hcs hne;rw[t1];clear t1;go_wp2_with fail;have hg:=HG3.out
          go_roundg (s.size-(p+1))
          case measure=>omega
          case rel=>
           refine⟨p+1,gH f x z,by omega,by omega,rfl,by go_num,hd,hr,hst,hnx,hid (fun j hj=>?_),hbel⟩;unfold gH;rcases bT j p with q|q
           ·have hnj:=HORD.out.ne (i:=j) (j:=p) (by omega) hlt (by omega);have bj:=HORD.out.rng j (by omega);have ep:=EX.out;rw[if_neg (by omega)];exact HV.out j q
           ·have:j=p:=by omega
            subst this;rw[if_pos HX.out.symm,HVP.out]
         ·have t1:(rM r s.size M y x != 0)=true:=by simp[hne]
          have hvp:vr (bX s) (max (2*M) 1) h p=z+1:=(hvs.resolve_left (fun q=>hne (hcs.2 q.1))).2;have HVP:=hid hvp;have c1:=hd.cell (k:=p) hlt;rw[EX.out] at c1;have c4:=hnx.cell (iS s.size (gH f x z) x hxn);have f1:=hnx.free x;have ez:gH f x z x=z:=by unfold gH;rw[if_pos rfl]
          rw[ez] at c4;have s10:aI.wrap (z+1)=z+1:=tS _ (by omega);clear hvp hvs hcs hne ez;rw[t1];clear t1;go_wp2_with fail;have hg:=HG3.out
          go_roundg (s.size-(p+1))
          case measure=>omega
          case rel=>
           refine⟨p+1,gH (gH f x z) x (z+1),by omega,by omega,rfl,by go_num,hd.other _ (by show w2.heap.size≠g;omega) _,hr.other _ (by show w2.heap.size≠b;omega) _,hst.other _ (by show w2.heap.size≠w.heap.size+1;omega) _,?_,hid (fun j hj=>?_),hbel.setCell (by show w.heap.size<=w2.heap.size;omega) _⟩
           ·have e:=qD s.size (gH f x z) (gH (gH f x z) x (z+1)) x (z+1) (fun d _=>rfl);rw[<-e];exact hnx.set x _
           ·unfold gH;rcases bT j p with q|q
            ·have hnj:=HORD.out.ne (i:=j) (j:=p) (by omega) hlt (by omega);have bj:=HORD.out.rng j (by omega);have ep:=EX.out;rw[if_neg (by omega),if_neg (by omega)];exact HV.out j q
            ·have:j=p:=by omega
             subst this;rw[if_pos HX.out.symm,HVP.out]
      ·have hpe:p=s.size:=by omega
       subst hpe;have c0:=hst.cell (i:=0) rfl;have c1:=hst.cell (i:=1) rfl;have c2:=hst.cell (i:=2) rfl;have f1:=hst.free 1;have f2:=hst.free 2;have hrk:=aF0 HORD.out (v:=vr (bX s) (max (2*M) 1) h) (r:=f) (fun i _=>JP _ _ _ i) (fun i hi=>HV.out i hi);have HRK:=hid hrk;clear hrk;obtain⟨m',hm'⟩:∃m',m'=max (2*M) 1:=⟨_,rfl⟩;rw[<-hm'] at HRK HORD;have e1:max (2*(M:Int)) 1=((m':Nat):Int):=by omega
       have hM1:M<m':=by omega
       have hM2:m'<=2*s.size:=by omega
       have hM3:1<=m':=by omega
       clear hm'
       by_cases hend:s.size<=m'
       ·have t1:decide ((s.size:Int)<=(m':Int))=true:=by simp;omega
        have t2:decide (s.size<=m')=true:=by simpa using hend
        go_wp2_with fail;go_ret;exact⟨_,h,rfl,HORD.out.full (sX s) h0 hend,aGs ((hd.other _ (by show w.heap.size+1≠g;omega) _).other _ (by show w.heap.size+1≠g;omega) _) (by omega) hcap,
         (hbel.setCell (by show w.heap.size<=w.heap.size+1;omega) _).setCell (by show w.heap.size<=w.heap.size+1;omega) _⟩
       ·have t1:decide ((s.size:Int)<=(m':Int))=false:=by simp;omega
        have t2:decide (s.size<=m')=false:=by simpa using hend
        go_wp2_with fail;have hg:=HG2.out
        go_roundg (s.size-m')
        case measure=>omega
        case rel=>
         exact⟨m',w2.heap.size,f,h,by omega,rfl,rfl,(hd.other _ (by show w.heap.size+1≠g;omega) _).other _ (by show w.heap.size+1≠g;omega) _,hid ⟨HORD.out.rng,fun i j h1 h2=>HORD.out.ne (by omega) h2 (by omega)⟩,
          (hnx.other _ (by show w.heap.size+1≠w2.heap.size;omega) _).other _ (by show w.heap.size+1≠w2.heap.size;omega) _,(hst.set 1 _).set 2 _,hid (by rw[show max m' 1=m' by omega];exact HRK.out),by omega,by omega,by omega,
          (hbel.setCell (by show w.heap.size<=w.heap.size+1;omega) _).setCell (by show w.heap.size<=w.heap.size+1;omega) _⟩
theorem aG3 (s:ByteArray) (w:World) (hn:s.size<=1000000):
  Calls Tryz.prog 123 #[.string s] w fun e w'=>∃v o,e=.returned v/\Ord (bX s) s.size s.size o/\OwI w' w.heap.size v (gI s.size o)/\Below w.heap.size w w':=by
 rcases fJ s.size with h0|h0
 ·have e:=aGy h0;subst e;refine(aGz w).mono ?_;rintro e w' ⟨rfl,hb⟩;exact⟨_,fun _=>0,rfl,⟨fun k hk=>by simp at hk,fun i j _ _ h=>by simp at h⟩,OwI.nil _ _,hb⟩
 ·exact aG2 s w hn h0
def rot (s:ByteArray) (k:Nat):List UInt8:=s.data.toList.drop k++s.data.toList.take k
theorem yO (s:ByteArray) (k:Nat) (h:k<=s.size):(rot s k).length=s.size:=by
 simp[rot];omega
theorem JQ (s:ByteArray) (k i:Nat) (hk:k<s.size) (hi:i<s.size):(rot s k)[i]? =some (s.data.toList.getD ((k+i)%s.size) 0):=by
 have hl:s.data.toList.length=s.size:=by simp
 unfold rot;rcases bT i (s.size-k) with h|h
 ·rw[List.getElem?_append_left (by rw[cI];omega),List.getElem?_drop,kU (by omega),fF,aN (by omega)];rfl
 ·rw[List.getElem?_append_right (by rw[cI];omega),cI,List.getElem?_take_of_lt (by omega),hl];have e:(k+i)%s.size=i-(s.size-k):=by
   rw[Nat.mod_eq_sub_mod (by omega),kU (by omega)];omega
  rw[e,fF,aN (by omega)];rfl
theorem JR (s:ByteArray) (k:Nat):s.extract k s.size++s.extract 0 k=mkS (rot s k):=by
 rw[nT,nT,pM];unfold rot;rw[List.drop_zero,Nat.sub_zero,cS (by simp)]
theorem aG4 (s:ByteArray) (k:Nat) (w:World) (hn:s.size<=1000000) (hk:k<=s.size):
  Calls Tryz.prog 124 #[.agg #[.string s],.int .i64 (k:Int)] w fun e w'=>e=.returned (.string (mkS (rot s k)))/\Below w.heap.size w w':=by
 have e:=JR s k;have HE:=hid e;clear e;go_enter Tryz.func124,Tryz.ntmps124;go_wp2
 go_quiet (fail)
 go_wp2;go_ret;exact⟨tY HE.out,iI (uM _ _) _⟩
def dM (s:ByteArray) (o:Nat->Int) (k:Nat):List UInt8:=(dG k).map (fun i=>s.data.toList.getD (((o i).toNat+(s.size-1))%s.size) 0)
theorem sY (s:ByteArray) (o:Nat->Int) (k:Nat):(dM s o k).length=k:=by simp[dM]
theorem JS (s:ByteArray) (o:Nat->Int) (k:Nat):dM s o (k+1)=dM s o k++[s.data.toList.getD (((o k).toNat+(s.size-1))%s.size) 0]:=by simp[dM,List.range_succ]
def fD (o:Nat->Int):Nat->Nat
 |0=>0
 |k+1=>if o k=0 then k else fD o k
theorem RQ (o:Nat->Int):∀k,fD o k<=k:=by
 intro k
 induction k with
 |zero=>exact aA _
 |succ k ih=>
   unfold fD;by_cases h:o k=0
   ·rw[if_pos h];omega
   ·rw[if_neg h];omega
theorem RR {ops:Array Oper} {rest:List Oper} {o:Oper} {a:Act} {Q:Exit->Act->World->Prop} {w:World} (hgd:o.guard=none) (s x:Operand)
  (ho:o.op=.call {callee:=.builtin .append,args:=#[s,x],argTypes:=#[75,75]}) (base:Nat) (v:Value) (l:List UInt8) (hs:a.eval s=v) (hown:OwB w base v l)
  (g:Nat) (b:UInt8) (hx:a.eval x=.slice (some ⟨g,0,none⟩) 1 1) (hc:w.cell? ⟨g,0,none⟩=some (.int .u8 (b.toNat:Int))) (hroom:(l.length+1)*1<=140737488355328) (hbase:base<=w.heap.size)
  (h:∀v' w',OwB w' base v' (l++[b])->Below base w w'->w.grownBy w' v.ownBlock->wpList Tryz.prog ops Q rest (a.put o.dst v') w'):wpList Tryz.prog ops Q (o::rest) a w:=
 rD vQ hgd s x ho base v _ hs hown g _ hx hc rfl (by simpa using hroom) hbase (fun v' w' q1 q2 q3=>h v' w' (by unfold OwB;rw[IC];exact q1) q2 q3)
theorem aG5 (s:ByteArray) (w:World) (hn:s.size<=1000000):
  Calls Tryz.prog 92 #[.string s] w fun e w'=>
   ∃o,Ord (bX s) s.size s.size o/\e=.returned (.tuple #[.string (mkS (dM s o s.size)),.int .i64 ((fD o s.size:Nat):Int)])/\Below w.heap.size w w':=by
 go_enter Tryz.func92,Tryz.ntmps92;go_wp2_with fail;refine(aG3 s _ hn).mono ?_;rintro e w1 ⟨v,o,rfl,hO,hown,hbel⟩;obtain⟨a,cap,rfl,hca,hma,hA⟩:=hown.rd.open;rw[mL] at hca hA ⊢;unfold maxLen at hma;have HO:=hid hO;have HA:=hid hA;clear hO hA hown;go_wp2_with fail
 go_loopg [3,4,5,6,7,11] s.size (fun gh s3 s4 _s5 _s6 _s7 s11 wr=>∃k:Nat,k<=s.size/\gh=s.size-k/\s11=.int .i64 k/\s3=.int .i64 ((fD o k:Nat):Int)/\OwB wr w1.heap.size s4 (dM s o k)/\Below w1.heap.size w1 wr)
 case atStart=>exact⟨0,aU _,rfl,rfl,rfl,Ow.nil _ _ _,aB _ _⟩
 case round=>
  obtain⟨k,hk,hg,rfl,rfl,hown,hbel1⟩:=hrel;have HG:=hid hg;clear hg
  by_cases hlt:k<s.size
  ·obtain⟨b,off,rfl,hbl,hc⟩:=HA.out (by omega);have hok:=HO.out.rng k hlt;obtain⟨kk,hkk⟩:∃kk,kk=(o k).toNat:=⟨_,rfl⟩;have ek:o k=(kk:Int):=by omega
   have hkn:kk<s.size:=by omega
   have c1:=(hbel1.cell (p:=⟨b,off+k,none⟩) hbl).trans (hc k _ (wC _ _ _ hlt));rw[ek] at c1;have EK:=hid ek;have HKK:=hid hkk;clear ek hkk hok hc;go_wp2_with fail;refine(aG4 s kk _ hn (by omega)).mono ?_;rintro e w2 ⟨rfl,hb2⟩;obtain⟨t,ht⟩:∃t,t=mkS (rot s kk):=⟨_,rfl⟩;rw[<-ht];have hts:t.size=s.size:=by rw[ht,cP,yO _ _ (by omega)]
   obtain⟨d,hd⟩:∃d,d=s.size-1:=⟨_,rfl⟩;have hdn:d<s.size:=by omega
   have hdt:d<t.size:=by omega
   have ed:(s.size:Int)-1=(d:Int):=by omega
   have hbyte:t[d]=s.data.toList.getD ((kk+d)%s.size) 0:=by
    have h1:=eW t d hdt;rw[show t.data.toList=rot s kk by rw[ht];rfl,JQ s kk d hkn hdn] at h1;exact(bW h1).symm
   have HBY:=hid hbyte;have HD:=hid hd;have hb:=t[d].toNat_lt;have hown2:=hown.below hb2 (aA _);have hbel2:=hbel1.trans (hb2.mono hbel1.size);clear hown hbel1 hbyte ht hd
   by_cases h0:kk=0
   ·have t1:((kk:Int)==0)=true:=by rw[beq_iff_eq];omega
    go_wp2_with (at_builtin;refine RR rfl _ _ rfl w1.heap.size _ _ rfl (hown2.alloc _) w2.heap.size t[d] rfl ?_ ?_ ?_ ?_;(exact bS _ _ _);(rw[sY];omega);(have:=hbel2.size;simp;omega);intro v' w3 hown' hB hgrow);have hg:=HG.out
    go_roundg (s.size-(k+1))
    case measure=>omega
    case rel=>
     refine⟨k+1,by omega,rfl,by go_num,?_,?_,(hbel2.alloc hbel2.size _).trans hB⟩
     ·unfold fD;rw[if_pos (by rw[EK.out];omega)]
     ·rw[JS,<-HKK.out,<-HD.out,<-HBY.out];exact hown'
   ·have t1:((kk:Int)==0)=false:=by rw[beq_eq_false_iff_ne];omega
    go_wp2_with (at_builtin;refine RR rfl _ _ rfl w1.heap.size _ _ rfl (hown2.alloc _) w2.heap.size t[d] rfl ?_ ?_ ?_ ?_;(exact bS _ _ _);(rw[sY];omega);(have:=hbel2.size;simp;omega);intro v' w3 hown' hB hgrow);have hg:=HG.out
    go_roundg (s.size-(k+1))
    case measure=>omega
    case rel=>
     refine⟨k+1,by omega,rfl,by go_num,?_,?_,(hbel2.alloc hbel2.size _).trans hB⟩
     ·show _=Value.int .i64 (((if o k=0 then k else fD o k:Nat)):Int);rw[if_neg (by rw[EK.out];omega)]
     ·rw[JS,<-HKK.out,<-HD.out,<-HBY.out];exact hown'
  ·have hke:k=s.size:=by omega
   subst hke;have hcv:=lQ hown.rd;go_wp2_with fail
   go_ret2
   exact⟨o,HO.out,rfl,hbel.trans (hbel1.mono hbel.size)⟩
end
section
theorem aLq {n x:Nat} (hn:0<n):(x+(n-1))%n<n:=jQ _ hn
theorem aLr {n x y:Nat} (hx:x<n) (hy:y<n) (h:(x+(n-1))%n=(y+(n-1))%n):x=y:=by
 have e:∀z,z<n->(z+(n-1))%n=if z=0 then n-1 else z-1:=by
  intro z hz
  by_cases h0:z=0
  ·rw[if_pos h0,h0,iZ];exact kU (by omega)
  ·rw[if_neg h0,show z+(n-1)=(z-1)+n by omega,aCi];exact kU (by omega)
 rw[e x hx,e y hy] at h;split at h<;>split at h<;>omega
theorem aLs {n y:Nat} (hy:y<n):((y+1)%n+(n-1))%n=y:=by
 rw[AO,show y+1+(n-1)=y+n by omega,aCi];exact kU hy
theorem aLt {c:Nat->Nat} {n m:Nat} {o:Nat->Int} (h:Ord c n m o):((dG n).map (fun i=>((o i).toNat+(n-1))%n)).Perm (dG n):=by
 rw[List.perm_ext_iff_of_nodup ?_ List.nodup_range]
 ·intro y;rw[List.mem_map,jF];constructor
  ·rintro⟨i,hi,rfl⟩;exact aLq (by have:=jF.1 hi;omega)
  ·intro hy;obtain⟨k,hk,e⟩:=h.onto (y:=(y+1)%n) (jQ _ (by omega));exact⟨k,jF.2 hk,by rw[e,eG];exact aLs hy⟩
 ·unfold List.Nodup;rw[List.pairwise_map];refine aB5 ?_ List.pairwise_lt_range;intro a b ha hb hab e;have ha':=jF.1 ha;have hb':=jF.1 hb;have ra:=h.rng a ha';have rb:=h.rng b hb';have:=aLr (by omega) (by omega) e;exact h.ne ha' hb' (by omega) (by omega)
theorem aLu (l:List UInt8):(dG l.length).map (fun i=>l.getD i 0)=l:=by
 apply jA;intro i
 by_cases h:i<l.length
 ·simp[h]
 ·rw[dL (by simp;omega),dL (by omega)]
theorem LN (s:ByteArray) {c:Nat->Nat} {m:Nat} {o:Nat->Int} (h:Ord c s.size m o):(dM s o s.size).Perm s.data.toList:=by
 have h1:=(aLt h).map (fun i=>s.data.toList.getD i 0);rw[xJ] at h1;have h2:=aLu s.data.toList;rw[show s.data.toList.length=s.size by simp] at h2;rw[h2] at h1;exact h1
theorem aLv (o:Nat->Int):∀k,(∃j,j<k/\o j=0)->fD o k<k/\o (fD o k)=0:=by
 intro k
 induction k with
 |zero=>rintro⟨j,hj,_⟩;omega
 |succ k ih=>
  rintro⟨j,hj,e⟩;unfold fD
  by_cases h:o k=0
  ·rw[if_pos h];exact⟨by omega,h⟩
  ·rw[if_neg h];have hjk:j<k:=by
    rcases bT j k with q|q
    ·exact q
    ·have:j=k:=by omega
     subst this;exact absurd e h
   have:=ih ⟨j,hjk,e⟩;exact⟨by omega,this.2⟩
theorem aLw {c:Nat->Nat} {n m:Nat} {o:Nat->Int} (h:Ord c n m o) (hn:0<n):fD o n<n/\o (fD o n)=0:=
 aLv o n (by obtain⟨k,hk,e⟩:=h.onto (y:=0) hn;exact⟨k,hk,by simpa using e⟩)
end
section
open Go.RowKit
theorem yP (s:ByteArray) {k i:Nat} (hk:k<s.size) (hi:i<s.size):∃b,(rot s k)[i]? =some b/\b.toNat=bX s (k+i):=⟨_,JQ s k i hk hi,rfl⟩
theorem aG8 {s:ByteArray} {o o':Nat->Int} {n:Nat} (h:∀k,k<n->o k=o' k):dM s o n=dM s o' n:=by
 unfold dM;exact qW (fun k hk=>by rw[h k (by simpa using hk)])
theorem aG9 {o o':Nat->Int}:∀{n:Nat},(∀k,k<n->o k=o' k)->fD o n=fD o' n:=by
 intro n
 induction n with
 |zero=>intro _;rfl
 |succ n ih=>intro h;unfold fD;rw[h n (by omega),ih (fun k hk=>h k (by omega))]
end
section
theorem XO {N:Nat} {lt:Nat->Nat->Prop} (hir:∀x,¬lt x x) (htr:∀x y z,lt x z->lt x y\/lt y z) {a b:Nat->Nat}
  (ainj:∀i j,i<N->j<N->a i=a j->i=j) (bonto:∀i,i<N->∃j,j<N/\b j=a i)
  (asd:∀i j,i<j->j<N->¬lt (a j) (a i)) (bs:∀i j,i<j->j<N->¬lt (b j) (b i)):∀i,i<N->¬lt (a i) (b i):=by
 intro i hi h;have key:∀k,k<=i->∃j,j<i/\b j=a k:=by
  intro k hk;obtain⟨j,hj,e⟩:=bonto k (by omega);refine⟨j,?_,e⟩;have h1:lt (a k) (b i):=by
   rcases htr (a i) (a k) (b i) h with p|p
   ·exfalso;rcases bT k i with q|q
    ·exact asd k i q hi p
    ·have:k=i:=by omega
     subst this;exact hir _ p
   ·exact p
  rw[<-e] at h1;rcases Nat.lt_trichotomy j i with p|p|p
  ·exact p
  ·subst p;exact absurd h1 (hir _)
  ·exact absurd h1 (bs i j p hj)
 obtain⟨f,hf⟩:∃f:Nat->Nat,∀k,k<=i->f k<i/\b (f k)=a k:=by
  refine⟨fun k=>if h:k<=i then Classical.choose (key k h) else 0,fun k hk=>?_⟩;have:=Classical.choose_spec (key k hk);simp only[dif_pos hk];exact this
 obtain⟨x,y,h1,h2,h3⟩:=php i f (fun k hk=>(hf k hk).1);have e1:=(hf x (by omega)).2;have e2:=(hf y h2).2;rw[h3,e2] at e1;have:=ainj y x (by omega) (by omega) e1;omega
theorem XP {c:Nat->Nat} {m:Nat} (x y z:Nat) (h:ltm c m x z):ltm c m x y\/ltm c m y z:=by
 rcases uL c x y m with p|p|p
 ·exact .inl p
 ·exact .inr (p.symm.ltm h)
 ·exact .inr (p.trans h)
theorem aNv {c:Nat->Nat} {m N:Nat} {a b:Nat->Nat} (ainj:∀i j,i<N->j<N->a i=a j->i=j) (binj:∀i j,i<N->j<N->b i=b j->i=j)
  (aonto:∀i,i<N->∃j,j<N/\a j=b i) (bonto:∀i,i<N->∃j,j<N/\b j=a i)
  (asd:∀i j,i<j->j<N->¬ltm c m (a j) (a i)) (bs:∀i j,i<j->j<N->¬ltm c m (b j) (b i)):∀i,i<N->eqm c m (a i) (b i):=by
 intro i hi;have h1:=XO (lt:=ltm c m) (fun _=>ltm.irrefl) XP ainj bonto asd bs i hi;have h2:=XO (lt:=ltm c m) (fun _=>ltm.irrefl) XP binj aonto bs asd i hi;rcases uL c (a i) (b i) m with p|p|p
 ·exact absurd p h1
 ·exact p
 ·exact absurd p h2
theorem Ord.weak {c:Nat->Nat} {n m:Nat} {o:Nat->Int} (h:Ord c n m o) {i j:Nat} (hij:i<j) (hj:j<n):¬ltm c m (o j).toNat (o i).toNat:=by
 intro k;rcases h.srt i j (aU _) hij hj with p|⟨p,_⟩
 ·exact p.asymm k
 ·exact k.not_eqm p.symm
theorem Ord.nat {c:Nat->Nat} {n m:Nat} {o:Nat->Int} (h:Ord c n m o) {i:Nat} (hi:i<n):o i=(((o i).toNat:Nat):Int)/\(o i).toNat<n:=by
 have:=h.rng i hi;omega
theorem Ord.inj {c:Nat->Nat} {n m:Nat} {o:Nat->Int} (h:Ord c n m o) {i j:Nat} (hi:i<n) (hj:j<n) (e:(o i).toNat=(o j).toNat):i=j:=by
 apply aCc;intro hne;have h1:=(h.nat hi).1;have h2:=(h.nat hj).1;exact h.ne hi hj hne (by rw[h1,h2,e])
theorem aNw {n k x y:Nat} (hx:x<n) (hy:y<n) (h:(x+k)%n=(y+k)%n):x=y:=by
 have e:∀z,z<n->((z+k)%n+(n-k%n))%n=z:=by
  intro z hz;have hk:=jQ k (show 0<n by omega);rw[AO,<-AO];have e1:z+k+(n-k%n)=z+n*(k/n+1):=by
   have:=NU k n;rw[Nat.mul_add,sE];omega
  rw[AO,e1,aTo,kU hz]
 rw[<-e x hx,<-e y hy,h]
theorem aNx {n k y:Nat} (hy:y<n):∃x,x<n/\(x+k)%n=y:=by
 refine⟨(y+(n-k%n))%n,jQ _ (by omega),?_⟩;have hk:=jQ k (show 0<n by omega);have e1:y+(n-k%n)+k=y+n*(k/n+1):=by
  have:=NU k n;rw[Nat.mul_add,sE];omega
 rw[AO,e1,aTo,kU hy]
theorem aNy (s:ByteArray) (o:Nat->Int) (n:Nat) {i:Nat} (hi:i<n):∃b,(dM s o n)[i]? =some b/\b.toNat=bX s ((o i).toNat+(s.size-1)):=by
 refine⟨s.data.toList.getD (((o i).toNat+(s.size-1))%s.size) 0,?_,rfl⟩;unfold dM;rw[List.getElem?_map,List.getElem?_range hi];rfl
theorem aNz {x y:List UInt8} (hl:x.length=y.length) (h:∀i,i<x.length->∃a b,x[i]? =some a/\y[i]? =some b/\a.toNat=b.toNat):x=y:=by
 apply jA;intro i
 by_cases hi:i<x.length
 ·obtain⟨a,b,h1,h2,h3⟩:=h i hi;rw[h1,h2,qV.1 h3]
 ·rw[dL (by omega),dL (by omega)]
theorem aN5 (s:List UInt8):∀j,j<s.length->∀i,i<j->(s.getD (nxt s i) 0).toNat<(s.getD (nxt s j) 0).toNat\/((s.getD (nxt s i) 0).toNat=(s.getD (nxt s j) 0).toNat/\nxt s i<nxt s j):=by
 intro j
 induction j with
 |zero=>intro _ i hi;omega
 |succ j ih=>
  intro hj i hi;obtain⟨h1,h2⟩:=aFx s j hj;rcases bT i j with p|p
  ·rcases ih (by omega) i p with q|⟨q,q'⟩
   ·exact .inl (by omega)
   ·rcases bT (s.getD (nxt s j) 0).toNat (s.getD (nxt s (j+1)) 0).toNat with t|t
    ·exact .inl (by omega)
    ·have:=h2 (by omega);exact .inr ⟨by omega,by omega⟩
  ·have:i=j:=by omega
   subst this;rcases bT (s.getD (nxt s i) 0).toNat (s.getD (nxt s (i+1)) 0).toNat with t|t
   ·exact .inl t
   ·exact .inr ⟨by omega,h2 (by omega)⟩
theorem XW {c:Nat->Nat} {n:Nat} (hc:Cyc c n) (hn:0<n) {x y:Nat} (h:eqm c n x y) (t:Nat):c (x+t)=c (y+t):=
 (hc.all hn (m:=n+t+1) (by omega)).1.2 h t (by omega)
theorem XX {c:Nat->Nat} {n:Nat} (hc:Cyc c n) (hn:0<n) {x y:Nat} (h:eqm c n x y) (k:Nat):eqm c n (x+k) (y+k):=fun t _=>by
 rw[dZ,dZ];exact XW hc hn h _
theorem LY {c:Nat->Nat} {n:Nat} (hc:Cyc c n) (x:Nat):eqm c n (x+n) x:=fun t _=>by
 rw[show x+n+t=x+t+n by omega,hc]
section
variable {s:ByteArray} {o:Nat->Int}
theorem LZ (_h:Ord (bX s) s.size s.size o) {i:Nat} (hi:i<s.size):((dM s o s.size).getD i 0).toNat=bX s ((o i).toNat+(s.size-1)):=by
 obtain⟨b,h1,h2⟩:=aNy s o s.size hi;rw[fF,h1];exact h2
theorem aN6 (h:Ord (bX s) s.size s.size o):∀i,i<s.size->eqm (bX s) s.size ((o (nxt (dM s o s.size) i)).toNat+(s.size-1)) (o i).toNat:=by
 have hc:=sX s;have hl:=sY s o s.size;have hlt:∀{i},i<s.size->nxt (dM s o s.size) i<s.size:=fun{i} hi=>by have:=CK (dM s o s.size) i (by omega);omega
 intro i hi;rw[<-hc.eqm,kU (h.nat hi).2];refine aNv (a:=fun i=>((o (nxt (dM s o s.size) i)).toNat+(s.size-1))%s.size) (b:=fun i=>(o i).toNat) (N:=s.size) ?_ (fun i j hi hj e=>h.inj hi hj e) ?_ ?_ ?_ (fun i j hij hj=>h.weak hij hj) i hi
 ·intro i j hi hj e;have e1:=aNw (h.nat (hlt hi)).2 (h.nat (hlt hj)).2 e;exact aFl _ i j (by omega) (by omega) (h.inj (hlt hi) (hlt hj) e1)
 ·intro i hi;obtain⟨x,hx,e⟩:=aNx (k:=s.size-1) (h.nat hi).2;obtain⟨j,hj,e'⟩:=h.onto hx;have hp:=QO (dM s o s.size) j (by omega);refine⟨jI (dM s o s.size) j,by omega,?_⟩;rw[aFk _ j (by omega),e',eG,e]
 ·intro i hi;obtain⟨j,hj,e⟩:=h.onto (y:=((o (nxt (dM s o s.size) i)).toNat+(s.size-1))%s.size) (jQ _ (by omega));exact⟨j,hj,by rw[e,eG]⟩
 ·intro i j hij hj;have hn:0<s.size:=by omega
  have hi:i<s.size:=by omega
  have v:=aN5 (dM s o s.size) j (by omega) i hij;rw[LZ h (hlt hi),LZ h (hlt hj)] at v;have bi:=h.nat (hlt hi);have bj:=h.nat (hlt hj);rw[hc.ltm,<-(hc.all hn (m:=1+s.size) (by omega)).2,QW];rintro(⟨t,t1,_,t3⟩|⟨t,t'⟩)
  ·have:t=0:=by omega
   subst this;simp only[pH] at t3;omega
  ·have e1:=t 0 (by omega);simp only[pH] at e1;rcases v with v|⟨_,v⟩
   ·omega
   ·rw[show(o (nxt (dM s o s.size) j)).toNat+(s.size-1)+1=(o (nxt (dM s o s.size) j)).toNat+s.size by omega,
     show(o (nxt (dM s o s.size) i)).toNat+(s.size-1)+1=(o (nxt (dM s o s.size) i)).toNat+s.size by omega] at t'
    have t2:=((LY hc _).symm.ltm t').eqm (LY hc _);exact h.weak v (hlt hj) t2
theorem aN7 (h:Ord (bX s) s.size s.size o) {i:Nat} (hi:i<s.size):eqm (bX s) s.size (o (nxt (dM s o s.size) i)).toNat ((o i).toNat+1):=by
 have hc:=sX s;have hn:0<s.size:=by omega
 have:=XX hc hn (aN6 h i hi) 1;rw[show(o (nxt (dM s o s.size) i)).toNat+(s.size-1)+1=(o (nxt (dM s o s.size) i)).toNat+s.size by omega] at this;exact(LY hc _).symm.trans this
theorem aN8 (h:Ord (bX s) s.size s.size o) {k:Nat} (hk:k<s.size):∀j,eqm (bX s) s.size (o (kJ (dM s o s.size) j k)).toNat ((o k).toNat+j):=by
 have hc:=sX s;have hn:0<s.size:=by omega
 have hl:=sY s o s.size;intro j
 induction j with
 |zero=>exact eqm.refl _ _
 |succ j ih=>
  have hw:=sU (dM s o s.size) k (by omega) j;exact(aN7 h (by omega)).trans (XX hc hn ih 1)
theorem aN9 (h:Ord (bX s) s.size s.size o) {k:Nat} (hk:k<s.size):nF (dM s o s.size) k=rot s (o k).toNat:=by
 have hl:=sY s o s.size;have hok:=(h.nat hk).2;have hn:0<s.size:=by omega
 refine aNz (by rw[CN,yO _ _ (by omega),hl]) (fun i hi=>?_);rw[CN,hl] at hi;obtain⟨b,h1,h2⟩:=yP s hok hi;refine⟨_,b,aFv _ _ _ (by omega),h1,?_⟩;have hw:=sU (dM s o s.size) k (by omega) (i+1);rw[LZ h (by omega),h2,XW (sX s) hn (aN8 h hk (i+1)) (s.size-1),show(o k).toNat+(i+1)+(s.size-1)=(o k).toNat+i+s.size by omega,sX s]
end
end
end Go.Proofs.YtpgmbhpbgkljdaaGreatDoor
