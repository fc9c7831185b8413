/-
  Texts put together (part 19): the walks and the plain laws on which the statement stands.
-/
import Derived.Test.YtihbnmlinkbnkaaGreatDoorZ13
import Derived.Test.YtihbnmlinkbnkaaGreatDoorZ14
import Derived.Test.YtihbnmlinkbnkaaGreatDoorZ15
import Derived.Test.YtihbnmlinkbnkaaGreatDoorZ16
set_option maxRecDepth 100000
set_option maxHeartbeats 12800000
set_option linter.unusedVariables false
set_option linter.unusedSimpArgs false
open Go.Proofs.Tryz
open Go.Proofs.Tryz renaming prog->pG
open Go renaming bodyPost_ret->fM
open Go.IntKind renaming i64->aJ,wrap_i64->aM
open Go.Lib renaming bytesWorld_size->aLj,toList_data->pY
open Go.Result renaming andThen->lW
open Go.RowKit.Below renaming heap_alloc->oO,refl->aH
open Go.Value renaming slice->mM
open Go.World renaming cell?_of_block->rW,frozen?_of_block->WQ,grownBy_alloc->II,size_alloc->fP
open List renaming length_take->aQ,mem_of_getElem?->cN,take_add_one->cG,take_of_length_le->cD
open Nat renaming le_refl->aD,le_trans->aR,lt_of_lt_of_le->fB,zero_le->aO
open Option renaming toList_some->rD
namespace Go.Proofs.YtihbnmlinkbnkaaGreatDoor
open Go.RowKit
structure Tel (w:World) (B C tb g cap:Nat) (l:List UInt8) (pv:Value) (ps:List Int):Prop where
 c0:w.cell? ⟨tb,0,none⟩=some (.slice (some ⟨g,0,none⟩) l.length cap)
 c1:w.cell? ⟨tb,1,none⟩=some pv
 fr:w.frozen? ⟨tb,1,none⟩=false
 by':ByA w g l
 own:OwI w C pv ps
 sep:B<=g/\B<=tb/\tb≠g/\g<C/\tb<C/\C<=w.heap.size
theorem EA (w:World) (row:Option Nat):w.grownBy w row:=⟨rfl,rfl,rfl,aD _,fun _ _ _=>rfl⟩
theorem OwI.kept {w w':World} {B:Nat} {v:Value} {l:List Int} {row:Option Nat} (h:OwI w B v l) (d:w.grownBy w' row) (A:∀b,row=some b->b<B):OwI w' B v l:=by
 refine Ow.kept h d ?_
 cases e:v.ownBlock with
 |none=>exact .inl rfl
 |some k=>
  right
  intro F;have:=A k F.symm;have:=(Ow.lt h k e).1;omega
theorem aOe {w A:World} {C d g:Nat} {l:List UInt8} {x y:Value} {o:Obj} (I:w.cell? ⟨d,0,none⟩=some x) (J:w.cell? ⟨d,1,none⟩=some y) (L:w.frozen? ⟨d,1,none⟩=false) (M:ByA w g l) (O:g<C) (F:d<C) (U:C<=w.heap.size) (G:Below C (w.alloc o) A):
  A.cell? ⟨d,0,none⟩=some x/\A.cell? ⟨d,1,none⟩=some y/\A.frozen? ⟨d,1,none⟩=false/\ByA A g l:=by
 have H:d<w.heap.size:=fB F U;refine⟨?_,?_,?_,((M.kept (row:=none) (II w o none) (by simp)).below G O)⟩
 ·rw[G.cell (p:=⟨d,0,none⟩) F,rW (oO w o d H)];exact I
 ·rw[G.cell (p:=⟨d,1,none⟩) F,rW (oO w o d H)];exact J
 ·rw[G.frozen (p:=⟨d,1,none⟩) F,WQ (oO w o d H)];exact L
theorem aOf (B C d g cap:Nat) (l:List UInt8) (pv:Value) (G:List Int) (c:UInt8) (w w0:World) (hT:Tel w B C d g cap l pv G) (a4:Below B w0 w) (O:c∈l) (hl:l.length<=1000) (a5:l.length<=cap) (a6:cap<=maxLen) (hp:G.length<=1000000):
  Calls pG 241 #[.pointer (some ⟨d,0,none⟩),.int .u8 (c.toNat:Int)] w fun e w'=>e=.returned (.bool true)/\Below B w0 w'/\∃A,Tel w' B C d g cap (gC l (plc l c)) A (G++[((plc l c:Nat):Int)]):=by
 obtain⟨t1,t2,t3,U,a7,hg,V,I,Z,a0,a8⟩:=hT;have a1:=vP O;obtain⟨p,J⟩:∃p,p=plc l c:=⟨_,rfl⟩;rw[<-J] at a1;have HP:=hid J;clear J;rw[<-HP.out];have b5:=c.toNat_lt;have b6:=aE (show ¬(p:Int)<0 by omega);go_enter func241,ntmps241;go_wp2_with fail;refine(aOd g cap l c _ U O).mono ?_;rintro e w1 ⟨rfl,rfl⟩;rw[<-HP.out];go_wp2_with (at_builtin;refine gK rfl _ _ rfl C _ _ rfl (a7.alloc _) w1.heap.size (p:Int) rfl ?_ ?_ ?_ ?_;(exact bX _ _ _);omega;(simp;omega);intro v' F L M _;obtain⟨a3,c3,e3,_,_,_⟩:=L.rd.open;subst e3;obtain⟨u1,u2,u3,u4⟩:=aOe t1 t2 t3 U Z a0 a8 M)
 rw[show(G++[(p:Int)]).length=G.length+1 by simp] at L;generalize hv:mM a3 (G.length+1) c3=A at*
 have a9:C<=F.heap.size:=by have:=M.size;simp at this;omega
 have a2:=qS (EA F (some d)) 1 A;have b0:=u4.kept a2 (by simp;omega);have b1:=L.kept a2 (fun b e=>by simp at e;omega);have q0:(F.setCell ⟨d,1,none⟩ A).cell? ⟨d,0,none⟩=some (.slice (some ⟨g,0,none⟩) l.length cap):=by
  rw[World.cell?_setCell_other _ _ _ _ (by simp)];exact u1
 have q1:(F.setCell ⟨d,1,none⟩ A).cell? ⟨d,1,none⟩=some A:=World.cell?_setCell_same _ _ _ u2;have q2:(F.setCell ⟨d,1,none⟩ A).frozen? ⟨d,1,none⟩=false:=by rw[World.frozen?_setCell];exact u3
 have b2:Below B w0 (F.setCell ⟨d,1,none⟩ A):=((a4.alloc (by omega) _).trans (M.mono (by omega))).setCell V _;have b3:C<=(F.setCell ⟨d,1,none⟩ A).heap.size:=by simpa using a9
 generalize F.setCell ⟨d,1,none⟩ A=w4 at*
 refine(aAc g cap p l _ b0 a1 hl a5 a6).mono ?_;rintro e w5 ⟨rfl,b4,H⟩;have b7:=(l[p]).toNat_lt;go_wp2_with fail;go_ret;have tl:=(BF l p).symm;refine⟨rfl,b2.grown H (by omega) (fun k e=>by simp at e;omega),A,⟨?_,?_,?_,b4,b1.kept H (fun b e=>by simp at e;omega),hg,V,I,Z,a0,aR b3 H.size⟩⟩
 ·rw[rW (H.block d (by omega) (by simpa using I)),<-tl];exact q0
 ·rw[rW (H.block d (by omega) (by simpa using I))];exact q1
 ·rw[WQ (H.block d (by omega) (by simpa using I))];exact q2
theorem aOg (w:World) (e:TypeId) (s:ByteArray):Below w.heap.size w (Lib.bytesWorld w e s):=
 ⟨rfl,rfl,rfl,by rw[aLj];omega,fun k d=>Lib.bytesWorld_at_old w e s k d⟩
theorem PZ (w:World) (a:ByteArray) (F:a.size<=1000000):∃cap w',(convert 9 48 (.string a)).run pG w=.ok (.slice (some ⟨w.heap.size,0,none⟩) a.size cap) w'/\a.size<=cap/\cap<=maxLen/\ByA w' w.heap.size a.data.toList/\Below w.heap.size w w'/\w'.heap.size=w.heap.size+1:=by
 refine⟨grownCap w a.size 0 5,Lib.bytesWorld w 5 a,Lib.run_convert_string_bytes w _ _ _ a underlying9 underlying48 underlying5,grownCap_ge _ _ _ _,grownCap_le_maxLen _ _ _ _ (by unfold maxLen;omega),⟨?_,?_,?_⟩,aOg _ _ _,aLj _ _ _⟩
 ·rw[aLj];omega
 ·intro j b d;have A:j<a.size:=by simpa using(List.getElem?_eq_some_iff.1 d).1
  rw[Lib.bytesWorld_cell w _ a j A,List.getD_eq_getElem?_getD,d];rfl
 ·intro j d;have A:j<a.size:=by simpa using d
  have G:j<(Lib.bytesCells w 5 a).size:=by
   unfold Lib.bytesCells;rw[Array.size_append,Array.size_map];have:a.data.size=a.size:=rfl;omega
  simp only[World.frozen?,Lib.bytesWorld_at_new];simp;omega
theorem EB {P:Program} {G:Func} {p u:Tmp} {A:TypeId} (h:G.results=#[.cell p A,.tmp u]) (tmps:Array Value) (w:World) (g:Nat) (t:TypeId) (F:Array Value) (H:Nat×Nat) (d:TypeDesc)
  (I:tmps.getD p undef=.pointer (some ⟨g,0,none⟩)) (J:w.heap[g]? =some (.cells F t H))
  (L:P.underlying A=some d) (M:(match d with|.struct _|.array _ _=>true|_=>false)=true) (hi:(P.info? A).map (·.size)=some F.size):
  (results G tmps).run P w=.ok (.tuple #[.agg F,tmps.getD u undef]) w:=by
 rw[results_cell_tmp h,I];simp[asAddr,lW,run_loadVar_row w g t A F H d J L M hi]
theorem aOh:(pG.info? 253).map (·.size)=some 2:=by kernel_rfl
theorem aOi (a s:ByteArray) (w:World) (ha:a.size<=1000) (hs:s.size<=1000000) (U:a.data.toList.Nodup) (V:∀b∈s.data.toList,b∈a.data.toList):
  Calls pG 194 #[.string a,.string s] w fun e w'=>∃ad n c v,e=.returned (.tuple #[.agg #[.slice ad n c,v],.int .i64 0])/\OwI w' w.heap.size v (dL a.data.toList s.data.toList)/\Below w.heap.size w w':=by
 have HN:=hid U;have a8:=hid V;have Z:s.data.toList.length=s.size:=by simp
 have a0:a.data.toList.length=a.size:=by simp
 have HL:=hid Z;have a1:=hid a0;clear U V Z a0;go_enter func194,ntmps194;go_wp2_with fail;have a2:=Arr.new w 253 [.slice none 0 0,.slice none 0 0];have c6:=(aH (w.heap.size+1) (w.alloc (.cells #[.slice none 0 0,.slice none 0 0] 253)));have a9:=((aH w.heap.size w).alloc (aD _) (.cells #[.slice none 0 0,.slice none 0 0] 253));have b0:(w.alloc (.cells #[.slice none 0 0,.slice none 0 0] 253)).heap.size=w.heap.size+1:=by simp
 change Arr (w.alloc (.cells #[.slice none 0 0,.slice none 0 0] 253)) _ _ _ at a2;generalize w.alloc (.cells #[.slice none 0 0,.slice none 0 0] 253)=w1 at*
 obtain⟨cap,w2,b1,c7,b2,a4,b3,H⟩:=PZ w1 a (by omega);rw[b1];rw[b0] at H a4;have b4:=a4.kept (row:=none) (II w2 (.cells #[.slice (some ⟨w.heap.size+1,0,none⟩) a.size cap,.slice none 0 0] 253) none) (by simp);have A:=Arr.new w2 253 [.slice (some ⟨w.heap.size+1,0,none⟩) a.size cap,.slice none 0 0];have b5:Below (w.heap.size+1) w1 (w2.alloc (.cells #[.slice (some ⟨w.heap.size+1,0,none⟩) a.size cap,.slice none 0 0] 253)):=(b3.mono (by omega)).alloc (by omega) _
 have c8:(w2.alloc (.cells #[.slice (some ⟨w.heap.size+1,0,none⟩) a.size cap,.slice none 0 0] 253)).heap.size=w.heap.size+1+1+1:=by simp[H]
 rw[H] at A;go_wp2_with fail;change Arr (w2.alloc (.cells #[.slice (some ⟨w.heap.size+1,0,none⟩) a.size cap,.slice none 0 0] 253)) _ _ _ at A;generalize w2.alloc (.cells #[.slice (some ⟨w.heap.size+1,0,none⟩) a.size cap,.slice none 0 0] 253)=G at*
 refine(aAd a G (by omega) HN.out).mono ?_;rintro e w4 ⟨rfl,d⟩;have c9:=d.size;have b6:Tel w4 (w.heap.size+1) (w.heap.size+1+1+1) (w.heap.size+1+1) (w.heap.size+1) cap a.data.toList (.slice none 0 0) []:=
  ⟨by rw[d.cell (p:=⟨w.heap.size+1+1,0,none⟩) (by show w.heap.size+1+1<G.heap.size;omega),A.cell (i:=0) rfl,a1.out],
   by rw[d.cell (p:=⟨w.heap.size+1+1,1,none⟩) (by show w.heap.size+1+1<G.heap.size;omega),A.cell (i:=1) rfl],
   by rw[d.frozen (p:=⟨w.heap.size+1+1,1,none⟩) (by show w.heap.size+1+1<G.heap.size;omega),A.free],
   b4.below d (by omega),OwI.nil _ _,by omega⟩
 have b7:Below (w.heap.size+1) w1 w4:=b5.trans (d.mono (by omega));go_wp2_with fail
 go_loopg [5,7,18] s.size (fun gh s5 _s7 b8 wr=>∃k:Nat,∃I:Value,k<=s.size/\gh=s.size-k/\b8=.int .i64 k/\s5=.int .i64 0/\Tel wr (w.heap.size+1) (w.heap.size+1+1+1) (w.heap.size+1+1) (w.heap.size+1) cap (fH a.data.toList (s.data.toList.take k)) I (dL a.data.toList (s.data.toList.take k))/\Below (w.heap.size+1) w1 wr)
 case atStart=>exact⟨0,_,aO _,rfl,rfl,rfl,by simpa [fH,dL] using b6,b7⟩
 case round=>
 obtain⟨k,I,hk,J,rfl,rfl,L,M⟩:=hrel;have HG:=hid J;clear J
 by_cases O:k<s.size
 ·have a5:=JH (s.data.toList.take k) a.data.toList;have d0:(fH a.data.toList (s.data.toList.take k)).length=a.size:=by rw[a5.length_eq];exact a1.out
  have b9:s[k]∈fH a.data.toList (s.data.toList.take k):=a5.mem_iff.2 (a8.out _ (cN (fW s k O)));have e1:=hid (show dL a.data.toList (s.data.toList.take (k+1))=dL a.data.toList (s.data.toList.take k)++[((plc (fH a.data.toList (s.data.toList.take k)) s[k]:Nat):Int)] by
   rw[cG,fW s k O,rD,JI])
  have e2:=hid (show fH a.data.toList (s.data.toList.take (k+1))=gC (fH a.data.toList (s.data.toList.take k)) (plc (fH a.data.toList (s.data.toList.take k)) s[k]) by
   rw[cG,fW s k O,rD,PF])
  have c2:=hid (show(dL a.data.toList (s.data.toList.take k)).length=k by rw[vQ,aQ,HL.out];omega);have hb:=s[k].toNat_lt;go_wp2_with fail;refine(aOf _ _ _ _ cap _ _ _ s[k] _ w1 L M b9 (by omega) (by omega) b2 (by rw[c2.out];omega)).mono ?_;rintro e w6 ⟨rfl,c4,c5,a6⟩;rw[<-e1.out,<-e2.out] at a6;go_wp2_with fail;have J:=HG.out
  go_roundg (s.size-(k+1))
  case measure=>omega
  case rel=>exact⟨k+1,c5,by omega,rfl,by go_num,rfl,a6,c4⟩
 ·have d1:k=s.size:=by omega
  rw[cD (by rw[HL.out];omega)] at L;have F:Arr wr w.heap.size 253 [.slice none 0 0,.slice none 0 0]:=a2.below M (by omega);obtain⟨c0,c1,_,_,a7,d2⟩:=L;obtain⟨a3,c3,e3,_,_,_⟩:=a7.rd.open;have f0:=F.cell (i:=0) rfl;have f1:=F.cell (i:=1) rfl;have f2:=F.free 0;have f3:=F.free 1;have hS:∀(v:Value),v=I->OwI ((wr.setCell ⟨w.heap.size,0,none⟩ (.slice (some ⟨w.heap.size+1,0,none⟩) (fH a.data.toList s.data.toList).length cap)).setCell ⟨w.heap.size,1,none⟩ v) w.heap.size v (dL a.data.toList s.data.toList):=fun v hv=>by
   subst hv;exact(a7.kept (qS (qS (EA wr (some w.heap.size)) 0 _) 1 v) (fun b e=>by simp at e;omega)).base (by omega)
  have hB:∀(v:Value),Below w.heap.size w ((wr.setCell ⟨w.heap.size,0,none⟩ (.slice (some ⟨w.heap.size+1,0,none⟩) (fH a.data.toList s.data.toList).length cap)).setCell ⟨w.heap.size,1,none⟩ v):=fun v=>((a9.trans (M.mono (by omega))).setCell (aD _) _).setCell (aD _) _
  subst e3;go_wp2_with fail;have hF:Arr ((wr.setCell ⟨w.heap.size,0,none⟩ (.slice (some ⟨w.heap.size+1,0,none⟩) (fH a.data.toList s.data.toList).length cap)).setCell ⟨w.heap.size,1,none⟩ (.slice a3 (dL a.data.toList s.data.toList).length c3)) w.heap.size 253 [.slice (some ⟨w.heap.size+1,0,none⟩) (fH a.data.toList s.data.toList).length cap,.slice a3 (dL a.data.toList s.data.toList).length c3]:=(F.set 0 _).set 1 _;exact fM (EB rfl _ _ w.heap.size _ _ (0,0) _ rfl hF underlying253 rfl aOh) rfl ⟨_,_,_,_,rfl,hS _ rfl,hB _⟩
theorem aOj (a s:ByteArray) (w:World) (I:a.size<=1000) (J:s.size<=1000000) (d:a.data.toList.Nodup) (A:∀b∈s.data.toList,b∈a.data.toList):
  Calls pG 130 #[.string a,.string s] w fun e w'=>∃v,e=.returned (.tuple #[v,.int .i64 0])/\OwI w' w.heap.size v (dL a.data.toList s.data.toList)/\Below w.heap.size w w':=by
 have HT:=hid (aOi a s w I J d A);clear d A;go_enter func130,ntmps130;go_wp2_with fail;refine HT.out.mono ?_;rintro e w1 ⟨F,n,c,v,rfl,G,H⟩;obtain⟨V,Z,L,_,_,_⟩:=G.rd.open;have M:=H.size;have O:=G.alloc (.cells #[.slice F n c,v] 253);have U:=H.alloc M (.cells #[.slice F n c,v] 253);subst L;go_wp2_with fail
 go_ret2
 exact⟨_,rfl,O,U⟩
theorem aOk {P:Program} {d:Array Oper} {rest:List Oper} {o:Oper} {a:Act} {Q:Exit->Act->World->Prop} {w:World} {t e A:Nat} {z:Value} (E:ElT P t e A z) (G:o.guard=none) (l c:Operand)
  (H:o.op=.makeSlice t l c) (n:Nat) (I:a.eval l=.int .i64 0) (J:a.eval c=.int .i64 (n:Int)) (L:n*A<=140737488355328)
  (h:∀w',Ow w' w.heap.size e (.slice (some ⟨w.heap.size,0,none⟩) 0 n) []->Below w.heap.size w w'->w'.heap.size=w.heap.size+1->wpList P d Q rest (a.put o.dst (.slice (some ⟨w.heap.size,0,none⟩) 0 n)) w'):wpList P d Q (o::rest) a w:=by
 refine wpList_plain G fun K M=>?_
 obtain⟨i,hi,O,U,h3⟩:=E.info;have V:=E.pos;have hn:n<=140737488355328:=aR (Nat.le_mul_of_pos_right _ V) L;have Z:(i.bytes:Int)*(n:Int)<=281474976710656:=by grind
 have F:=run_make (P:=P) w t e i z E.under hi O .i64 .i64 0 (n:Int) (by omega) (by omega) Z (by omega);rw[U,Nat.mul_one,Int.toNat_natCast,E.cells,show madeCells #[z] n=gW z n from by rw[gW,<-toList_madeCells_one]] at F;unfold Oper.wp;simp[execOp,H,I,J,F,lW];exact M _ _ (h _ (World.ownsRow_made w _ n (aD _) (by unfold maxLen;omega) (by simp[gW])) ((aH _ _).alloc (aD _) _) (by simp))
theorem OwB.kept {w w':World} {B:Nat} {v:Value} {l:List UInt8} {row:Option Nat} (h:OwB w B v l) (d:w.grownBy w' row) (A:∀b,row=some b->b<B):OwB w' B v l:=by
 refine Ow.kept h d ?_
 cases e:v.ownBlock with
 |none=>exact .inl rfl
 |some k=>
  right
  intro F;have:=A k F.symm;have:=(Ow.lt h k e).1;omega
theorem aOl (a:ByteArray) (v:Value) (l:List Int) (w:World) (ha:a.size<=1000) (hl:l.length<=1000000) (Z:a.data.toList.Nodup) (hr:RdI w v l) (d:∀x∈l,0<=x/\x<(a.size:Int)):
  Calls pG 231 #[.string a,v] w fun e w'=>e=.returned (.tuple #[.string (mkS (unL a.data.toList l)),.int .i64 0])/\Below w.heap.size w w':=by
 obtain⟨ad,ca,rfl,d8,b4,hA⟩:=hr.open;unfold maxLen at b4;have HN:=hid Z;have HX:=hid d;have a0:a.data.toList.length=a.size:=by simp
 have b5:=hid a0;clear Z d hr a0;go_enter func231,ntmps231;go_wp2_with fail;refine(aAd a _ (by omega) HN.out).mono ?_;rintro e w1 ⟨rfl,a1⟩;have b6:=a1.size;go_wp2_with fail;obtain⟨cap,w2,b7,b8,b9,c0,c2,a2⟩:=PZ w1 a (by omega);rw[b7];have c3:=c0.kept (row:=none) (II w2 (.cells #[.slice (some ⟨w1.heap.size,0,none⟩) a.size cap] 251) none) (by simp);have a3:=bX w2 (.slice (some ⟨w1.heap.size,0,none⟩) a.size cap) 251
 have c4:Below w.heap.size w (w2.alloc (.cells #[.slice (some ⟨w1.heap.size,0,none⟩) a.size cap] 251)):=(a1.trans (c2.mono b6)).alloc (by omega) _;have c5:(w2.alloc (.cells #[.slice (some ⟨w1.heap.size,0,none⟩) a.size cap] 251)).heap.size=w1.heap.size+1+1:=by simp[a2]
 rw[a2] at a3;go_wp2_with (at_make;generalize w2.alloc (.cells #[.slice (some ⟨w1.heap.size,0,none⟩) a.size cap] 251)=w3 at*;refine aOk yU rfl _ _ rfl l.length rfl rfl (by omega) ?_;intro L a4 M d9);have c6:OwB L (w1.heap.size+1+1) (.slice (some ⟨w1.heap.size+1+1,0,none⟩) 0 l.length) []:=by rw[c5] at a4;exact a4
 have c7:=c3.below M (by omega);have c8:L.cell? ⟨w1.heap.size+1,0,none⟩=some (.slice (some ⟨w1.heap.size,0,none⟩) a.size cap):=by
  rw[M.cell (p:=⟨w1.heap.size+1,0,none⟩) (by show w1.heap.size+1<w3.heap.size;omega)];exact a3
 have c9:Below w.heap.size w L:=c4.trans (M.mono (by omega))
 go_loopg [7,9,21] l.length (fun gh s7 _s9 d0 wr=>∃k:Nat,k<=l.length/\gh=l.length-k/\d0=.int .i64 k/\OwB wr (w1.heap.size+1+1) s7 (unL a.data.toList (l.take k))/\ByA wr w1.heap.size (unA a.data.toList (l.take k))/\wr.cell? ⟨w1.heap.size+1,0,none⟩=some (.slice (some ⟨w1.heap.size,0,none⟩) a.size cap)/\Below w.heap.size w wr/\w1.heap.size+1+1<=wr.heap.size)
 case atStart=>exact⟨0,aO _,rfl,rfl,by simpa [unL] using c6,by simpa [unA] using c7,c8,c9,by omega⟩
 case round=>
 obtain⟨k,hk,O,rfl,U,a5,d1,G,e0⟩:=hrel;have HG:=hid O;clear O
 by_cases d2:k<l.length
 ·obtain⟨b0,o0,rfl,a6,a7⟩:=hA (by omega);obtain⟨x,d⟩:=eG d2;have c1:=(G.cell (p:=⟨b0,o0+k,none⟩) a6).trans (a7 k x d);have d3:=HX.out x (cN d);obtain⟨i,rfl⟩:∃i:Nat,x=(i:Int):=⟨x.toNat,by omega⟩;obtain⟨A,F⟩:∃A,A=unA a.data.toList (l.take k):=⟨_,rfl⟩;have a8:A.length=a.size:=by rw[F,(YM _ _).length_eq];exact b5.out
  have d4:=hid (show(unL a.data.toList (l.take k)).length=k by rw[sL,aQ];omega);have hi:i<A.length:=by omega
  have e1:=hid (show unL a.data.toList (l.take (k+1))=unL a.data.toList (l.take k)++[A[i]] by
   rw[cG,d,rD,PH,<-F];simp[List.getD,List.getElem?_eq_getElem hi])
  have e2:=hid (show unA a.data.toList (l.take (k+1))=gC A i by
   rw[cG,d,rD,PI,<-F];rfl)
  rw[<-F] at a5;have t1:decide ((i:Int)<0)=false:=aE (by omega);have t2:decide (a.size<=i)=false:=aE (by omega);have t3:decide ((a.size:Int)<=(i:Int))=false:=aE (by omega);have e3:=fB a6 G.size;have V:=hid a8;clear a7 hA d d3 F a8;go_wp2_with fail;have a9:=aAc w1.heap.size cap i A wr a5 hi (by rw[V.out];exact ha) (by rw[V.out];exact b8) b9;rw[V.out] at a9;refine a9.mono ?_;rintro e H ⟨rfl,b1,I⟩;rw[<-e2.out] at b1;have e4:=(A[i]).toNat_lt;have d5:=U.kept I (fun b e=>by simp at e;omega);have b2:=d1
  rw[<-rW (I.block (w1.heap.size+1) (by omega) (by simp))] at b2;have d6:Below w.heap.size w H:=G.grown I (by omega) (fun k e=>by simp at e;omega);have e5:=I.size;go_wp2_with (at_builtin;refine DX rfl _ _ rfl (w1.heap.size+1+1) _ _ rfl (d5.alloc _) H.heap.size A[i] rfl ?_ ?_ ?_ ?_;(exact bX _ _ _);(rw[d4.out];omega);(simp;omega);intro v' w7 b3 J _);rw[<-e1.out] at b3;have O:=HG.out;have d7:=J.size;simp only[fP] at d7
  go_roundg (l.length-(k+1))
  case measure=>omega
  case rel=>
   refine⟨k+1,by omega,rfl,by go_num,b3,?_,?_,(d6.alloc (by omega) _).trans (J.mono (by omega)),by omega⟩
   ·exact(b1.kept (row:=none) (II H _ none) (by simp)).below J (by omega)
   ·rw[J.cell (p:=⟨w1.heap.size+1,0,none⟩) (by show w1.heap.size+1<w1.heap.size+1+1;omega),rW (oO H _ (w1.heap.size+1) (by omega))];exact b2
 ·have e6:k=l.length:=by omega
  rw[cD (by omega)] at U;have e7:=mP U.rd;go_wp2_with fail
  go_ret2
  exact⟨rfl,G⟩
theorem aP3 (v:Value) (most:Int) (w:World) (F:RdI w v []) (a0: -9223372036854775808<=most) (a1:most<=1000000):
  Calls pG 230 #[v,.int .i64 most] w fun e w'=>∃G,e=.returned (.tuple #[G,.int .i64 (rM [] most)])/\OwI w' w.heap.size G (sQ [] most)/\Below w.heap.size w w':=by
 have H:Calls pG 195 #[v] w fun e w'=>e=.returned (.bool false)/\w'=w:=(PT v [] w F).mono fun e w' ⟨I,L⟩=>by
  rw[sK (fun x M=>by simp at M)] at I;exact⟨I,L⟩
 obtain⟨a,O,rfl,U,a2,V⟩:=F.open;simp only[List.length_nil] at U V H ⊢;go_enter func230,ntmps230;go_wp2_with fail;refine H.mono ?_;rintro e w1 ⟨rfl,rfl⟩;go_wp2_with fail
 go_loopg [0,8,9,10] 0 (fun Z s0 _s8 _s9 _s10 wq=>Z=0/\s0=.slice a 0 O/\wq=w1.alloc (.cells #[.slice none 0 0] 258))
 case atStart=>exact⟨rfl,rfl,rfl⟩
 case round=>
 obtain⟨hg,rfl,rfl⟩:=hrel;have hc:=bX w1 (.slice none 0 0) 258
 by_cases J:most<0
 ·have t1:decide (most<0)=true:=aG J;have d:rM [] most=4:=(vW (by show ¬((([]:List Int).length:Nat):Int)<=most;simp;omega)).2;have A:sQ [] most=[]:=(vW (by show ¬((([]:List Int).length:Nat):Int)<=most;simp;omega)).1;go_wp2_with fail
  go_ret2
  exact⟨.slice none 0 0,by first|(rw[d];rfl)|rfl,by first|(rw[A];exact OwI.nil _ _)|exact OwI.nil _ _,(aH _ _).alloc (aD _) _⟩
 ·have t1:decide (most<0)=false:=aE J;have d:rM [] most=0:=(BN (by show((([]:List Int).length:Nat):Int)<=most;simp;omega)).2;have A:sQ [] most=[]:=(BN (by show((([]:List Int).length:Nat):Int)<=most;simp;omega)).1;go_wp2_with fail
  go_ret2
  exact⟨.slice none 0 0,by first|(rw[d];rfl)|rfl,by first|(rw[A];exact OwI.nil _ _)|exact OwI.nil _ _,(aH _ _).alloc (aD _) _⟩
theorem aP4 (v:Value) (m:List Int) (most:Int) (w:World) (A:RdI w v m) (F:m.length<=1000000) (G:∀x∈m,0<=x/\x<=1000000) (H: -9223372036854775808<=most) (I:most<=1000000):
  Calls pG 230 #[v,.int .i64 most] w fun e w'=>∃d,e=.returned (.tuple #[d,.int .i64 (rM m most)])/\OwI w' w.heap.size d (sQ m most)/\Below w.heap.size w w':=by grind [Nat.eq_zero_or_pos,List.length_eq_zero_iff,aP3,aO6,RdI,rM,OwI,sQ]
theorem BQ (a:ByteArray) (o:Int) (y:Value) (_hy:y.oneCell'=true) (w:World) (d:a.size<=140737488355328):
  Calls pG 132 #[.agg #[.string a,.int .i64 o,y]] w fun e w'=>e=.returned (.int .i64 ((a.size:Int)+1))/\Below w.heap.size w w':=by
 have A:aJ.wrap ((a.size:Int)+1)=(a.size:Int)+1:=by rw[aM];omega
 go_enter func132,ntmps132;go_wp2_with fail;go_ret;exact⟨rfl,(aH _ _).alloc (aD _) _⟩
def rN (s:ByteArray) (o:Nat->Int):List Int:=dM 0 (dL (bY s.data.toList) (eM s o s.size))++[((bY s.data.toList).length:Int)+1]
theorem JX:(pG.info? 131).map (·.size)=some 3:=by kernel_rfl
def dN:ByteArray:={data:=#[]}
theorem vX (s:List UInt8):(bY s).length<=256:=by grind [bY,kL,dZ]
theorem xK {s:ByteArray} (h:0<s.size):s.toList.isEmpty=false:=by
 rw[pY]
 cases e:s.data.toList with
 |nil=>
  have:s.data.toList.length=s.size:=by simp
  rw[e] at this;simp at this;omega
 |cons b l=>rfl
theorem aP5 (w:World):
  Calls pG 81 #[.string dN] w fun e w'=>e=.returned (.tuple #[.agg #[.string dN,.int .i64 0,.slice none 0 0],.int .i64 1])/\Below w.heap.size w w':=by
 unfold dN;have d:=Arr.new w 131 [.string {data:=#[]},.int .i64 0,.slice none 0 0];have A:=d.cell (i:=0) rfl;have F:=d.cell (i:=1) rfl;have G:=d.cell (i:=2) rfl;have H:=d.free;go_enter func81,ntmps81;go_wp2_with fail;exact fM (EB rfl _ _ w.heap.size _ _ (0,0) _ rfl d underlying131 rfl JX) rfl ⟨rfl,(aH _ _).alloc (aD _) _⟩
theorem aP6 (s:ByteArray) (w:World) (h0:0<s.size) (hs:s.size<=65536):
  Calls pG 81 #[.string s] w fun e w'=>∃o v,Ord (cQ s) s.size s.size o/\e=.returned (.tuple #[.agg #[.string (mkS (bY s.data.toList)),.int .i64 ((gX o s.size:Nat):Int),v],.int .i64 0])/\OwI w' w.heap.size v (rN s o)/\Below w.heap.size w w':=by
 have t0:=xK h0;have t1:decide ((65536:Int)<(s.size:Int))=false:=aE (by omega);have t2:decide (65536<s.size)=false:=aE (by omega);go_enter func81,ntmps81;go_wp2_with fail;refine(aPv s _ (by omega)).mono ?_;rintro e w1 ⟨o,hO,rfl,a8⟩;have a9:=a8.size;obtain⟨n,Z⟩:∃n,n=gX o s.size:=⟨_,rfl⟩;have b8:=aAr o s.size;rw[<-Z] at b8 ⊢;have HN:=hid Z;clear Z;go_wp2_with fail;refine(PV s _ (by omega)).mono ?_;rintro e w2 ⟨rfl,b0⟩;obtain⟨A,F⟩:∃A,A=mkS (bY s.data.toList):=⟨_,rfl⟩;obtain⟨L,I⟩:∃L,L=mkS (eM s o s.size):=⟨_,rfl⟩
 have a0:L.data.toList=eM s o s.size:=by rw[I];rfl
 have J:A.data.toList=bY s.data.toList:=by rw[F];rfl
 have b1:L.size=s.size:=by rw[I,cS,xJ]
 have d7:A.size<=256:=by rw[F,cS];exact vX _
 have b2:A.data.toList.Nodup:=by rw[J];exact JE _
 have a1:∀b∈L.data.toList,b∈A.data.toList:=fun b hb=>by
  rw[J,DS];rw[a0] at hb;exact(QK s hO).mem_iff.1 hb
 have b9:(dL A.data.toList L.data.toList).length=s.size:=by rw[vQ];simp[b1]
 have a2:∀x∈dL A.data.toList L.data.toList,0<=x/\x<=1000000:=fun x hx=>by
  have:=BH L.data.toList A.data.toList a1 x hx;have hl:A.data.toList.length=A.size:=by simp
  omega
 have b3:rN s o=dM 0 (dL A.data.toList L.data.toList)++[(A.size:Int)+1]:=by
  unfold rN;rw[<-J,<-a0];simp
 have b4:=hid b3;have HA:=hid F;rw[<-F,<-I];have d8:=b0.size;have b5:∀W,Calls pG 130 #[.string A,.string L] W fun e w'=>∃v,e=.returned (.tuple #[v,.int .i64 0])/\OwI w' W.heap.size v (dL A.data.toList L.data.toList)/\Below W.heap.size W w':=fun W=>aOj A L W (by omega) (by omega) b2 a1
 have b6:=hid b5;obtain⟨M,hM⟩:∃M,M=dL A.data.toList L.data.toList:=⟨_,rfl⟩;rw[<-hM] at b9 a2 b4 b6;have c0:=hid a2;clear b5 b2 a1 I F a0 J b1 hM a2 b3;go_wp2_with fail;have c1:w.heap.size+1<=w2.heap.size:=by simp at a9;omega
 have c2:=Arr.new w 131 [.string {data:=#[]},.int .i64 0,.slice none 0 0];have hq:=Arr.new w2 131 [.string A,.int .i64 (n:Int),.slice none 0 0];have c3:Below (w.heap.size+1) (w.alloc (.cells #[.string {data:=#[]},.int .i64 0,.slice none 0 0] 131)) (w2.alloc (.cells #[.string A,.int .i64 (n:Int),.slice none 0 0] 131)):=
  ((a8.mono (by simp)).trans (b0.mono (by simp at a9;omega))).alloc c1 _
 have d9:(w2.alloc (.cells #[.string A,.int .i64 (n:Int),.slice none 0 0] 131)).heap.size=w2.heap.size+1:=by simp
 change Arr (w2.alloc (.cells #[.string A,.int .i64 (n:Int),.slice none 0 0] 131)) _ _ _ at hq;generalize w2.alloc (.cells #[.string A,.int .i64 (n:Int),.slice none 0 0] 131)=wq at*
 refine(b6.out wq).mono ?_;rintro e O ⟨v3,rfl,c4,a3⟩;have e0:=a3.size;go_wp2_with fail;refine(aOp v3 M O c4.rd (by omega) (by omega) c0.out).mono ?_;rintro e w4 ⟨v4,rfl,c5,a4⟩;have e1:=a4.size;have G:=(hq.below a3 (by omega)).below a4 (by omega);have q0:=G.cell (i:=0) rfl;have q1:=G.cell (i:=1) rfl;have q2:=G.cell (i:=2) rfl;have q3:=G.free;go_wp2_with fail;refine(BQ A (n:Int) (.slice none 0 0) rfl w4 (by omega)).mono ?_;rintro e w5 ⟨rfl,U⟩;have e2:=U.size;have c7:=hid (PM M 0);have c8:=(c5.below U (aD _)).base (B':=O.heap.size) (aD _)
 have c9:w.heap.size+1<=w5.heap.size:=by omega
 have d0:w.heap.size+1<=O.heap.size:=by omega
 have d1:Below (w.heap.size+1) (w.alloc (.cells #[.string {data:=#[]},.int .i64 0,.slice none 0 0] 131)) w5:=((c3.trans (a3.mono (by omega))).trans (a4.mono (by omega))).trans (U.mono (by omega));have e3:w.heap.size≠w2.heap.size:=by omega
 have d2:w2.heap.size≠w.heap.size:=by omega
 go_wp2_with (at_builtin;(refine gK rfl _ _ rfl O.heap.size _ _ rfl (c8.alloc _) w5.heap.size ((A.size:Int)+1) rfl ?_ ?_ ?_ ?_;(exact bX _ _ _);(have:=c7.out.1;omega);(simp;omega);intro d w6 a5 a7 _;obtain⟨a6,c6,e6,_,_,_⟩:=a5.rd.open;subst e6;have V:=((G.below U (by omega)).alloc _).below a7 (by omega);have g1:=V.cell (i:=0) rfl;have g2:=V.cell (i:=1) rfl;have g3:=V.cell (i:=2) rfl;have g4:=V.free;have d3:=a7.size;simp only[fP] at d3;have b7:=(d1.alloc c9 _).trans (a7.mono d0);have H:=c2.below b7 (by omega);have p1:=H.cell (i:=0) rfl;have p2:=H.cell (i:=1) rfl;have p3:=H.cell (i:=2) rfl;have p4:=H.free))
 rw[show(dM 0 M++[(A.size:Int)+1]).length=(dM 0 M).length+1 by simp] at a5;generalize hv:mM a6 ((dM 0 M).length+1) c6=d at*
 have hF:Arr ((((w6.setCell ⟨w2.heap.size,2,none⟩ d).setCell ⟨w.heap.size,0,none⟩ (.string A)).setCell ⟨w.heap.size,1,none⟩ (.int .i64 (n:Int))).setCell ⟨w.heap.size,2,none⟩ d) w.heap.size 131 [.string A,.int .i64 (n:Int),d]:=(((H.other ⟨w2.heap.size,2,none⟩ d2 d).set 0 _).set 1 _).set 2 _;have d4:=a5.kept (qS (EA w6 (some w2.heap.size)) 2 d) (fun b e=>by simp at e;omega);have d5:=d4.kept (qS (qS (qS (EA _ (some w.heap.size)) 0 (.string A)) 1 (.int .i64 (n:Int))) 2 d) (fun b e=>by simp at e;omega)
 have d6:=((((((aH w.heap.size w).alloc (aD _) _).trans (b7.mono (by omega))).setCell (p:=⟨w2.heap.size,2,none⟩) (by show w.heap.size<=w2.heap.size;omega) d).setCell (p:=⟨w.heap.size,0,none⟩) (aD _) (.string A)).setCell (p:=⟨w.heap.size,1,none⟩) (aD _) (.int .i64 (n:Int))).setCell (p:=⟨w.heap.size,2,none⟩) (aD _) d;refine fM (EB rfl _ _ w.heap.size _ _ (0,0) _ rfl hF underlying131 rfl JX) rfl ⟨o,d,hO,?_,?_,d6⟩
 ·rw[<-HA.out,<-HN.out];rfl
 ·rw[b4.out];exact d5.base (by omega)
theorem aQl (w:World):
  Calls pG 100 #[.string dN] w fun e w'=>e=.returned (.tuple #[.agg #[.string dN,.int .i64 0,.slice none 0 0],.int .i64 1])/\Below w.heap.size w w':=by
 unfold dN;have d:=Arr.new w 131 [.string {data:=#[]},.int .i64 0,.slice none 0 0];have A:=d.cell (i:=0) rfl;have F:=d.cell (i:=1) rfl;have G:=d.cell (i:=2) rfl;have H:=d.free;go_enter func100,ntmps100;go_wp2_with fail;exact fM (EB rfl _ _ w.heap.size _ _ (0,0) _ rfl d underlying131 rfl JX) rfl ⟨rfl,(aH _ _).alloc (aD _) _⟩
theorem aQm (s:ByteArray) (w:World) (h0:0<s.size) (hs:s.size<=65536):
  Calls pG 100 #[.string s] w fun e w'=>∃o v,Ord (cQ s) s.size s.size o/\e=.returned (.tuple #[.agg #[.string (mkS (bY s.data.toList)),.int .i64 ((gX o s.size:Nat):Int),v],.int .i64 0])/\OwI w' w.heap.size v (rN s o)/\Below w.heap.size w w':=by
 have t0:=xK h0;have t1:decide ((65536:Int)<(s.size:Int))=false:=aE (by omega);have t2:decide (65536<s.size)=false:=aE (by omega);go_enter func100,ntmps100;go_wp2_with fail;refine(PX s _ (by omega)).mono ?_;rintro e w1 ⟨rfl,a1⟩;have b4:=a1.size;simp only[fP] at b4;obtain⟨A,d⟩:∃A,A=mkS (bY s.data.toList):=⟨_,rfl⟩;rw[<-d];have b5:=hid d;clear d;go_wp2_with fail;refine(aQa s _ (by omega) (fun w=>aQk s w (by omega))).mono ?_;rintro e w2 ⟨o,hO,rfl,a2⟩;have d0:=a2.size;obtain⟨n,J⟩:∃n,n=gX o s.size:=⟨_,rfl⟩
 have b6:=aAr o s.size;rw[<-J] at b6 ⊢;have HN:=hid J;clear J;obtain⟨L,H⟩:∃L,L=mkS (eM s o s.size):=⟨_,rfl⟩;have d:=b5.out;have O:L.data.toList=eM s o s.size:=by rw[H];rfl
 have I:A.data.toList=bY s.data.toList:=by rw[d];rfl
 have a3:L.size=s.size:=by rw[H,cS,xJ]
 have d1:A.size<=256:=by rw[d,cS];exact vX _
 have a4:A.data.toList.Nodup:=by rw[I];exact JE _
 have U:∀b∈L.data.toList,b∈A.data.toList:=fun b hb=>by
  rw[I,DS];rw[O] at hb;exact(QK s hO).mem_iff.1 hb
 have b7:(dL A.data.toList L.data.toList).length=s.size:=by rw[vQ];simp[a3]
 have V:∀x∈dL A.data.toList L.data.toList,0<=x/\x<=1000000:=fun x hx=>by
  have:=BH L.data.toList A.data.toList U x hx;have hl:A.data.toList.length=A.size:=by simp
  omega
 have a5:rN s o=dM 0 (dL A.data.toList L.data.toList)++[(A.size:Int)+1]:=by
  unfold rN;rw[<-I,<-O];simp
 have a7:=hid a5;have HA:=hid d;rw[<-H];have a8:∀W,Calls pG 159 #[.string A,.string L] W fun e w'=>∃v,e=.returned (.tuple #[v,.int .i64 0])/\OwI w' W.heap.size v (dL A.data.toList L.data.toList)/\Below W.heap.size W w':=fun W=>aAw A L W (by omega) (by omega) a4 U
 have a9:=hid a8;obtain⟨M,hM⟩:∃M,M=dL A.data.toList L.data.toList:=⟨_,rfl⟩;rw[<-hM] at b7 V a7 a9;have b8:=hid V;clear a8 a4 U H d O I a3 hM V a5;go_wp2_with fail;refine(a9.out w2).mono ?_;rintro e Z ⟨v3,rfl,b9,b0⟩;have d2:=b0.size;go_wp2_with fail;refine(aP8 v3 M Z b9.rd (by omega) (by omega) b8.out).mono ?_;rintro e w4 ⟨v4,rfl,c0,b1⟩;have d3:=b1.size;have c1:=Arr.new w 131 [.string {data:=#[]},.int .i64 0,.slice none 0 0];have c2:=hid (PM M 0);have e1:aJ.wrap ((A.size:Int)+1)=(A.size:Int)+1:=by rw[aM];omega
 have c3:w.heap.size+1<=w4.heap.size:=by omega
 have c4:w.heap.size+1<=Z.heap.size:=by omega
 have c5:Below (w.heap.size+1) (w.alloc (.cells #[.string {data:=#[]},.int .i64 0,.slice none 0 0] 131)) w4:=(((a1.mono (by simp)).trans (a2.mono (by omega))).trans (b0.mono (by omega))).trans (b1.mono (by omega))
 go_wp2_with (at_builtin;(refine gK rfl _ _ rfl Z.heap.size _ _ rfl (c0.alloc _) w4.heap.size ((A.size:Int)+1) rfl ?_ ?_ ?_ ?_;(exact bX _ _ _);(have:=c2.out.1;omega);(simp;omega);intro F w6 a0 b2 _;obtain⟨a6,c6,e6,_,_,_⟩:=a0.rd.open;subst e6;have c7:=b2.size;simp only[fP] at c7;have b3:=(c5.alloc c3 _).trans (b2.mono c4);have G:=c1.below b3 (by omega);have p1:=G.cell (i:=0) rfl;have p2:=G.cell (i:=1) rfl;have p3:=G.cell (i:=2) rfl;have p4:=G.free));rw[show(dM 0 M++[(A.size:Int)+1]).length=(dM 0 M).length+1 by simp] at a0
 generalize hv:mM a6 ((dM 0 M).length+1) c6=F at*
 have hF:Arr (((w6.setCell ⟨w.heap.size,0,none⟩ (.string A)).setCell ⟨w.heap.size,1,none⟩ (.int .i64 (n:Int))).setCell ⟨w.heap.size,2,none⟩ F) w.heap.size 131 [.string A,.int .i64 (n:Int),F]:=((G.set 0 _).set 1 _).set 2 _;have c8:=a0.kept (qS (qS (qS (EA _ (some w.heap.size)) 0 (.string A)) 1 (.int .i64 (n:Int))) 2 F) (fun b e=>by simp at e;omega)
 have c9:=(((((aH w.heap.size w).alloc (aD _) _).trans (b3.mono (by omega))).setCell (p:=⟨w.heap.size,0,none⟩) (aD _) (.string A)).setCell (p:=⟨w.heap.size,1,none⟩) (aD _) (.int .i64 (n:Int))).setCell (p:=⟨w.heap.size,2,none⟩) (aD _) F;refine fM (EB rfl _ _ w.heap.size _ _ (0,0) _ rfl hF underlying131 rfl JX) rfl ⟨o,F,hO,?_,?_,c9⟩
 ·rw[<-HA.out,<-HN.out];rfl
 ·rw[a7.out];exact c8.base (by omega)
theorem aA3 (a:ByteArray) (o:Int) (y:Value) (F:y.oneCell'=true) (w:World) (G:a.size<=140737488355328):
  Calls pG 84 #[.agg #[.string a,.int .i64 o,y]] w fun e w'=>e=.returned (.int .i64 ((a.size:Int)+2))/\Below w.heap.size w w':=by
 have I:aJ.wrap ((a.size:Int)+1+1)=(a.size:Int)+2:=by rw[aM];omega
 have d:=Arr.new w 131 [.string a,.int .i64 o,y];have J:=d.cell (i:=0) rfl;have L:=d.cell (i:=1) rfl;have M:=d.cell (i:=2) rfl;have A:=(aH w.heap.size w).alloc (aD _) (.cells #[.string a,.int .i64 o,y] 131);go_enter func84,ntmps84;go_wp2_with fail;refine(BQ a o y F _ G).mono ?_;rintro e w1 ⟨rfl,H⟩;go_wp2_with fail;go_ret;exact⟨rfl,A.trans (H.mono A.size)⟩
theorem aQn (a:ByteArray) (o:Int) (y:Value) (_hy:y.oneCell'=true) (w:World) (d:a.size<=140737488355328):
  Calls pG 102 #[.agg #[.string a,.int .i64 o,y]] w fun e w'=>e=.returned (.int .i64 ((a.size:Int)+2))/\Below w.heap.size w w':=by
 have A:aJ.wrap ((a.size:Int)+2)=(a.size:Int)+2:=by rw[aM];omega
 go_enter func102,ntmps102;go_wp2_with fail;go_ret;exact⟨rfl,(aH _ _).alloc (aD _) _⟩
theorem aA4 {a b:ByteArray} (h:a≠b):(a.toList==b.toList)=false:=by
 rw[pY,pY,<-Bool.not_eq_true,beq_iff_eq]
 grind [qB]
def jU (l:List Int) (e:Int):Prop:=0<l.length/\l[l.length-1]? =some e/\∀x∈l.take (l.length-1),0<=x/\x<e
instance (l:List Int) (e:Int):Decidable (jU l e):=inferInstanceAs (Decidable (0<l.length/\l[l.length-1]? =some e/\∀x∈l.take (l.length-1),0<=x/\x<e))
def dD (l:List Int):List Int:=dT (l.take (l.length-1))
def rest (a:ByteArray) (o:Int) (l:List Int) (most:Int):ByteArray×Int:=
 if ¬(a.data.toList≠[]/\bY a.data.toList=a.data.toList) then(dN,1)
 else if ¬jU l ((a.size:Int)+1) then(dN,3)
 else if ¬((dD l).length:Int)<=most then(dN,4)
 else if ¬(0<=o/\o<((dD l).length:Int)) then(dN,3)
 else(mkS (qR (unL a.data.toList (dD l)) o.toNat),0)
theorem KB {a:ByteArray} {o:Int} {l:List Int} {most:Int} (h:¬(a.data.toList≠[]/\bY a.data.toList=a.data.toList)):rest a o l most=(dN,1):=aB h
theorem QQ {a:ByteArray} {o:Int} {l:List Int} {most:Int} (h:a.data.toList≠[]/\bY a.data.toList=a.data.toList) (d:¬jU l ((a.size:Int)+1)):rest a o l most=(dN,3):=by grind [rest,bY,jU,dN]
theorem KC {a:ByteArray} {o:Int} {l:List Int} {most:Int} (h:a.data.toList≠[]/\bY a.data.toList=a.data.toList) (d:jU l ((a.size:Int)+1)) (A:¬((dD l).length:Int)<=most):rest a o l most=(dN,4):=by grind [rest,bY,jU,dD,dN]
theorem KD {a:ByteArray} {o:Int} {l:List Int} {most:Int} (h:a.data.toList≠[]/\bY a.data.toList=a.data.toList) (d:jU l ((a.size:Int)+1)) (A:((dD l).length:Int)<=most) (F:¬(0<=o/\o<((dD l).length:Int))):rest a o l most=(dN,3):=by grind [rest,bY,jU,dD,dN]
theorem KE {a:ByteArray} {o:Int} {l:List Int} {most:Int} (h:a.data.toList≠[]/\bY a.data.toList=a.data.toList) (d:jU l ((a.size:Int)+1)) (A:((dD l).length:Int)<=most) (F:0<=o/\o<((dD l).length:Int)):rest a o l most=(mkS (qR (unL a.data.toList (dD l)) o.toNat),0):=by grind [rest,bY,jU,dD,mkS,qR,unL]
theorem aQv:∀(m:List Int) (n p:Nat),∀y∈zx n p m,y=0\/∃x∈m,2<=x/\y=x-1:=by
 intro m
 induction m with
 |nil=>intro n p y d;exact .inl (List.eq_of_mem_replicate d)
 |cons x m A=>
  intro n p y d;unfold zx at d
  by_cases h:x<2
  ·grind
  ·grind
theorem QS {l:List Int} {n:Nat} (h:jU l ((n:Int)+1)) (A:0<n):∀y∈dD l,0<=y/\y<(n:Int):=fun y d=>by
 rcases aQv _ _ _ y d with q|⟨x,F,G,q⟩
 ·omega
 grind [jU,dD]
theorem aA7 {w:World} {d:Option Addr} {n A:Nat} {l:List Int} (h:RdI w (.slice d n A) l) (F:0<l.length):∃b off,d=some ⟨b,off,none⟩/\b<w.heap.size/\∀j x,l[j]? =some x->w.cell? ⟨b,off+j,none⟩=some (.int .i64 x):=by
 obtain⟨a,c,e,_,_,G⟩:=h.open
 grind
theorem KF {w:World} {b off d:Nat} {l:List Int} (F:b<w.heap.size) (H:∀j x,l[j]? =some x->w.cell? ⟨b,off+j,none⟩=some (.int .i64 x)) (k:Nat) (I:k<=l.length) (J:l.length<=d) (G:d<=maxLen):RdI w (.slice (some ⟨b,off,none⟩) k d) (l.take k):=by
 have A:(l.take k).length=k:=by grind
 refine⟨_,_,by rw[A],by rw[A];omega,G,.inr ⟨b,off,rfl,F,fun j L=>?_⟩⟩
 grind
theorem EI {s:ByteArray} (h:s.data.toList=[]):s.toList.isEmpty=true:=by
 rw[pY,h];rfl
theorem xM {s:ByteArray} (h:s.data.toList≠[]):s.toList.isEmpty=false:=by
 rw[pY]
 grind
theorem aA8 {W w w':World} {d:Nat} {x:Value} (h:w.cell? ⟨d,0,none⟩=some x/\Below W.heap.size W w) (F:d<W.heap.size) (A:Below w.heap.size w w'):w'.cell? ⟨d,0,none⟩=some x/\Below W.heap.size W w':=
 ⟨by rw[A.cell (p:=⟨d,0,none⟩) (fB F h.2.size)];exact h.1,h.2.trans (A.mono h.2.size)⟩
theorem aA9 {w:World} {d:Nat} {x:Value} (h:w.cell? ⟨d,0,none⟩=some x):w.drew.cell? ⟨d,0,none⟩=some x/\Below w.heap.size w w.drew:=⟨h,(aH _ _).drew⟩
theorem aQx (d:Nat) (a:ByteArray) (o most:Int) (v lv:Value) (b:ByteArray) (w:World) (J:a.size<=140737488355328) (L:Arr w d 236 [.string a,.int .i64 o,v,.int .i64 most,lv,.string b]):
  Calls pG 181 #[.pointer (some ⟨d,0,none⟩)] w fun e w'=>e=.returned (.int .i64 (if a.data.toList≠[]/\bY a.data.toList=a.data.toList then 0 else 1))/\Below w.heap.size w w':=by
 have M:=L.cell (i:=0) rfl;have O:=L.lt
 by_cases F:a.data.toList=[]
 ·have t1:=EI F;rw[aA (fun h=>h.1 F)];go_enter func181,ntmps181;go_wp2_with fail
  go_quiet (fail)
  go_wp2_with fail;go_ret;exact⟨rfl,kY (aH _ _) _⟩
 have t1:=xM F
 by_cases A:bY a.data.toList=a.data.toList
 ·rw[aB ⟨F,A⟩];have U:(a.toList==a.toList)=true:=by simp
  have V:=hid A;clear A;go_enter func181,ntmps181;go_upto_region 1 with fail
  go_cut [22] (fun G H=>G=.bool false/\Below w.heap.size w H)
  case first=>
   go_region_held3 (fun w'=>w'.cell? ⟨d,0,none⟩=some (.string a)/\Below w.heap.size w w')
    (first
     |with_reducible assumption
     |with_reducible exact aA9 M
     |with_reducible exact aA8 (by assumption) O (by assumption))
    (first
     |(go_at_call 129;refine(PV a _ J).mono ?_;rintro e w1 ⟨rfl,Z⟩;rw[V.out,qB]))
   all_goals go_wp2_with fail
   all_goals go_meet
   all_goals exact⟨rfl,And.right (show w1.cell? ⟨d,0,none⟩=some (.string a)/\Below w.heap.size w w1 by assumption)⟩
  case rest=>
   obtain⟨rfl,I⟩:=hcut;go_wp2_with fail;go_ret;exact⟨rfl,I⟩
 ·rw[aA (fun h=>A h.2)];have U:((mkS (bY a.data.toList)).toList==a.toList)=false:=aA4 (fun e=>A (by have:=congrArg (fun s=>s.data.toList) e;simpa using this));go_enter func181,ntmps181;go_upto_region 1 with fail
  go_cut [22] (fun G H=>G=.bool true/\Below w.heap.size w H)
  case first=>
   go_region_held3 (fun w'=>w'.cell? ⟨d,0,none⟩=some (.string a)/\Below w.heap.size w w')
    (first
     |with_reducible assumption
     |with_reducible exact aA9 M
     |with_reducible exact aA8 (by assumption) O (by assumption))
    (first
     |(go_at_call 129;refine(PV a _ J).mono ?_;rintro e w1 ⟨rfl,Z⟩))
   all_goals go_wp2_with fail
   all_goals go_meet
   all_goals exact⟨rfl,And.right (show w1.cell? ⟨d,0,none⟩=some (.string a)/\Below w.heap.size w w1 by assumption)⟩
  case rest=>
   obtain⟨rfl,I⟩:=hcut;go_wp2_with fail;go_ret;exact⟨rfl,I⟩
end Go.Proofs.YtihbnmlinkbnkaaGreatDoor
