/-
  Texts put together (part 6): the walks and the plain laws on which the statement stands.
-/
import Derived.WalkMore
import Derived.Test.YtjkjeamepgjicaaGreatDoorZ5
set_option maxRecDepth 100000
set_option maxHeartbeats 12800000
set_option linter.unusedVariables false
set_option linter.unusedSimpArgs false
open Go renaming Program->gD,run_underlying->sI
open Go.Calls renaming quiet_of_same->OM
open Go.Instr renaming index->tV
open Go.IntKind renaming i64->aI,wrap_i64->aM
open Go.Lib renaming bytesWorld_size->aCt
open Go.Result renaming andThen->jB
open Go.RowKit.Below renaming refl->aB
open Go.World renaming cell?_of_block->oK,grownBy_alloc->AV
open Go.World.ownsRow renaming alloc->aBy,kept->NH,lt->aT4
open Int renaming toNat_natCast->eG
open List renaming countP_le_length->xR,flatten_cons->AS,getD_eq_getElem?_getD->aV,getElem?_eq_getElem->aN,getElem?_eq_none->dL,getElem?_eq_some_iff->eU,length_append->aL,length_take->aX,mem_append->cU,mem_cons_of_mem->jD,mem_cons_self->lY,mem_map->dU,mem_of_getElem?->cH,take_add_one->cQ,take_of_length_le->cS
open Nat renaming add_assoc->dZ,add_zero->pH,le_mul_of_pos_right->FM,le_refl->aA,le_trans->aW,lt_of_lt_of_le->dR,lt_or_ge->bT,pow_le_pow_right->jC,zero_add->iZ,zero_le->aU
open Option renaming toList_some->mX
open Option.some renaming inj->bW
namespace Go.Proofs.YtjkjeamepgjicaaGreatDoor
section
open Go.RowKit
def qQ (f:Nat->Bool):List Value:=(List.range 256).map (fun d=>Value.bool (f d))
theorem LK (f:Nat->Bool) (i:Nat) (h:i<256):(qQ f)[i]? =some (.bool (f i)):=by simp[qQ,h]
theorem aKv (f f':Nat->Bool) (i:Nat) (v:Bool) (h:∀d,d<256->f' d=if d=i then v else f d):(qQ f).set i (.bool v)=qQ f':=by
 apply List.ext_getElem?;intro j
 by_cases hj:j<256
 ·by_cases hij:i=j
  ·subst hij;simp[qQ,hj,h i hj]
  ·rw[List.getElem?_set_ne hij,LK f j hj,LK f' j hj,h j hj,if_neg (fun e=>hij e.symm)]
 ·rw[dL (by simp[qQ];omega),dL (by simp[qQ];omega)]
theorem WN (a:ByteArray) (w:World) (hs:a.size<=1000000000) (hn:a.data.toList.Nodup):
  Calls Tryz.prog 103 #[.string a] w fun e w'=>e=.returned (.bool true)/\Below w.heap.size w w':=by
 have HN:=hid hn;clear hn;have hl:a.data.toList.length=a.size:=by simp
 have HL:=hid hl;clear hl;go_enter Tryz.func103,Tryz.ntmps103;go_wp2_with fail
 go_loopg [2,4,7] a.size (fun gh _s2 _s4 s7 wr=>∃k:Nat,k<=a.size/\gh=a.size-k/\s7=.int .i64 k/\Arr wr w.heap.size 201 (qQ (fun d=>(a.data.toList.take k).any (fun b=>b.toNat==d)))/\Below w.heap.size w wr)
 case atStart=>
  refine⟨0,aU _,rfl,rfl,?_,(aB _ _).alloc (aA _) _⟩;have z:Tryz.zeroCells201=(qQ (fun _=>false)).toArray:=by kernel_rfl
  rw[z]
  simpa using Arr.new w 201 (qQ (fun _=>false))
 case round=>
 obtain⟨k,hk,hg,rfl,harr,hbel⟩:=hrel;have HG:=hid hg;clear hg
 by_cases hka:k<a.size
 ·have hb:=a[k].toNat_lt;have hb1:a[k].toNat<256:=hb;have hb2:(a[k].toNat:Int)<256:=by omega
  have hno:(a.data.toList.take k).any (fun b=>b.toNat==a[k].toNat)=false:=by
   rw[<-Bool.not_eq_true,List.any_eq_true];rintro⟨b,hb,e⟩
   replace e:=beq_iff_eq.1 e
   have e2:b=a[k]:=UInt8.toNat_inj.1 e;subst e2;obtain⟨j,hj,hje⟩:=List.getElem_of_mem hb;rw[aX] at hj;rw[List.getElem_take] at hje;have p1:=IL HN.out (i:=j) (by rw[HL.out];omega);have p2:=IL HN.out (i:=k) (by rw[HL.out];exact hka);rw[hje] at p1;have p3:a.data.toList[k]'(by rw[HL.out];exact hka)=a[k]:=by simp;rfl
   rw[p3] at p2;omega
  have hcell:=harr.cell (i:=a[k].toNat) (by rw[LK _ _ hb1,hno]);have hfro:=harr.free a[k].toNat;have hset:=aKv (fun d=>(a.data.toList.take k).any (fun b=>b.toNat==d)) (fun d=>(a.data.toList.take (k+1)).any (fun b=>b.toNat==d)) a[k].toNat true (fun d _=>by
   rw[cQ,eW a k hka,mX];rw[List.any_append]
   by_cases hd:d=a[k].toNat
   ·rw[if_pos hd,hd];simp
   ·rw[if_neg hd];have:(a[k].toNat==d)=false:=by(rw[beq_eq_false_iff_ne];exact fun e=>hd e.symm)
    simp[this])
  have hnew:=harr.set a[k].toNat (.bool true);rw[hset] at hnew;clear hset;go_wp2_with fail;have hg:=HG.out
  go_roundg (a.size-(k+1))
  case measure=>omega
  case rel=>exact⟨k+1,by omega,rfl,by go_num,hnew,hbel.setCell (aA _) _⟩
 ·go_wp2_with fail;go_ret;exact⟨rfl,hbel⟩
structure Tel (w:World) (B C tb g cap:Nat) (l:List UInt8) (pv:Value) (ps:List Int):Prop where
 c0:w.cell? ⟨tb,0,none⟩=some (.slice (some ⟨g,0,none⟩) l.length cap)
 c1:w.cell? ⟨tb,1,none⟩=some pv
 fr:w.frozen? ⟨tb,1,none⟩=false
 by':ByA w g l
 own:OwI w C pv ps
 sep:B<=g/\B<=tb/\tb≠g/\g<C/\tb<C/\C<=w.heap.size
theorem OwI.kept {w w':World} {B:Nat} {v:Value} {l:List Int} {row:Option Nat} (h:OwI w B v l) (hg:w.grownBy w' row) (hne:∀b,row=some b->b<B):OwI w' B v l:=by
 refine Ow.kept h hg ?_
 cases e:v.ownBlock with
 |none=>exact .inl rfl
 |some k=>
  right
  intro e2;have:=hne k e2.symm;have:=(Ow.lt h k e).1;omega
theorem aK0 (w:World) (e:TypeId) (s:ByteArray):Below w.heap.size w (Lib.bytesWorld w e s):=
 ⟨rfl,rfl,rfl,by rw[aCt];omega,fun k hk=>Lib.bytesWorld_at_old w e s k hk⟩
theorem DX (w:World) (a:ByteArray) (ha:a.size<=1000000):∃cap w',(convert 9 40 (.string a)).run Tryz.prog w=.ok (.slice (some ⟨w.heap.size,0,none⟩) a.size cap) w'/\a.size<=cap/\cap<=maxLen/\ByA w' w.heap.size a.data.toList/\Below w.heap.size w w'/\w'.heap.size=w.heap.size+1:=by
 refine⟨grownCap w a.size 0 5,Lib.bytesWorld w 5 a,Lib.run_convert_string_bytes w _ _ _ a Tryz.underlying9 Tryz.underlying40 Tryz.underlying5,grownCap_ge _ _ _ _,grownCap_le_maxLen _ _ _ _ (by unfold maxLen;omega),⟨?_,?_,?_⟩,aK0 _ _ _,aCt _ _ _⟩
 ·rw[aCt];omega
 ·intro j b hj;have hjl:j<a.size:=by simpa using(eU.1 hj).1
  rw[Lib.bytesWorld_cell w _ a j hjl,aV,hj];rfl
 ·intro j hj;have hjl:j<a.size:=by simpa using hj
  have hc:j<(Lib.bytesCells w 5 a).size:=by
   unfold Lib.bytesCells;rw[Array.size_append,Array.size_map];have:a.data.size=a.size:=rfl;omega
  simp only[World.frozen?,Lib.bytesWorld_at_new];simp;omega
theorem aK4 {P:gD} {ops:Array Oper} {rest:List Oper} {o:Oper} {a:Act} {Q:Exit->Act->World->Prop} {w:World} {t e bytes:Nat} {z:Value} (E:ElT P t e bytes z) (hgd:o.guard=none) (l c:Operand)
  (ho:o.op=.makeSlice t l c) (n:Nat) (hl:a.eval l=.int .i64 0) (hc:a.eval c=.int .i64 (n:Int)) (hroom:n*bytes<=140737488355328)
  (h:∀w',Ow w' w.heap.size e (.slice (some ⟨w.heap.size,0,none⟩) 0 n) []->Below w.heap.size w w'->w'.heap.size=w.heap.size+1->wpList P ops Q rest (a.put o.dst (.slice (some ⟨w.heap.size,0,none⟩) 0 n)) w'):wpList P ops Q (o::rest) a w:=by
 refine wpList_plain hgd fun K hK'=>?_
 obtain⟨i,hi,hz,h2,h3⟩:=E.info;have hpos:=E.pos;have hn:n<=140737488355328:=aW (FM _ hpos) hroom;have hb:(i.bytes:Int)*(n:Int)<=281474976710656:=by
  rw[h3,<-Int.natCast_mul,Nat.mul_comm];omega
 have hrun:=run_make (P:=P) w t e i z E.under hi hz .i64 .i64 0 (n:Int) (by omega) (by omega) hb (by omega);rw[h2,Nat.mul_one,eG,E.cells,show madeCells #[z] n=fB z n from by rw[fB,<-toList_madeCells_one]] at hrun;unfold Oper.wp;simp[execOp,ho,hl,hc,hrun,jB];exact hK' _ _ (h _ (World.ownsRow_made w _ n (aA _) (by unfold maxLen;omega) (by simp[fB])) ((aB _ _).alloc (aA _) _) (by simp))
theorem OwB.kept {w w':World} {B:Nat} {v:Value} {l:List UInt8} {row:Option Nat} (h:OwB w B v l) (hg:w.grownBy w' row) (hne:∀b,row=some b->b<B):OwB w' B v l:=by
 refine Ow.kept h hg ?_
 cases e:v.ownBlock with
 |none=>exact .inl rfl
 |some k=>
  right
  intro e2;have:=hne k e2.symm;have:=(Ow.lt h k e).1;omega
theorem aK5 (a:ByteArray) (v:Value) (l:List Int) (w:World) (ha:a.size<=1000) (hl:l.length<=1000000) (hn:a.data.toList.Nodup) (hr:RdI w v l) (hx:∀x∈l,0<=x/\x<(a.size:Int)):
  Calls Tryz.prog 88 #[.string a,v] w fun e w'=>e=.returned (.tuple #[.string (mkS (unL a.data.toList l)),.int .i64 0])/\Below w.heap.size w w':=by
 obtain⟨ad,ca,rfl,hca,hma,hA⟩:=hr.open;unfold maxLen at hma;have HN:=hid hn;have HX:=hid hx;have hla:a.data.toList.length=a.size:=by simp
 have HLA:=hid hla;clear hn hx hr hla;go_enter Tryz.func88,Tryz.ntmps88;go_wp2_with fail;refine(WN a _ (by omega) HN.out).mono ?_;rintro e w1 ⟨rfl,hb1⟩;have hz1:=hb1.size;go_wp2_with fail;obtain⟨cap,w2,hcv,hcap1,hcap2,hA2,hb2,hz2⟩:=DX w1 a (by omega);rw[hcv];have hA3:=hA2.kept (row:=none) (AV w2 (.cells #[.slice (some ⟨w1.heap.size,0,none⟩) a.size cap] 213) none) (by simp);have hc3:=bS w2 (.slice (some ⟨w1.heap.size,0,none⟩) a.size cap) 213
 have hb3:Below w.heap.size w (w2.alloc (.cells #[.slice (some ⟨w1.heap.size,0,none⟩) a.size cap] 213)):=(hb1.trans (hb2.mono hz1)).alloc (by omega) _;have hz3:(w2.alloc (.cells #[.slice (some ⟨w1.heap.size,0,none⟩) a.size cap] 213)).heap.size=w1.heap.size+1+1:=by simp[hz2]
 rw[hz2] at hc3;go_wp2_with (at_make;generalize w2.alloc (.cells #[.slice (some ⟨w1.heap.size,0,none⟩) a.size cap] 213)=w3 at*;refine aK4 vQ rfl _ _ rfl l.length rfl rfl (by omega) ?_;intro w4 hown4 hb4 hz4);have hown4':OwB w4 (w1.heap.size+1+1) (.slice (some ⟨w1.heap.size+1+1,0,none⟩) 0 l.length) []:=by rw[hz3] at hown4;exact hown4
 have hA4:=hA3.below hb4 (by omega);have hc4:w4.cell? ⟨w1.heap.size+1,0,none⟩=some (.slice (some ⟨w1.heap.size,0,none⟩) a.size cap):=by
  rw[hb4.cell (p:=⟨w1.heap.size+1,0,none⟩) (by show w1.heap.size+1<w3.heap.size;omega)];exact hc3
 have hbl4:Below w.heap.size w w4:=hb3.trans (hb4.mono (by omega))
 go_loopg [7,9,21] l.length (fun gh s7 _s9 s21 wr=>∃k:Nat,k<=l.length/\gh=l.length-k/\s21=.int .i64 k/\OwB wr (w1.heap.size+1+1) s7 (unL a.data.toList (l.take k))/\ByA wr w1.heap.size (unA a.data.toList (l.take k))/\wr.cell? ⟨w1.heap.size+1,0,none⟩=some (.slice (some ⟨w1.heap.size,0,none⟩) a.size cap)/\Below w.heap.size w wr/\w1.heap.size+1+1<=wr.heap.size)
 case atStart=>exact⟨0,aU _,rfl,rfl,by simpa [unL] using hown4',by simpa [unA] using hA4,hc4,hbl4,by omega⟩
 case round=>
 obtain⟨k,hk,hg,rfl,hown,hAk,hck,hbel,hsz⟩:=hrel;have HG:=hid hg;clear hg
 by_cases hlt:k<l.length
 ·obtain⟨b0,o0,rfl,hb0,hc0⟩:=hA (by omega);obtain⟨x,hx⟩:=dH hlt;have c1:=(hbel.cell (p:=⟨b0,o0+k,none⟩) hb0).trans (hc0 k x hx);have hxb:=HX.out x (cH hx);obtain⟨i,rfl⟩:∃i:Nat,x=(i:Int):=⟨x.toNat,by omega⟩;obtain⟨A,hAA⟩:∃A,A=unA a.data.toList (l.take k):=⟨_,rfl⟩;have hAs:A.length=a.size:=by rw[hAA,(PM _ _).length_eq];exact HLA.out
  have hll:=hid (show(unL a.data.toList (l.take k)).length=k by rw[oO,aX];omega);have hi:i<A.length:=by omega
  have e1:=hid (show unL a.data.toList (l.take (k+1))=unL a.data.toList (l.take k)++[A[i]] by
   rw[cQ,hx,mX,IN,<-hAA];simp[List.getD,aN hi])
  have e2:=hid (show unA a.data.toList (l.take (k+1))=eF A i by
   rw[cQ,hx,mX,IP,<-hAA];rfl)
  rw[<-hAA] at hAk;have t1:decide ((i:Int)<0)=false:=decide_eq_false (by omega);have t2:decide (a.size<=i)=false:=decide_eq_false (by omega);have t3:decide ((a.size:Int)<=(i:Int))=false:=decide_eq_false (by omega);have hb0r:=dR hb0 hbel.size;have HAL:=hid hAs;clear hc0 hA hx hxb hAA hAs;go_wp2_with fail;have htk:=WM w1.heap.size cap i A wr hAk hi (by rw[HAL.out];exact ha) (by rw[HAL.out];exact hcap1) hcap2;rw[HAL.out] at htk;refine htk.mono ?_;rintro e w6 ⟨rfl,hA6,hg6⟩;rw[<-e2.out] at hA6;have hbb:=(A[i]).toNat_lt;have hown6:=hown.kept hg6 (fun b e=>by simp at e;omega)
  have hc6:=hck;rw[<-oK (hg6.block (w1.heap.size+1) (by omega) (by simp))] at hc6;have hb6:Below w.heap.size w w6:=hbel.grown hg6 (by omega) (fun k e=>by simp at e;omega);have hz6:=hg6.size;go_wp2_with (at_builtin;refine yZ rfl _ _ rfl (w1.heap.size+1+1) _ _ rfl (hown6.alloc _) w6.heap.size A[i] rfl ?_ ?_ ?_ ?_;(exact bS _ _ _);(rw[hll.out];omega);(simp;omega);intro v' w7 hown7 hb7 _);rw[<-e1.out] at hown7;have hg:=HG.out;have hz7:=hb7.size;simp only[World.size_alloc] at hz7
  go_roundg (l.length-(k+1))
  case measure=>omega
  case rel=>
   refine⟨k+1,by omega,rfl,by go_num,hown7,?_,?_,(hb6.alloc (by omega) _).trans (hb7.mono (by omega)),by omega⟩
   ·exact(hA6.kept (row:=none) (AV w6 _ none) (by simp)).below hb7 (by omega)
   ·rw[hb7.cell (p:=⟨w1.heap.size+1,0,none⟩) (by show w1.heap.size+1<w1.heap.size+1+1;omega),oK (Below.heap_alloc w6 _ (w1.heap.size+1) (by omega))];exact hc6
 ·have hke:k=l.length:=by omega
  rw[cS (by omega)] at hown;have hcv2:=lQ hown.rd;go_wp2_with fail
  go_ret2
  exact⟨rfl,hbel⟩
end
section
open Go.RowKit Go Go.Shelf
abbrev aUh:=List (List Value)
def aUq (k:Nat) (l:aUh):Prop:=∀q∈l,q.length=k/\∀u∈q,u.oneCell'=true
theorem aUq.app {k:Nat} {l m:aUh} (h:aUq k l) (g:aUq k m):aUq k (l++m):=fun q hq=>(cU.1 hq).elim (h q) (g q)
theorem aUq.one {k:Nat} {q:List Value} (h:q.length=k) (g:∀u∈q,u.oneCell'=true):aUq k [q]:=fun x hx=>by obtain rfl:=List.mem_singleton.1 hx;exact⟨h,g⟩
theorem aVf {k:Nat}:∀{l:aUh},aUq k l->l.flatten.length=l.length*k
 |[],_=>by simp
 |x::l,h=>by
  rw[AS,aL,aVf (l:=l) (fun q hq=>h q (jD _ hq)),(h x (lY ..)).1,List.length_cons,Nat.succ_mul,Nat.add_comm]
theorem aVg {k:Nat}:∀{l:aUh},aUq k l->∀(j i:Nat) (q:List Value) (u:Value),l[j]? =some q->q[i]? =some u->l.flatten[j*k+i]? =some u
 |[],_,j,i,q,u,h,_=>by simp at h
 |x::l,hw,0,i,q,u,h,hu=>by
  obtain rfl:x=q:=by simpa using h
  have hi:=(eU.1 hu).1;rw[AS,Nat.zero_mul,iZ,List.getElem?_append_left hi];exact hu
 |x::l,hw,j+1,i,q,u,h,hu=>by
  have ih:=aVg (fun q hq=>hw q (jD _ hq)) j i q u (by simpa using h) hu;have hx:=(hw x (lY ..)).1;rw[AS,List.getElem?_append_right (by rw[hx,Nat.succ_mul];omega),hx,show(j+1)*k+i-k=j*k+i by rw[Nat.succ_mul];omega];exact ih
theorem aWn {k:Nat} {l:aUh} (h:aUq k l):∀u∈l.flatten,u.oneCell'=true:=fun u hu=>by
 obtain⟨q,hq,hu⟩:=List.mem_flatten.1 hu;exact(h q hq).2 u hu
structure ElR (P:gD) (t e k bytes:Nat) (z:Value):Prop where
 under:P.underlying t=some (.slice e)
 info:∃i,P.info? e=some i/\i.zero=some z/\i.size=k/\i.bytes=bytes
 cells:z.cells.size=k
 pos:1<=bytes
 some':1<=k
theorem ElR.mk' {P:gD} {t e k bytes:Nat} {z:Value} (h:(P.info? e).map (fun i=>(i.zero,i.size,i.bytes))=some (some z,k,bytes)) (hu:P.underlying t=some (.slice e)) (hc:z.cells.size=k) (hb:1<=bytes) (hk:1<=k):ElR P t e k bytes z:=by
 obtain⟨i0,hi,hz0,hz1,hz2⟩:=info_parts h;exact⟨hu,⟨i0,hi,hz0,hz1,hz2⟩,hc,hb,hk⟩
def RdR (w:World) (v:Value) (l:aUh):Prop:=Rd w v l.length l.flatten
theorem RdR.below {w w':World} {v:Value} {l:aUh} (h:RdR w v l) (hb:Below w.heap.size w w'):RdR w' v l:=Rd.below h hb
def OwR (w:World) (B e k:Nat) (v:Value) (l:aUh):Prop:=w.ownsRow B e k v l.length l.flatten
theorem OwR.nil (w:World) (B e k:Nat):OwR w B e k (.slice none 0 0) []:=World.ownsRow_nil _ _ _ _
theorem OwR.alloc {w:World} {B e k:Nat} {v:Value} {l:aUh} (h:OwR w B e k v l) (o:Obj):OwR (w.alloc o) B e k v l:=aBy h o
theorem OwR.below {w w':World} {B C e k:Nat} {v:Value} {l:aUh} (h:OwR w B e k v l) (hb:Below C w w') (hC:w.heap.size<=C):OwR w' B e k v l:=GZ h hb hC
theorem OwR.base {w:World} {B B' e k:Nat} {v:Value} {l:aUh} (h:OwR w B e k v l) (hb:B'<=B):OwR w B' e k v l:=IA h hb
theorem OwR.kept {w w':World} {B e k:Nat} {v:Value} {l:aUh} {row:Option Nat} (h:OwR w B e k v l) (hg:w.grownBy w' row) (hne:v.ownBlock=none\/v.ownBlock≠row):OwR w' B e k v l:=NH h hg hne
theorem OwR.lt {w:World} {B e k:Nat} {v:Value} {l:aUh} (h:OwR w B e k v l):∀g,v.ownBlock=some g->B<=g/\g<w.heap.size:=aT4 h
theorem OwR.rd {w:World} {B e k:Nat} {v:Value} {l:aUh} (h:OwR w B e k v l):RdR w v l:=Rd.of_own h
theorem RdR.open {w:World} {v:Value} {l:aUh} {k:Nat} (h:RdR w v l) (hw:aUq k l) (hk:1<=k):∃a cap,v=.slice a l.length cap/\l.length<=cap/\cap<=maxLen/\
  (0<l.length->∃b off,a=some ⟨b,off,none⟩/\b<w.heap.size/\∀j q i u,l[j]? =some q->q[i]? =some u->w.cell? ⟨b,off+(j*k+i),none⟩=some u):=by
 obtain⟨a,cap,rfl,h1,h2,h3⟩:=h;refine⟨a,cap,rfl,h1,h2,fun hne=>?_⟩;have hfl:=aVf hw;rcases h3 with h3|⟨b,off,rfl,hlt,hc⟩
 ·rw[h3,List.length_nil] at hfl;have:=Nat.mul_pos hne hk;omega
 ·refine⟨b,off,rfl,hlt,fun j q i u hq hu=>?_⟩;have hf:=aVg hw j i q u hq hu;obtain⟨hj,hx⟩:=eU.1 hf;rw[hc _ hj,aV,hf];rfl
theorem RdR.one {w:World} {g e:Nat} {q:List Value} (h:Arr w g e q):RdR w (.slice (some ⟨g,0,none⟩) 1 1) [q]:=by
 refine⟨_,1,rfl,aA _,by simp[maxLen],.inr ⟨g,0,rfl,h.lt,fun j hj=>?_⟩⟩;rw[AS,List.flatten_nil,List.append_nil] at hj ⊢;rw[iZ,h.cell (i:=j) (aN hj),aV,aN hj];rfl
section
variable {P:gD} {t e k bytes:Nat} {z:Value}
theorem aVt (E:ElR P t e k bytes z) {w:World} (ty:TypeId) (base:Nat) (v:Value) (l:aUh) (hown:OwR w base e k v l) (sv:Value) (m:aUh) (hsrc:RdR w sv m) (h1:aUq k m) (hm:0<m.length) (hroom:(l.length+m.length)*bytes<=140737488355328) (hbase:base<=w.heap.size):
  ∃v' w',(Builtin.append_ #[t,t] ty #[v,sv]).run P w=.ok v' w'/\OwR w' base e k v' (l++m)/\Below base w w'/\w.grownBy w' v.ownBlock:=by
 obtain⟨i,hi,hz,h2,h3⟩:=E.info;obtain⟨a,cap,rfl,hc1,hc2,h⟩:=hsrc.open h1 E.some';obtain⟨b,off,rfl,hlt,hc⟩:=h hm;have hpos:=E.pos;have hk:=E.some';have hn:l.length+m.length<=140737488355328:=aW (FM _ hpos) hroom;have hfl:=aVf h1;obtain⟨v',w',q1,q2,q3,_⟩:=run_append_own (P:=P) w base t ty e i z k bytes E.under hi hz h2 h3 E.cells hk v l.length _ hown ⟨b,off,none⟩ m.length cap m.flatten hfl (fun j u hu=>by
   have hj:=(eU.1 hu).1;rw[hfl] at hj;have hjk:j/k<m.length:=(Nat.div_lt_iff_lt_mul hk).2 hj;have hq:m[j/k]? =some m[j/k]:=aN hjk;have hql:=(h1 _ (List.getElem_mem hjk)).1;have hlt2:=Nat.mod_lt j hk;have hqi:m[j/k][j%k]? =some (m[j/k][j%k]'(by rw[hql];exact hlt2)):=aN _;have hg:=aVg h1 _ _ _ _ hq hqi;have hd:j/k*k+j%k=j:=Nat.div_add_mod' j k;have hcc:=hc _ _ _ _ hq hqi;rw[hd] at hg hcc;rw[hg] at hu;rw[<-bW hu];have e:(⟨b,off,none⟩:Addr).add j=⟨b,off+j,none⟩:=by unfold Addr.add;split<;>simp_all
   rw[e];exact hcc) (aWn h1) (by simp only[maxLen];omega) hroom hbase
 refine⟨v',w',q1,?_,rC hown q3 hbase,q3⟩;unfold OwR;rw[List.flatten_append,aL];exact q2
end
theorem aU4 (d:Nat) (h:d<=9223372036854775807):aI.wrap (d:Int)=(d:Int):=by rw[aM];omega
def LF (x:Ent):List Value:=[.int .i64 x.a,.int .i64 x.r,.int .i64 x.f,.int .i64 x.n,.int .u32 x.y]
theorem aVn (l:List Ent):aUq 5 (l.map LF):=fun q hq=>by
 obtain⟨p,_,rfl⟩:=dU.1 hq;exact⟨rfl,fun u hu=>by unfold LF at hu;simp only[List.mem_cons,List.not_mem_nil,or_false] at hu;rcases hu with rfl|rfl|rfl|rfl|rfl<;>rfl⟩
theorem aWp {w:World} {v:Value} {l:List Ent} (h:RdR w v (l.map LF)):∃a cap,v=.slice a l.length cap/\l.length<=cap/\cap<=maxLen/\
  (0<l.length->∃b off,a=some ⟨b,off,none⟩/\b<w.heap.size/\∀j p,l[j]? =some p->w.cell? ⟨b,off+j*5,none⟩=some (.int .i64 p.a)/\w.cell? ⟨b,off+j*5+1,none⟩=some (.int .i64 p.r)/\w.cell? ⟨b,off+j*5+2,none⟩=some (.int .i64 p.f)/\w.cell? ⟨b,off+j*5+3,none⟩=some (.int .i64 p.n)/\w.cell? ⟨b,off+j*5+4,none⟩=some (.int .u32 p.y)):=by
 obtain⟨a,cap,hv,h1,h2,h3⟩:=h.open (aVn l) (by decide);rw[List.length_map] at hv h1 h3;refine⟨a,cap,hv,h1,h2,fun hl=>?_⟩;obtain⟨b,off,ha,hb,hc⟩:=h3 hl;refine⟨b,off,ha,hb,fun j p hj=>?_⟩;have e:(l.map LF)[j]? =some (LF p):=by rw[List.getElem?_map,hj];rfl
 have c:=fun i u hi=>hc j (LF p) i u e hi
 refine⟨c 0 _ rfl,?_,?_,?_,?_⟩
 ·rw[dZ];exact c 1 _ rfl
 ·rw[dZ];exact c 2 _ rfl
 ·rw[dZ];exact c 3 _ rfl
 ·rw[dZ];exact c 4 _ rfl
theorem aX7 (v:Value) (l:List Ent) (w:World) (hr:RdR w v (l.map LF)) (hl:l.length<=1000000):
  Calls Tryz.prog 11 #[v] w fun e w'=>e=.returned (.bool (decide (aU1 l)))/\Below w.heap.size w w':=by
 obtain⟨a,ca,rfl,hca,hma,hA⟩:=aWp hr;unfold maxLen at hma;obtain⟨R,hR⟩:∃R:Bool,R=decide (aU1 l):=⟨_,rfl⟩;rw[<-hR];have HR:=hid hR;clear hR hr;go_enter Tryz.func11,Tryz.ntmps11;go_wp2_with fail
 go_step3
 go_wp2_with fail
 go_step3
 go_wp2_with fail
 go_loopg [3,4,5,7,10,14] l.length (fun g s3 s4 s5 _s7 s10 _s14 wr=>∃(k:Nat) (fr lo:Int),k<=l.length/\g=l.length-k/\s10=.int .i64 (k:Int)/\s3=.int .i64 fr/\s4=.int .i64 lo/\s5=.bool true/\(0<=fr/\fr<=18720*(k:Int))/\Hid (aU1 l↔aU0 fr lo (l.drop k))/\Below w.heap.size w wr)
 case atStart=>exact⟨0,0,31,aU _,rfl,rfl,rfl,rfl,rfl,⟨by decide,by decide⟩,hid (Iff.refl _),aB _ _⟩
 case round=>
  obtain⟨k,fr,lo,hk,hg,rfl,rfl,rfl,rfl,hfr,HI,hbel⟩:=hrel;have HG:=hid hg;have hsz:=hbel.size;clear hg
  by_cases hlt:k<l.length
  ·have t1:decide ((k:Int)<(l.length:Int))=true:=decide_eq_true (by omega);obtain⟨b,off,rfl,hb,hc⟩:=hA (by omega);obtain⟨x,hx⟩:∃x,l[k]? =some x:=⟨_,aN hlt⟩;have HD:=hid (show aU1 l↔x.ok fr lo/\aU0 (x.f+x.n) x.a (l.drop (k+1)) by
    have e:l[k]=x:=by rw[aN hlt] at hx;exact bW hx
    rw[HI.out,List.drop_eq_getElem_cons hlt,e];exact Iff.rfl)
   obtain⟨x0,x1,x2,x3,x4⟩:=hc k x hx;clear hc hx hA HI;obtain⟨xa,xr,xf,xn,xy⟩:=x;have c0:=(hbel.cell (p:=⟨b,off+k*5,none⟩) hb).trans x0;have c1:=(hbel.cell (p:=⟨b,off+k*5+1,none⟩) hb).trans x1;have c2:=(hbel.cell (p:=⟨b,off+k*5+2,none⟩) hb).trans x2;have c3:=(hbel.cell (p:=⟨b,off+k*5+3,none⟩) hb).trans x3;have c4:=(hbel.cell (p:=⟨b,off+k*5+4,none⟩) hb).trans x4;dsimp only at c0 c1 c2 c3 c4;have hbA:=fun o=>hbel.alloc hsz o
   clear x0 x1 x2 x3 x4
   by_cases q1:xf=fr
   rotate_left
   ·obtain rfl:R=false:=by rw[HR.out];exact decide_eq_false (fun h=>q1 (HD.out.1 h).1.1)
    have u1:(xf != fr)=true:=bne_iff_ne.2 q1;go_wp2_with fail;go_ret;exact⟨rfl,hbA _⟩
   obtain rfl:=q1
   by_cases q2:xn<1
   ·obtain rfl:R=false:=by rw[HR.out];exact decide_eq_false (fun h=>absurd (HD.out.1 h).1.2.1 (by show ¬1<=xn;omega))
    have u1:decide (xn<1)=true:=decide_eq_true q2;go_wp2_with fail;go_ret;exact⟨rfl,hbA _⟩
   have u2:decide (xn<1)=false:=decide_eq_false q2
   by_cases q3:18720<xn
   ·obtain rfl:R=false:=by rw[HR.out];exact decide_eq_false (fun h=>absurd (HD.out.1 h).1.2.2.1 (by show ¬xn<=18720;omega))
    have u1:decide (xn>18720)=true:=decide_eq_true q3;have u1':decide (18720<xn)=true:=decide_eq_true q3;go_wp2_with fail;go_ret;exact⟨rfl,hbA _⟩
   have u3:decide (xn>18720)=false:=decide_eq_false q3;have u3':decide (18720<xn)=false:=decide_eq_false q3
   by_cases q4:xr<40
   ·obtain rfl:R=false:=by rw[HR.out];exact decide_eq_false (fun h=>absurd (HD.out.1 h).1.2.2.2.1 (by show ¬40<=xr;omega))
    have u1:decide (xr<40)=true:=decide_eq_true q4;go_wp2_with fail;go_ret;exact⟨rfl,hbA _⟩
   have u4:decide (xr<40)=false:=decide_eq_false q4
   by_cases q5:360<xr
   ·obtain rfl:R=false:=by rw[HR.out];exact decide_eq_false (fun h=>absurd (HD.out.1 h).1.2.2.2.2.1 (by show ¬xr<=360;omega))
    have u1:decide (xr>360)=true:=decide_eq_true q5;have u1':decide (360<xr)=true:=decide_eq_true q5;go_wp2_with fail;go_ret;exact⟨rfl,hbA _⟩
   have u5:decide (xr>360)=false:=decide_eq_false q5;have u5':decide (360<xr)=false:=decide_eq_false q5;obtain⟨Z,hZ⟩:∃Z,Z=xr.tmod 40:=⟨_,rfl⟩;have hZ2:Z=xr%40:=by rw[hZ];exact Int.tmod_eq_emod_of_nonneg (by omega)
   have mZ:aI.wrap Z=Z:=by rw[aM];omega
   have hZ':=hZ.symm;have HZ:=hid hZ2;clear hZ hZ2
   by_cases q6:Z=0
   rotate_left
   ·obtain rfl:R=false:=by rw[HR.out];exact decide_eq_false (fun h=>q6 (by rw[HZ.out];exact(HD.out.1 h).1.2.2.2.2.2.1))
    have u1:(Z != 0)=true:=bne_iff_ne.2 q6;go_wp2_with fail;go_ret;exact⟨rfl,hbA _⟩
   subst q6
   by_cases q7:xa<=lo
   ·obtain rfl:R=false:=by rw[HR.out];exact decide_eq_false (fun h=>absurd (HD.out.1 h).1.2.2.2.2.2.2 (by show ¬lo<xa;omega))
    have u1:decide (xa<=lo)=true:=decide_eq_true q7;go_wp2_with fail;go_ret;exact⟨rfl,hbA _⟩
   have u7:decide (xa<=lo)=false:=decide_eq_false q7;have HD2:=hid (show aU1 l↔aU0 (xf+xn) xa (l.drop (k+1)) from⟨fun h=>(HD.out.1 h).2,fun h=>HD.out.2 ⟨⟨rfl,by show 1<=xn;omega,by show xn<=18720;omega,by show 40<=xr;omega,by show xr<=360;omega,by show xr%40=0;exact HZ.out.symm,by show lo<xa;omega⟩,h⟩⟩);obtain⟨F,hF⟩:∃F,F=xf+xn:=⟨_,rfl⟩;have mF:aI.wrap (xf+xn)=F:=by rw[<-hF,aM];omega
   have hFb:0<=F/\F<=18720*((k:Int)+1):=by omega
   have hF':=hF.symm;rw[<-hF] at HD2;clear hF HZ HD;go_wp2_with fail
   go_quiet (fail)
   go_wp2_with fail;have hg:=HG.out
   go_roundg (l.length-(k+1))
   case measure=>omega
   case rel=>exact⟨k+1,F,xa,by omega,rfl,by go_num,rfl,rfl,rfl,⟨hFb.1,by push_cast;exact hFb.2⟩,HD2,below_drewN (hbA _) _⟩
  ·have t1:decide ((k:Int)<(l.length:Int))=false:=decide_eq_false (by omega);obtain rfl:R=true:=by
    rw[HR.out];refine decide_eq_true (HI.out.2 ?_);rw[List.drop_of_length_le (by omega)]
    trivial
   go_wp2_with fail;rw[Exit.noGoto_ret];go_ret;exact⟨rfl,hbel⟩
theorem kZ {w1 w2:World} {p1 p2 p3:Addr} {v1 v2 v3:Value} {B:Nat} {w0:World}
  (h:w1.cell? p1=some v1/\w1.cell? p2=some v2/\w1.cell? p3=some v3/\Below B w0 w1/\B<=w1.heap.size) (hb:Below w1.heap.size w1 w2):
  w2.cell? p1=some v1/\w2.cell? p2=some v2/\w2.cell? p3=some v3/\Below B w0 w2/\B<=w2.heap.size:=by
 obtain⟨h1,h2,h3,h6,h7⟩:=h;have k:∀{p:Addr} {v:Value},w1.cell? p=some v->w2.cell? p=some v:=fun{p} {v} hp=>(hb.cell (World.block_lt_of_cell? w1 p hp)).trans hp
 exact⟨k h1,k h2,k h3,h6.trans (hb.mono h7),aW h7 hb.size⟩
theorem KP {l:List Int} {s:List UInt8} {a i:Nat} (h:aO s.length (a:Int) (bG l i)=0):gZ l s a i↔aE s (a:Int) (bG l i)=fO l i:=by
 have h1:=fQ h;unfold gZ aE;rw[if_pos h,eG];exact⟨fun q=>q.2,fun q=>⟨by omega,q⟩⟩
theorem EQ {l:List Int} {k:Nat} {x y:Int} (h:l[k]? =some x) (hy:y∈l.take (k+1)):y∈l.take k\/y=x:=by
 rw[cQ,h] at hy;rcases cU.1 hy with hy|hy
 ·exact .inl hy
 ·simp at hy;exact .inr hy
theorem aPa (v:Value) (l:List Int) (w:World) (hr:RdI w v l) (h1:1<=l.length):
  Calls Tryz.prog 80 #[v] w fun e w'=>∃m,e=.returned (.int .i64 m)/\m∈l/\(∀x∈l,m<=x)/\w'=w:=by
 obtain⟨a,ca,rfl,hca,hma,hA⟩:=hr.open;unfold maxLen at hma;clear hr;obtain⟨b1,o1,rfl,hb1,hc1⟩:=hA (by omega);obtain⟨x0,hx0⟩:=dH h1;have c0:=hc1 0 x0 hx0;rw[pH] at c0;have HX0:=hid hx0;have t0:decide ((l.length:Int)<1)=false:=decide_eq_false (by omega);have t0':(0:Int)<(l.length:Int):=by omega
 have t0'':0<l.length:=by omega
 clear hx0 hA;go_enter Tryz.func80,Tryz.ntmps80;go_wp2_with fail
 go_loopg [3,4] (l.length-1) (fun g s3 s4 wr=>∃(k:Nat) (M:Int),1<=k/\k<=l.length/\g=l.length-k/\s4=.int .i64 (k:Int)/\s3=.int .i64 M/\Hid (M∈l/\∀x∈l.take k,M<=x)/\wr=w)
 case atStart=>exact⟨1,x0,by omega,h1,rfl,rfl,rfl,hid ⟨cH HX0.out,fun y hy=>by
  rcases EQ (k:=0) HX0.out hy with q|q
  ·simp at q
  ·omega⟩,rfl⟩
 case round=>
  obtain⟨k,M,hk1,hk,hg,rfl,rfl,HM,rfl⟩:=hrel;have HG:=hid hg;clear hg
  by_cases hlt:k<l.length
  ·have t1:decide ((k:Int)<(l.length:Int))=true:=decide_eq_true (by omega);obtain⟨x,hx⟩:=dH hlt;have c1:=hc1 k x hx;have HX:=hid hx;clear hc1 hx;go_wp2_with fail;have hg:=HG.out
   go_roundg (l.length-(k+1))
   case measure=>omega
   case rel=>exact⟨k+1,min M x,by omega,by omega,rfl,by go_num,rfl,hid ⟨by
    rcases Int.min_def M x▸(by split<;>simp:(if M<=x then M else x)=M\/(if M<=x then M else x)=x) with q|q
    ·rw[q];exact HM.out.1
    ·rw[q];exact cH HX.out,fun y hy=>by
    rcases EQ HX.out hy with q|q
    ·have:=HM.out.2 y q;omega
    ·omega⟩,rfl⟩
  ·have t1:decide ((k:Int)<(l.length:Int))=false:=decide_eq_false (by omega);have HF:=hid (show ∀x∈l,M<=x from fun x hx=>HM.out.2 x (by rw[cS (by omega)];exact hx));go_wp2_with fail;go_ret;exact⟨M,rfl,HM.out.1,HF.out,rfl⟩
theorem ZH (v:Value) (l:List Int) (w:World) (hr:RdI w v l) (h1:1<=l.length):
  Calls Tryz.prog 81 #[v] w fun e w'=>∃m,e=.returned (.int .i64 m)/\m∈l/\(∀x∈l,x<=m)/\w'=w:=by
 obtain⟨a,ca,rfl,hca,hma,hA⟩:=hr.open;unfold maxLen at hma;clear hr;obtain⟨b1,o1,rfl,hb1,hc1⟩:=hA (by omega);obtain⟨x0,hx0⟩:=dH h1;have c0:=hc1 0 x0 hx0;rw[pH] at c0;have HX0:=hid hx0;have t0:decide ((l.length:Int)<1)=false:=decide_eq_false (by omega);have t0':(0:Int)<(l.length:Int):=by omega
 have t0'':0<l.length:=by omega
 clear hx0 hA;go_enter Tryz.func81,Tryz.ntmps81;go_wp2_with fail
 go_loopg [3,4] (l.length-1) (fun g s3 s4 wr=>∃(k:Nat) (M:Int),1<=k/\k<=l.length/\g=l.length-k/\s4=.int .i64 (k:Int)/\s3=.int .i64 M/\Hid (M∈l/\∀x∈l.take k,x<=M)/\wr=w)
 case atStart=>exact⟨1,x0,by omega,h1,rfl,rfl,rfl,hid ⟨cH HX0.out,fun y hy=>by
  rcases EQ (k:=0) HX0.out hy with q|q
  ·simp at q
  ·omega⟩,rfl⟩
 case round=>
  obtain⟨k,M,hk1,hk,hg,rfl,rfl,HM,rfl⟩:=hrel;have HG:=hid hg;clear hg
  by_cases hlt:k<l.length
  ·have t1:decide ((k:Int)<(l.length:Int))=true:=decide_eq_true (by omega);obtain⟨x,hx⟩:=dH hlt;have c1:=hc1 k x hx;have HX:=hid hx;clear hc1 hx;go_wp2_with fail;have hg:=HG.out
   go_roundg (l.length-(k+1))
   case measure=>omega
   case rel=>exact⟨k+1,max M x,by omega,by omega,rfl,by go_num,rfl,hid ⟨by
    rcases Int.max_def M x▸(by split<;>simp:(if M<=x then x else M)=M\/(if M<=x then x else M)=x) with q|q
    ·rw[q];exact HM.out.1
    ·rw[q];exact cH HX.out,fun y hy=>by
    rcases EQ HX.out hy with q|q
    ·have:=HM.out.2 y q;omega
    ·omega⟩,rfl⟩
  ·have t1:decide ((k:Int)<(l.length:Int))=false:=decide_eq_false (by omega);have HF:=hid (show ∀x∈l,x<=M from fun x hx=>HM.out.2 x (by rw[cS (by omega)];exact hx));go_wp2_with fail;go_ret;exact⟨M,rfl,HM.out.1,HF.out,rfl⟩
theorem aPb (n:Nat) (f:Nat->Int):(tab n f).toArray.size=n:=by simp[tab]
theorem ZI (f:Nat->Int):(Tryz.prog.info? 173).map (·.size)=some (tab 21 f).toArray.size:=by rw[aPb];kernel_rfl
theorem MI:Tryz.prog.underlying 173=some (.array 21 3):=by kernel_rfl
theorem aPc {w:World} {b:Nat} {e:TypeId} {l:List Value} (n:Nat) (h:Arr w b e l) (hl:l.length=n) (f:Nat->Int):
  (storeCells ⟨b,0,none⟩ (tab n f)).run Tryz.prog w=.ok () (w.setRow b (tab n f).toArray):=by
 have h1:(tab n f).length=n:=by simp[tab]
 have h2:=run_storeCells_from (P:=Tryz.prog) b e (tab n f) 0 l.toArray w h (by simp[hl,h1]) (fun v hv=>by obtain⟨c,_,rfl⟩:=dU.1 hv;rfl);rw[h2]
 congr 2
theorem aPd (f:Nat->Int) (k:Nat) (hk:k<21) (w:World):(tV 173 (.agg (tab 21 f).toArray) (.int .i64 (k:Int))).run Tryz.prog w=.ok (.int .i64 (f k)) w:=by
 have h:(tab 21 f)[k]? =some (.int .i64 (f k)):=iS 21 f k hk;have hk2:(k:Int)<21:=by omega
 simp[tV,sI MI,asIntOf,hk,part,isAgg,sI Tryz.underlying3,h,jB]
theorem aPe (v:Value) (l:List Int) (w:World) (hr:RdI w v l) (hl:∀x∈l,1<=x/\x<=20) (hn:l.length<=258):
  Calls Tryz.prog 82 #[v] w fun e w'=>e=.returned (.agg (tab 21 (fun n=>(bU l n:Int))).toArray)/\Below w.heap.size w w':=by
 obtain⟨a,ca,rfl,hca,hma,hA⟩:=hr.open;unfold maxLen at hma;clear hr;have HL:=hid hl;clear hl;go_enter Tryz.func82,Tryz.ntmps82;go_wp2_with fail
 go_loopg [4,7] l.length (fun g _s4 s7 wr=>∃k:Nat,k<=l.length/\g=l.length-k/\s7=.int .i64 (k:Int)/\Arr wr w.heap.size 173 (tab 21 (fun n=>(bU (l.take k) n:Int)))/\Below w.heap.size w wr)
 case atStart=>
  refine⟨0,aU _,rfl,rfl,?_,(aB _ _).alloc (aA _) _⟩;exact Arr.new w _ (tab 21 (fun _=>0))
 case round=>
  obtain⟨k,hk,hg,rfl,harr,hbel⟩:=hrel;have HG:=hid hg;clear hg
  by_cases hlt:k<l.length
  ·have t1:decide ((k:Int)<(l.length:Int))=true:=decide_eq_true (by omega);obtain⟨b1,o1,rfl,hb1,hc1⟩:=hA (by omega);obtain⟨x,hx⟩:=dH hlt;have c1:=((lP hbel).1 b1 (o1+k) hb1).trans (hc1 k _ hx);have hxb:=HL.out x (cH hx);obtain⟨y,rfl⟩:∃y:Nat,x=(y:Int):=⟨x.toNat,by omega⟩;have hy:y<21:=by omega
   have hy':(y:Int)<21:=by omega
   have d1:=harr.cell (iS 21 _ y hy);have f1:=harr.free y;have hS:=fun n=>BN hlt n
   have hgD:l.getD k 0=(y:Int):=by rw[aV,hx];rfl
   rw[hgD] at hS;have hcb:bU (l.take k) y<=258:=by unfold bU;exact aW xR (by rw[aX];omega)
   obtain⟨C,hC⟩:∃C,C=bU (l.take k) y:=⟨_,rfl⟩;rw[<-hC] at d1 hcb;have m1:aI.wrap ((C:Int)+1)=(C:Int)+1:=by rw[aM];omega
   have HT:=hid (qD 21 (fun n=>(bU (l.take k) n:Int)) (fun n=>(bU (l.take (k+1)) n:Int)) y ((C:Int)+1) (fun d hd=>by
    show((bU (l.take (k+1)) d:Nat):Int)=_;rw[hS d]
    by_cases e:d=y
    ·subst e;rw[if_pos (by simp),if_pos rfl,<-hC];omega
    ·rw[if_neg (by simp;omega),if_neg e];omega))
   clear hC hS hgD hx hc1 hA hxb;go_wp2_with fail;have hg:=HG.out
   go_roundg (l.length-(k+1))
   case measure=>omega
   case rel=>
    refine⟨k+1,by omega,rfl,by go_num,?_,hbel.setCell (p:=⟨w.heap.size,y,none⟩) (aA _) _⟩;rw[<-HT.out];exact harr.set y _
  ·have t1:decide ((k:Int)<(l.length:Int))=false:=decide_eq_false (by omega);have hke:k=l.length:=by omega
   subst hke;rw[List.take_length] at harr;have hst:=aPc 21 harr (by simp[tab]) (fun n=>(bU l n:Int));go_upto_region 6 with fail;go_wp2_with (refine wpList_load_row rfl 173 (.tmp 2) rfl w.heap.size rfl _ _ (0,0) (.array 21 3) harr MI rfl (ZI _) ?_);have harr2:Arr (wr.setRow w.heap.size (tab 21 (fun n=>(bU l n:Int))).toArray) w.heap.size 173 (tab 21 (fun n=>(bU l n:Int))):=setRow_heap wr w.heap.size _ _ 173 (0,0) harr;refine bodyPost_ret (results_cell_row rfl _ _ w.heap.size _ _ (0,0) (.array 21 3) rfl harr2 MI rfl (ZI _)) rfl ?_
   exact⟨rfl,zB hbel _ (aA _) _⟩
def MJ (l:List Int):Nat->Int
 |0=>1
 |n+1=>pN l n
theorem aPf (l:List Int) (k:Nat):pN l k=(if k=0 then MJ l k else 2*MJ l k)-(bU l k:Int):=by
 cases k with
 |zero=>rfl
 |succ k=>rfl
theorem zS (v:Value) (l:List Int) (w:World) (hr:RdI w v l):
  Calls Tryz.prog 57 #[v] w fun e w'=>e=.returned (.int .i64 (bL l))/\Below w.heap.size w w':=by
 have hr0:=hr;obtain⟨a,ca,rfl,hca,hma,hA⟩:=hr.open;unfold maxLen at hma;clear hr hA
 by_cases h2:2<=l.length/\l.length<=258
 rotate_left
 ·have HC:=hid (ST h2)
  by_cases h3:l.length<2
  ·have t1:decide ((l.length:Int)<2)=true:=decide_eq_true (by omega);go_enter Tryz.func57,Tryz.ntmps57;go_wp2_with fail;go_ret;exact⟨by rw[HC.out];rfl,aB _ _⟩
  ·have t1:decide ((l.length:Int)<2)=false:=decide_eq_false (by omega);have t2:decide ((l.length:Int)>258)=true:=decide_eq_true (by omega);have t3:decide ((258:Int)<(l.length:Int))=true:=decide_eq_true (by omega);go_enter Tryz.func57,Tryz.ntmps57;go_wp2_with fail;go_ret;exact⟨by rw[HC.out];rfl,aB _ _⟩
 ·have t1:decide ((l.length:Int)<2)=false:=decide_eq_false (by omega);have t2:decide ((l.length:Int)>258)=false:=decide_eq_false (by omega);have t3:decide ((258:Int)<(l.length:Int))=false:=decide_eq_false (by omega);have hmin:=aPa _ l w hr0 (by omega);have hmax:=ZH _ l w hr0 (by omega);have hcnt:=aPe _ l w hr0;clear hr0;go_enter Tryz.func57,Tryz.ntmps57;go_wp2_with fail;refine hmin.mono ?_;rintro e w1 ⟨m,rfl,hm1,hm2,rfl⟩
  by_cases hm:m<1
  ·have u1:decide (m<1)=true:=decide_eq_true hm;obtain⟨k,hk⟩:=List.getElem?_of_mem hm1;have HC:=hid (DG hk (by omega));clear hk hm2 hcnt hmax hmin;go_wp2_with fail;go_ret;exact⟨by rw[HC.out];rfl,aB _ _⟩
  ·have u1:decide (m<1)=false:=decide_eq_false hm;have HM:=hid hm2;clear hm2 hmin hm1;go_wp2_with fail;refine hmax.mono ?_;rintro e w2 ⟨x,rfl,hx1,hx2,rfl⟩
   by_cases hx:20<x
   ·have u2:decide (x>20)=true:=decide_eq_true hx;have u3:decide (20<x)=true:=decide_eq_true hx;obtain⟨k,hk⟩:=List.getElem?_of_mem hx1;have HC:=hid (DG hk (by omega));clear hk hx2 hcnt hmax;go_wp2_with fail;go_ret;exact⟨by rw[HC.out];rfl,aB _ _⟩
   ·have u2:decide (x>20)=false:=decide_eq_false hx;have u3:decide (20<x)=false:=decide_eq_false hx;have hall:∀y∈l,1<=y/\y<=20:=fun y hy=>by
     have:=HM.out y hy;have:=hx2 y hy;omega
    have HALL:=hid hall;have HC:=hid (SU ⟨h2.1,h2.2,hall⟩);have hcnt:=hcnt hall h2.2;have HOV:=hid (fun n (hn:n<=20)=>aDn hall hn);have HFI:=hid (aDo hall);have HBD:=hid (fun n=>aDp (l:=l) (n:=n) (fun y hy=>(hall y hy).1));clear hall hx2 HM hmax;go_wp2_with fail;refine hcnt.mono ?_;rintro e w3 ⟨rfl,hb3⟩;go_wp2_with fail
    go_loopg [3,4,5,26] 21 (fun g s3 _s4 _s5 s26 wr=>∃(k:Nat) (X:Int),k<=21/\g=21-k/\s26=.int .i64 (k:Int)/\s3=.int .i64 X/\Hid (X=MJ l k)/\Hid (∀n,n<k->0<=pN l n)/\wr=w3)
    case atStart=>exact⟨0,1,by omega,rfl,rfl,rfl,hid rfl,hid (fun n hn=>by omega),rfl⟩
    case round=>
     obtain⟨k,X,hk,hg,rfl,rfl,HX,HN,rfl⟩:=hrel;have HG:=hid hg;clear hg
     by_cases hlt:k<21
     ·have v1:decide ((k:Int)<21)=true:=decide_eq_true (by omega);have ix:=aPd (fun n=>(bU l n:Int)) k hlt wr;have hcb:bU l k<=258:=by unfold bU;exact aW xR h2.2
      have hB:0<=X/\X<=1048576:=by
       rw[HX.out]
       cases k with
       |zero=>exact⟨show(0:Int)<=1 by decide,show(1:Int)<=1048576 by decide⟩
       |succ k=>
        refine⟨HN.out k (by omega),Int.le_trans (HBD.out k) ?_⟩;have:(2:Nat)^k<=2^20:=jC (by decide) (by omega);have e:(2:Nat)^20=1048576:=by decide
        have:(((2:Nat)^k:Nat):Int)<=1048576:=by omega
        simpa using this
      have hY:=aPf l k;rw[<-HX.out] at hY;have hov:=HOV.out k (by omega);obtain⟨Y,hYe⟩:∃Y,Y=pN l k:=⟨_,rfl⟩;obtain⟨C,hCe⟩:∃C,C=bU l k:=⟨_,rfl⟩;rw[<-hYe] at hY hov;simp only[<-hCe] at ix;rw[<-hCe] at hY hcb;have HY:=hid hYe;clear hYe hCe
      by_cases hk0:k=0
      ·subst hk0;rw[if_pos rfl] at hY;rw[show((0:Nat):Int)=0 from rfl] at ix;have v2:decide ((0:Int)>0)=false:=by decide
       have v3:decide (((0:Nat):Int)>0)=false:=by decide
       have m4:X-(C:Int)=Y:=by omega
       have m5:aI.wrap Y=Y:=by rw[aM];omega
       by_cases hY0:Y<0
       ·have w1:decide (Y<0)=true:=decide_eq_true hY0;have HC2:=hid (show bL l=6 by rw[HC.out,if_pos (hov hY0)]);clear hov hY hB hcb;go_wp2_with fail;go_ret;exact⟨by rw[HC2.out];rfl,hb3⟩
       ·have w1:decide (Y<0)=false:=decide_eq_false hY0;clear hov hY hB hcb;go_wp2_with fail;have hg:=HG.out
        go_roundg (21-(0+1))
        case measure=>omega
        case rel=>exact⟨0+1,Y,by omega,rfl,by go_num,rfl,HY,hid (fun n hn=>by
         rcases bT n 0 with h|h
         ·exact HN.out n h
         ·rw[show n=0 by omega,<-HY.out];omega),rfl⟩
      ·rw[if_neg hk0] at hY;have v2:decide ((k:Int)>0)=true:=decide_eq_true (by omega);have v3:decide (0<k)=true:=decide_eq_true (by omega);have v4:0<k:=by omega
       obtain⟨D,hD⟩:∃D,D=2*X:=⟨_,rfl⟩;have m1:aI.wrap (X*2)=D:=by rw[aM];omega
       have m2:X*2=D:=by omega
       have m3:aI.wrap D=D:=by rw[aM];omega
       rw[<-hD] at hY;have m4:D-(C:Int)=Y:=by omega
       have m5:aI.wrap Y=Y:=by rw[aM];omega
       by_cases hY0:Y<0
       ·have w1:decide (Y<0)=true:=decide_eq_true hY0;have HC2:=hid (show bL l=6 by rw[HC.out,if_pos (hov hY0)]);clear hov hY hB hcb hD;go_wp2_with fail;go_ret;exact⟨by rw[HC2.out];rfl,hb3⟩
       ·have w1:decide (Y<0)=false:=decide_eq_false hY0;clear hov hY hB hcb hD;go_wp2_with fail;have hg:=HG.out
        go_roundg (21-(k+1))
        case measure=>omega
        case rel=>exact⟨k+1,Y,by omega,rfl,by go_num,rfl,HY,hid (fun n hn=>by
         rcases bT n k with h|h
         ·exact HN.out n h
         ·rw[show n=k by omega,<-HY.out];omega),rfl⟩
     ·have v1:decide ((k:Int)<21)=false:=decide_eq_false (by omega);have HC2:=hid (show bL l=0 by rw[HC.out,if_neg (by have:=HFI.out (fun n hn=>HN.out n (by omega));omega)]);go_wp2_with fail;go_ret;exact⟨by rw[HC2.out];rfl,hb3⟩
theorem ZL (n:Nat) (w:World) (h1:2<=n) (h2:n<=258):Calls Tryz.prog 75 #[.int .i64 (n:Int)] w fun e w'=>e=.returned (.bool true)/\w'=w:=by
 have t1:decide ((n:Int)>=2)=true:=decide_eq_true (by omega);have t2:decide ((2:Int)<=(n:Int))=true:=decide_eq_true (by omega);have t3:decide ((n:Int)<=258)=true:=decide_eq_true (by omega);go_enter Tryz.func75,Tryz.ntmps75;go_wp2;go_ret;exact⟨rfl,rfl⟩
theorem ZM (x:Int) (w:World):Calls Tryz.prog 95 #[.int .i64 x] w fun e w'=>e=.returned (.bool (decide (1<=x)&&decide (x<=20)))/\w'=w:=by
 by_cases h1:1<=x
 ·have t1:decide (x>=1)=true:=decide_eq_true h1;have t2:decide (1<=x)=true:=decide_eq_true h1
  by_cases h2:x<=20
  ·have t3:decide (x<=20)=true:=decide_eq_true h2;go_enter Tryz.func95,Tryz.ntmps95;go_wp2;go_ret;exact⟨by first|rfl|(simp[h1,h2]),rfl⟩
  ·have t3:decide (x<=20)=false:=decide_eq_false h2;go_enter Tryz.func95,Tryz.ntmps95;go_wp2;go_ret;exact⟨by first|rfl|(simp[h1,h2]),rfl⟩
 ·have t1:decide (x>=1)=false:=decide_eq_false h1;have t2:decide (1<=x)=false:=decide_eq_false h1;go_enter Tryz.func95,Tryz.ntmps95;go_wp2;go_ret;exact⟨by first|rfl|(simp[h1]),rfl⟩
def qR (w:World) (b:Nat) (D:List Bool):Prop:=Arr w b 999983 [.string (mkS (aD D)),.int .i64 (D.length:Int)]
theorem qR.set {w:World} {b:Nat} {D:List Bool} (h:qR w b D) (E:List Bool):qR ((w.setCell ⟨b,0,none⟩ (.string (mkS (aD E)))).setCell ⟨b,1,none⟩ (.int .i64 (E.length:Int))) b E:=(Arr.set h 0 _).set 1 _
def ER (E:Int):List PanicEntry:=[{v:=.iface 168 (.agg #[.int .i64 E]),recovered:=false}]
def DRd (w:World) (b:Nat) (s:ByteArray) (a:Nat):Prop:=Arr w b 171 [.string s,.int .i64 (a:Int)]
theorem MK (b:Nat) (s:ByteArray) (a k:Nat) (W:World) (hA:DRd W b s a) (hs:s.size<=1000000) (hk:k<=40) (ha:a<=100000000):
  Calls Tryz.prog 78 #[.pointer (some ⟨b,0,none⟩),.int .i64 (k:Int)] W fun e w'=>
   (aO s.size (a:Int) k=0/\e=.returned (.int .i64 (aE s.data.toList (a:Int) k:Int))/\DRd w' b s (a+k)/\W.grownBy w' (some b))\/(aO s.size (a:Int) k≠0/\e=.panicked (ER (aO s.size (a:Int) k))/\W.grownBy w' (some b)):=by
 have hget:=fun W=>sT s (a:Int) k W hs (by omega) (by omega) (by omega)
 have hVb:=iA s.data.toList (a:Int) k;have hVb2:aE s.data.toList (a:Int) k<1099511627776:=dR hVb (aW (jC (by decide) hk) (by decide));obtain⟨E,hE⟩:∃E,E=aO s.size (a:Int) k:=⟨_,rfl⟩;obtain⟨V,hV⟩:∃V,V=aE s.data.toList (a:Int) k:=⟨_,rfl⟩;rw[<-hE,<-hV];rw[<-hE,<-hV] at hget;rw[<-hV] at hVb2;have HE:=hid hE;clear hE hV hVb;have c0:=Arr.cell hA (i:=0) rfl;have c1:=Arr.cell hA (i:=1) rfl;have f1:=Arr.free hA 1;have m1:aI.wrap (V:Int)=(V:Int):=by rw[aM];omega
 have m2:aI.wrap ((a:Int)+(k:Int))=(a:Int)+(k:Int):=by rw[aM];omega
 go_enter Tryz.func78,Tryz.ntmps78
 by_cases h0:E=0
 ·subst h0;go_wp2_with fail
  go_quiet (first|(go_at_call 33;exact OM (hget _)))
  generalize hWn:W.drewN nq=W1 at*
  have hA1:DRd W1 b s a:=by rw[<-hWn];exact hA
  have hg1:W.grownBy W1 (some b):=by rw[<-hWn];exact⟨rfl,rfl,rfl,aA _,fun _ _ _=>rfl⟩
  have d1:=Arr.cell hA1 (i:=1) rfl;have g1:=Arr.free hA1 1;clear hWn;go_wp2_with fail;go_ret;exact⟨rfl,by have:=Arr.set hA1 1 (.int .i64 ((a:Int)+(k:Int)));unfold DRd;push_cast;exact this,gbT hg1 (gbS _ _ _ _)⟩
 ·have u1:(E != 0)=true:=by simpa using h0
  go_wp2_with fail
  go_quiet (first|(go_at_call 33;exact OM (hget _)))
  generalize hWn:W.drewN nq=W1 at*
  have hg1:W.grownBy W1 (some b):=by rw[<-hWn];exact⟨rfl,rfl,rfl,aA _,fun _ _ _=>rfl⟩
  clear hWn;go_wp2_with fail;exact⟨rfl,.inr ⟨h0,rfl,hg1⟩⟩
theorem ML (b:Nat) (n:Int) (W:World):Calls Tryz.prog 77 #[.pointer (some ⟨b,0,none⟩),.int .i64 n] W fun e w'=>
  ((1<=n/\n<=20)/\e=.returned (.int .i64 n)/\w'=W)\/(¬(1<=n/\n<=20)/\e=.panicked (ER 3)/\w'=W):=by
 have hmay:=ZM n
 by_cases h:1<=n/\n<=20
 ·have e1:(decide (1<=n)&&decide (n<=20))=true:=by simp[h.1,h.2]
  rw[e1] at hmay;have HH:=hid h;clear h e1;go_enter Tryz.func77,Tryz.ntmps77;go_wp2_with fail;refine(hmay _).mono ?_;rintro e w' ⟨rfl,rfl⟩;go_wp2_with fail;go_ret;exact .inl ⟨HH.out,rfl,rfl⟩
 ·have e1:(decide (1<=n)&&decide (n<=20))=false:=by
   rw[Bool.and_eq_false_iff];rcases Classical.em (1<=n) with q|q
   ·exact .inr (decide_eq_false (fun k=>h ⟨q,k⟩))
   ·exact .inl (decide_eq_false q)
  rw[e1] at hmay;have HH:=hid h;clear h e1;go_enter Tryz.func77,Tryz.ntmps77;go_wp2_with fail;refine(hmay _).mono ?_;rintro e w' ⟨rfl,rfl⟩;go_wp2_with fail;exact⟨rfl,.inr ⟨HH.out,rfl,rfl⟩⟩
theorem aPl (b:Nat) (s:ByteArray) (a:Nat) (n:Int) (W:World) (hA:DRd W b s a) (hs:s.size<=1000000) (ha:a<=90000010) (hn1:1<=n) (hn2:n<=20):
  Calls Tryz.prog 79 #[.pointer (some ⟨b,0,none⟩),.int .i64 n] W fun e w'=>
   ((eD s.data.toList (a:Int) n).2.2=0/\e=.returned (.int .i64 (eD s.data.toList (a:Int) n).1)/\(∃p:Nat,(eD s.data.toList (a:Int) n).2.1=(p:Int)/\DRd w' b s p)/\W.grownBy w' (some b))\/((eD s.data.toList (a:Int) n).2.2≠0/\e=.panicked (ER (eD s.data.toList (a:Int) n).2.2)/\W.grownBy w' (some b)):=by
 have HL:=hid (show s.data.toList.length=s.size by simp);obtain⟨R,hR⟩:∃R,R=eD s.data.toList (a:Int) n:=⟨_,rfl⟩;rw[<-hR];have HR:=hid hR.symm;clear hR;have hcf:∀(args:Array Value) (w:World),(callFunc 78 args).run Tryz.prog w=.ok (.enter 78 args) w:=enters_of Tryz.func78 (by kernel_rfl) rfl;go_enter Tryz.func79,Tryz.ntmps79;go_wp2_with fail
 go_loopg [1] (8*s.size+2-a) (fun g s1 wr=>∃(p:Nat) (m:Int),p<=90000012/\1<=m/\m<=20/\g=8*s.size+2-p/\s1=.int .i64 m/\Hid (eD s.data.toList (p:Int) m=R)/\DRd wr b s p/\W.grownBy wr (some b))
 case atStart=>exact⟨a,n,by omega,hn1,hn2,rfl,rfl,HR,hA,⟨rfl,rfl,rfl,aA _,fun _ _ _=>rfl⟩⟩
 case round=>
  obtain⟨p,m,hp,hm1,hm2,hg,rfl,HP,hAr,hgr⟩:=hrel;have HG:=hid hg;clear hg;have hst:=wF s.data.toList (p:Int) m (by omega);rw[HP.out,HL.out] at hst;have hn1':=MK b s p 1 wr hAr hs (by decide) (by omega);have hok1:=fQ (n:=s.size) (at':=(p:Int)) (k:=1);have hok2:=fQ (n:=s.size) (at':=((p:Int)+1)) (k:=1);have hv1:=iA s.data.toList (p:Int) 1;have hv2:=iA s.data.toList ((p:Int)+1) 1;have hnum2:=fun W1 (h:DRd W1 b s (p+1))=>MK b s (p+1) 1 W1 h hs (by decide) (by omega)
  push_cast at hnum2;obtain⟨E1,hE1⟩:∃E1,E1=aO s.size (p:Int) 1:=⟨_,rfl⟩;obtain⟨V1,hV1⟩:∃V1,V1=aE s.data.toList (p:Int) 1:=⟨_,rfl⟩;obtain⟨E2,hE2⟩:∃E2,E2=aO s.size ((p:Int)+1) 1:=⟨_,rfl⟩;obtain⟨V2,hV2⟩:∃V2,V2=aE s.data.toList ((p:Int)+1) 1:=⟨_,rfl⟩;rw[<-hE1,<-hV1,<-hE2,<-hV2] at hst;rw[<-hE1,<-hV1] at hn1';rw[<-hE1] at hok1;rw[<-hE2] at hok2;rw[<-hV1] at hv1;rw[<-hV2] at hv2;simp only[<-hE2,<-hV2] at hnum2;have hv1:V1<2:=hv1;have hv2:V2<2:=hv2;have HN2:=hid hnum2;clear hE1 hV1 hE2 hV2 hnum2;go_wp2_with fail;refine hn1'.mono ?_;rintro e w1 (⟨h1,rfl,hA1,hg1⟩|⟨h1,rfl,hg1⟩)
  ·subst h1;rw[if_neg (fun k=>k rfl)] at hst;have hok1:=hok1 rfl
   by_cases h2:V1=0
   ·subst h2;rw[if_pos rfl] at hst;have HS:=hid hst;clear hst;go_wp2_with fail;go_ret;exact .inl ⟨by rw[HS.out],by rw[HS.out];rfl,⟨p+1,by rw[HS.out];push_cast;rfl,hA1⟩,gbT hgr hg1⟩
   ·obtain rfl:V1=1:=by omega
    rw[if_neg h2] at hst;clear h2;have hm6:aI.wrap (m+1)=m+1:=by rw[aM];omega
    go_wp2_with fail;refine(HN2.out w1 hA1).mono ?_;rintro e w2 (⟨h3,rfl,hA2,hg2⟩|⟨h3,rfl,hg2⟩)
    ·subst h3;rw[if_neg (fun k=>k rfl)] at hst;have hok2:=hok2 rfl;have hgW:=gbT (gbT hgr hg1) hg2
     by_cases h4:V2=0
     ·subst h4;rw[if_pos rfl] at hst;have HST:=hid hst;have hfit:=ML b (m+1);clear hst hn1';go_wp2_with fail;refine(hfit _).mono ?_;rintro e w3 (⟨h5,rfl,rfl⟩|⟨h5,rfl,rfl⟩)
      ·have HS:=hid (show eD s.data.toList ((p:Int)+2) (m+1)=R by rw[HST.out,if_neg (by omega)]);go_wp2_with fail;have hg:=HG.out
       go_roundg (8*s.size+2-(p+2))
       case measure=>omega
       case rel=>exact⟨p+2,m+1,by omega,by omega,by omega,rfl,rfl,by have:=HS;push_cast;exact this,hA2,hgW⟩
      ·have HS:=hid (show R=(0,0,3) by rw[HST.out,if_pos (by omega)]);exact⟨rfl,.inr ⟨by rw[HS.out];exact(by decide:(3:Int)≠0),by rw[HS.out],hgW⟩⟩
     ·obtain rfl:V2=1:=by omega
      rw[if_neg h4] at hst;have HST:=hid hst;have hfit:=ML b (m-1);have hm7:aI.wrap (m+1-2)=m-1:=by rw[aM];omega
      have hm8:m+1-2=m-1:=by omega
      have hm9:aI.wrap (m-1)=m-1:=by rw[aM];omega
      clear hst hn1' h4;go_wp2_with fail;refine(hfit _).mono ?_;rintro e w3 (⟨h5,rfl,rfl⟩|⟨h5,rfl,rfl⟩)
      ·have HS:=hid (show eD s.data.toList ((p:Int)+2) (m-1)=R by rw[HST.out,if_neg (by omega)]);go_wp2_with fail;have hg:=HG.out
       go_roundg (8*s.size+2-(p+2))
       case measure=>omega
       case rel=>exact⟨p+2,m-1,by omega,by omega,by omega,rfl,rfl,by have:=HS;push_cast;exact this,hA2,hgW⟩
      ·have HS:=hid (show R=(0,0,3) by rw[HST.out,if_pos (by omega)]);exact⟨rfl,.inr ⟨by rw[HS.out];exact(by decide:(3:Int)≠0),by rw[HS.out],hgW⟩⟩
    ·rw[if_pos h3] at hst;have HS:=hid hst;exact⟨rfl,.inr ⟨by rw[HS.out];exact h3,by rw[HS.out],gbT (gbT hgr hg1) hg2⟩⟩
  ·rw[if_pos h1] at hst;have HS:=hid hst;exact⟨rfl,.inr ⟨by rw[HS.out];exact h1,by rw[HS.out],gbT hgr hg1⟩⟩
end
end Go.Proofs.YtjkjeamepgjicaaGreatDoor
