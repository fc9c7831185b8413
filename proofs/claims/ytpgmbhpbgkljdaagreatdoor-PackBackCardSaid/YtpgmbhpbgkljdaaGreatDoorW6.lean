/-
  Texts put together (W6): walks and plain laws on which the statement stands.
-/
import Derived.Test.YtpgmbhpbgkljdaaGreatDoorW5
import Derived.Test.YtpgmbhpbgkljdaaGreatDoorW4
import Derived.Test.YtpgmbhpbgkljdaaGreatDoorW1
import Derived.Test.YtpgmbhpbgkljdaaGreatDoorW3
import Derived.Test.YtpgmbhpbgkljdaaGreatDoorZ6
set_option maxRecDepth 100000
set_option maxHeartbeats 12800000
set_option linter.unusedVariables false
set_option linter.unusedSimpArgs false
namespace Go.Proofs.YtpgmbhpbgkljdaaGreatDoor
section
open Go.RowKit Go Go.Shelf
attribute [local go_sem] Oper.semAt_some
def txC (x:List UInt8):List Value:=[.string (mkS x)]
theorem txC_wide (l:List (List UInt8)):Wide 1 (l.map txC):=fun q hq=>by
 obtain⟨p,_,rfl⟩:=List.mem_map.1 hq;exact⟨rfl,fun u hu=>by obtain rfl:=List.mem_singleton.1 hu;rfl⟩
theorem elTx:ElR Tryz.prog 24 9 1 16 (.string ⟨#[]⟩):=ElR.mk' (by kernel_rfl) Tryz.underlying24 rfl (by decide) (by decide)
theorem txC_flat (l:List (List UInt8)):(l.map txC).flatten=strV (l.map mkS):=by
 induction l with
 |nil=>rfl
 |cons x l ih=>
  rw[List.map_cons,List.flatten_cons,ih];rfl
theorem RdT.of_tx {w:World} {v:Value} {l:List (List UInt8)} (h:RdR w v (l.map txC)):RdT w v (l.map mkS):=by
 unfold RdR at h;rw[txC_flat,List.length_map] at h;unfold RdT;rw[List.length_map];exact h
theorem appseq_in (n:Nat) (hn:6<=n) (Bs lv:Nat) (s:ByteArray) (w:World) (hs:s.size<=1000000) (hl1:1<=lv) (hl9:lv<=9) (hA:Arr w Bs 9 [.string s]) (hB:Arr w (Bs+1) 3 [.int .i64 (lv:Int)]):
  CallsIn Fence.wide n Tryz.prog 87 #[.slice none 0 0,.func (.func 88) #[] #[.pointer (some ⟨Bs,0,none⟩),.pointer (some ⟨Bs+1,0,none⟩)]] w fun e w'=>∃v,e=.returned v/\RdT w' v ((picL (40*lv) s.data.toList).map mkS)/\Below Bs w w':=by
 have h1:1<=n:=by omega
 have hcnt:=picL_count (room:=40*lv) (by omega) s.data.toList;have hLs:s.data.toList.length=s.size:=by simp
 rw[hLs] at hcnt;have hB1:=hB.lt;obtain⟨T,hT⟩:∃T,T=picL (40*lv) s.data.toList:=⟨_,rfl⟩;have HT:=hid hT;rw[<-hT] at hcnt ⊢;clear hT hLs;refine callsIn_of_wp_marks Tryz.func87 rfl trivial ?_ rfl;simp only[Tryz.ntmps87,List.size_toArray,List.length_cons,List.length_nil,Nat.reduceAdd,Nat.reduceSub,Array.replicate_succ,Array.replicate_zero,List.push_toArray,List.append_toArray,List.nil_append,List.cons_append]
 gi_wp2_with fail
 have hA2:=Arr.new w 24 [.slice none 0 0];have hA':=hA.alloc (.cells #[.slice none 0 0] 24);have hB':=hB.alloc (.cells #[.slice none 0 0] 24);have hb1:Below Bs w (w.alloc (.cells #[.slice none 0 0] 24)):=(Below.refl _ w).alloc (by omega) _;have hs1:(w.alloc (.cells #[.slice none 0 0] 24)).heap.size=w.heap.size+1:=by simp
 change Arr (w.alloc (.cells #[.slice none 0 0] 24)) _ _ _ at hA2;generalize w.alloc (.cells #[.slice none 0 0] 24)=w1 at*
 obtain⟨y,hy⟩:∃y,y=w.heap.size:=⟨_,rfl⟩;rw[<-hy] at hA2 hs1 hB1 ⊢;clear hy hA hB;have hyw:y+1<=w1.heap.size:=by omega
 have hseq:=cuts_seqb (n-1) (by omega) Bs lv s hs hl1 hl9 w1 hA' hB';rw[<-HT.out] at hseq;refine wpIn_range_tyb (w0:=w1) (Ri:=dP none) (Kp:=KpX Bs) (Ok:=fun _=>True) (Pre:=fun pre x=>∃r,T=pre++x::r) (encs:=zX) h1 (gf:=88) (lb:=#[.pointer (some ⟨Bs,0,none⟩),.pointer (some ⟨Bs+1,0,none⟩)]) rfl (enters_of Tryz.func88 (by kernel_rfl) rfl)
  Bs (by omega) hseq (Below.refl _ _) (fun _=>rfl) (fun h k=>h.trans k) (fun _ _ h=>.of_kept h) (fun _ _ h=>h)
  (fun pre W=>(∃v,Arr W y 24 [v]/\OwR W (y+1) 9 1 v (pre.map txC))/\Below Bs w W/\y+1<=W.heap.size)
  (fun _ _ _=>False)
  (fun pre A B ⟨⟨v,k2,k3⟩,k5,k6⟩ hAB hk=>⟨⟨v,k2.below hAB (by omega),TyKept.own (T:=[9]) (.of_kept hk) k3 (by decide)⟩,k5.trans (hAB.mono (by omega)),Nat.le_trans k6 hAB.size⟩)
  (fun c pre A B k _ _=>k.elim)
  ⟨⟨_,hA2,OwR.nil _ _ _ _⟩,hb1,hyw⟩ (fun _ _ _=>trivial)
  (fun pre A u ⟨⟨v,k2,k3⟩,k5,k6⟩=>⟨⟨v,k2.other ⟨Bs,0,none⟩ (by show Bs≠y;omega) u,ownsRow_setCell_below k3 (a:=⟨Bs,0,none⟩) (by show Bs<y+1;omega) u⟩,k5.setCell (p:=⟨Bs,0,none⟩) (Nat.le_refl _) u,by simpa using k6⟩)
  (fun x a' _=>a'={tmps:=#[.slice none 0 0,.func (.func 88) #[] #[.pointer (some ⟨Bs,0,none⟩),.pointer (some ⟨Bs+1,0,none⟩)],.pointer (some ⟨y,0,none⟩),undef,.slice none 0 0,.string (mkS x),.func (.func 88) #[] #[.pointer (some ⟨Bs,0,none⟩),.pointer (some ⟨Bs+1,0,none⟩)],.string (mkS x),undef,undef,undef,undef,undef],defers:=[]})
  (fun _ _ _ _ k _=>k) ?assign ?body ?done ?stop
 case assign=>
  rintro l0 pre x W K hI hB hpre hK;unfold zX
  gi_wp2
  exact hK _ _ (Below.refl _ _) rfl
 case body=>
  rintro l0 pre x a' W ⟨⟨v,k2,k3⟩,k5,k6⟩ hB ⟨r,hr⟩ rfl;have hlen:pre.length+1<=40000:=by
   have h:=congrArg List.length hr;rw[List.length_append,List.length_cons] at h;omega
  obtain⟨va,vc,hv,-⟩:=(OwR.rd k3).open (txC_wide pre) (by decide:1<=1);obtain⟨vn,hvn⟩:∃vn,vn=(pre.map txC).length:=⟨_,rfl⟩;rw[<-hvn] at hv;subst hv;have c0:=k2.cell (i:=0) rfl;clear hvn hr
  gi_wp2_with (gi_at_builtin;refine appR1_in elTx rfl _ _ rfl (y+1) _ _ rfl (OwR.alloc k3 _) _ (txC x) rfl (Arr.new W 9 (txC x)) rfl (fun u hu=>(txC_wide [x] _ (by simp)).2 u hu) ?_ ?_ ?_;(simp only[List.length_map];omega);(simp;omega);intro v3 W3 p1 p2 p3;(obtain⟨a3,c3,hv3,-⟩:=(OwR.rd p1).open (by intro q hq;rcases List.mem_append.1 hq with hq|hq;(exact txC_wide pre _ hq);(exact txC_wide [x] _ (by simpa using hq))) (by decide:1<=1));(obtain⟨n3,hn3⟩:∃n3,n3=(pre.map txC++[txC x]).length:=⟨_,rfl⟩);rw[<-hn3] at hv3;subst hv3;(have HN3:=hid hn3);clear hn3;(have k23:=Arr.below (Arr.alloc k2 (.cells (txC x).toArray 9)) p2 (by omega));(have g0:=k23.cell (i:=0) rfl);(have e0:=k23.free 0))
  change (W.alloc (.cells (txC x).toArray 9)).grownBy W3 (Value.slice va vn vc).ownBlock at p3;change Below (y+1) (W.alloc (.cells (txC x).toArray 9)) W3 at p2;have hsA:(W.alloc (.cells (txC x).toArray 9)).heap.size=W.heap.size+1:=by simp
  have hs3:=p2.size;have hbW:Below (y+1) W W3:=((Below.refl _ W).alloc (by omega) _).trans p2;refine⟨keepsRest (by simp;omega) (fun k o ho hc=>rest_set k23 _ k o (rest_app (OwR.alloc k3 (.cells (txC x).toArray 9)) p3 k o ((Below.heap_alloc W _ k (Array.getElem?_eq_some_iff.1 ho).1).trans ho) hc) hc),⟨by simp;omega,fun k c e fz hk hc=>?_⟩,⟨_,k23.set 0 _,?_⟩,(k5.trans (hbW.mono (by omega))).setCell (p:=⟨y,0,none⟩) (by show Bs<=y;omega) _,by simp;omega⟩
  ·rw[heap_setCell_other W3 ⟨y,0,none⟩ k _ (fun q=>by have q:k=y:=q;omega)];exact(hbW.block k (by omega)).trans hc
  ·rw[List.map_append];exact ownsRow_setCell_below p1 (a:=⟨y,0,none⟩) (by show y<y+1;omega) _
 case done=>
  rintro D xs W hD hfin ⟨⟨v,k2,k3⟩,k5,k6⟩ hK;obtain⟨va,vc,hv,-⟩:=(OwR.rd k3).open (txC_wide xs) (by decide:1<=1);obtain⟨vn,hvn⟩:∃vn,vn=(xs.map txC).length:=⟨_,rfl⟩;rw[<-hvn] at hv;subst hv;have c0:=k2.cell (i:=0) rfl;have HF:=hid hfin;clear hvn hfin
  gi_wp2_with fail
  refine⟨by simp,.inl ⟨_,_,rfl,run_takeDeferred hK,?_⟩⟩;refine⟨.slice va vn vc,?_,.slice va vn vc,rfl,?_,?_⟩
  ·simp[results,Tryz.f87,go_sem]
  ·rw[<-HF.out];exact RdT.of_tx (OwR.rd (World.ownsRow.kept k3 (grownBy_putObj' _ D (.deferred none)) (own_not_deferred k3 hK)))
  ·exact k5.trans ((belowK_b (w:=w1) (Nat.le_refl _) _ D _ _ hD hK rfl rfl).mono (by omega))
 case stop=>
  rintro D c pre W hD k hK;exact k.elim
theorem collect_in (n:Nat) (hn:7<=n) (Bs lv:Nat) (s:ByteArray) (w:World) (hs:s.size<=1000000) (hl1:1<=lv) (hl9:lv<=9) (hA:Arr w Bs 9 [.string s]) (hB:Arr w (Bs+1) 3 [.int .i64 (lv:Int)]):
  CallsIn Fence.wide n Tryz.prog 55 #[.func (.func 88) #[] #[.pointer (some ⟨Bs,0,none⟩),.pointer (some ⟨Bs+1,0,none⟩)]] w fun e w'=>∃v,e=.returned v/\RdT w' v ((picL (40*lv) s.data.toList).map mkS)/\Below Bs w w':=by
 refine callsIn_of_wp Tryz.func55 rfl trivial ?_ rfl;simp only[Tryz.ntmps55,List.size_toArray,List.length_cons,List.length_nil,Nat.reduceAdd,Nat.reduceSub,Array.replicate_succ,Array.replicate_zero,List.push_toArray,List.append_toArray,List.nil_append,List.cons_append]
 gi_wp2_with fail
 refine⟨trivial,fun _=>by omega,(appseq_in (n-1) (by omega) Bs lv s w hs hl1 hl9 hA hB).mono ?_⟩;rintro e w1 ⟨v,rfl,h1,h2⟩
 gi_wp2_with fail
 go_ret;exact⟨_,rfl,h1,h2⟩
end
section
open Go.RowKit Go Go.Shelf
abbrev okA (l:List (Nat×List ByteArray)):Prop:=∀p∈l,1<=p.1/\p.1<=9/\∀t∈p.2,okT (40*(p.1:Int)) t
noncomputable def arcS (l:List (Nat×List ByteArray)):ByteArray:=mkS (aD (arcW l))
def allT (l:List (Nat×List ByteArray)):List ByteArray:=(l.map (fun p=>p.2)).flatten
theorem arcS_join (x y:List (Nat×List ByteArray)):arcS x++arcS y=arcS (x++y):=by unfold arcS;rw[pM,arc_join]
theorem allT_append (x y:List (Nat×List ByteArray)):allT (x++y)=allT x++allT y:=by unfold allT;rw[List.map_append,List.flatten_append]
theorem okA_append {x y:List (Nat×List ByteArray)} (h:okA x) (k:okA y):okA (x++y):=fun p hp=>(List.mem_append.1 hp).elim (h p) (k p)
theorem okA_one {n:Nat} {l:List ByteArray} (h1:1<=n) (h9:n<=9) (h:∀t∈l,okT (40*(n:Int)) t):okA [(n,l)]:=fun p hp=>by obtain rfl:=List.mem_singleton.1 hp;exact⟨h1,h9,h⟩
theorem arcS_size:∀{l:List (Nat×List ByteArray)},okA l->(arcS l).size<=3500*(allT l).length+15*l.length
 |[],_=>by unfold arcS;rw[cP];exact Nat.le_refl _
 |p::l,h=>by
  have ih:=arcS_size (l:=l) (fun q hq=>h q (List.mem_cons_of_mem _ hq));obtain⟨h1,h2,h3⟩:=h p (List.mem_cons_self ..);have hb:=bodyW_len (r:=40*(p.1:Int)) (by omega) p.2 h3;have hw:arcW (p::l)=padW (strW p.1 p.2)++arcW l:=rfl;have hp:=padW_length (strW p.1 p.2);have hu:=padN_up (strW p.1 p.2).length;have hlt:=padN_lt (strW p.1 p.2).length;have hs:=strW_length p.1 p.2;have e1:=packL_len8 (p::l);have e2:=packL_len8 l;have ha:(allT (p::l)).length=p.2.length+(allT l).length:=by unfold allT;rw[List.map_cons,List.flatten_cons,List.length_append]
  unfold arcS at ih ⊢;rw[cP] at ih ⊢;rw[hw,List.length_append] at e1;rw[hw];rw[ha,List.length_cons];omega
theorem arcS_res {l:List (Nat×List ByteArray)} (hl:l≠[]) (ho:okA l):resP (arcS l).data.toList=arcP 0 l/\(arcD (arcS l).data.toList).2=0:=by
 have h:=arcD_back hl ho;unfold arcS;rw[fW];unfold resP;rw[h];exact⟨rfl,rfl⟩
theorem resP_bad {s:List UInt8} (h:(arcD s).2≠0):resP s=[]:=by unfold resP;rw[if_neg h]
theorem read_arc {l:List (Nat×List ByteArray)} (hl:l≠[]) (ho:okA l) (hs:(arcS l).size<=120000) (w:World) (hE:iF w):
  Calls Tryz.prog 19 #[.string (arcS l)] w fun e w'=>e=.returned (.tuple #[.string (catT (allT l)),.int .i64 0])/\Below w.heap.size w w':=by
 have h:=read_any (arcS l) w hE hs;obtain⟨h1,h2⟩:=arcS_res hl ho;rw[h1,h2,arcP_t] at h;exact h
theorem read_bad {s:ByteArray} {E:Int} (h:(arcD s.data.toList).2=E) (h0:E≠0) (hs:s.size<=120000) (w:World) (hE:iF w):
  Calls Tryz.prog 19 #[.string s] w fun e w'=>e=.returned (.tuple #[.string ⟨#[]⟩,.int .i64 E])/\Below w.heap.size w w':=by
 have k:=read_any s w hE hs;rw[resP_bad (by rw[h];exact h0),h] at k;exact k
theorem rooms_arc {l:List (Nat×List ByteArray)} (hl:l≠[]) (ho:okA l) (hs:(arcS l).size<=120000) (w:World) (hE:iF w):
  Calls Tryz.prog 22 #[.string (arcS l)] w fun e w'=>∃v,e=.returned (.tuple #[v,.int .i64 0])/\RdI w' v (l.map (fun p=>p.2.map (fun _=>40*(p.1:Int)))).flatten/\Below w.heap.size w w':=by
 have h:=rooms_any (arcS l) w hE hs;obtain⟨h1,h2⟩:=arcS_res hl ho;rw[h1,h2,arcP_r] at h;exact h
theorem blocks_arc {l:List (Nat×List ByteArray)} (hl:l≠[]) (ho:okA l) (hs:(arcS l).size<=120000) (w:World) (hE:iF w):
  Calls Tryz.prog 20 #[.string (arcS l)] w fun e w'=>∃v,e=.returned (.tuple #[v,.int .i64 0])/\RdR w' v ((arcP 0 l).map blkC)/\Below w.heap.size w w':=by
 have h:=blocks_any (arcS l) w hE hs;obtain⟨h1,h2⟩:=arcS_res hl ho;rw[h1,h2] at h;exact h
theorem write_fine (n:Nat) (v:Value) (l:List ByteArray) (w:World) (hr:RdT w v l) (hl:l.length<=5) (hf:fineT l) (h1:1<=n) (h9:n<=9):
  Calls Tryz.prog 17 #[.int .i64 (n:Int),v] w fun e w'=>e=.returned (.tuple #[.string (arcS [(n,l)]),.int .i64 0])/\okA [(n,l)]/\Below w.heap.size w w':=by
 have hen:∀t∈l,eZ t (40*(n:Int))=0:=fun t ht=>by
  obtain⟨f1,f2,f3⟩:=hf t ht;unfold lnL at f2;exact wY f1 (by omega) (by omega) (by omega)
 have hwr:wrE (n:Int) l=0:=by unfold wrE;rw[if_neg (by omega)];exact firstE_of hen
 refine(write_any (n:Int) v l w hr (by omega) (fun t ht=>by have:=(hf t ht).2.2;omega) (by omega) (by omega) (fun k hk ho=>?_)).mono ?_
 ·have:=bodyW_len (r:=40*(n:Int)) (by omega) (l.take k) ho;rw[List.length_take] at this;omega
 ·rintro e w' (⟨-,rfl,ho,hb⟩|⟨h0,-,-⟩)
  ·refine⟨?_,okA_one h1 h9 ho,hb⟩;rw[Int.toNat_natCast];unfold arcS;rw[arc_one]
  ·exact absurd hwr h0
theorem RdT.nil (w:World):RdT w (.slice none 0 0) []:=⟨none,0,rfl,Nat.le_refl _,by simp[maxLen],.inl rfl⟩
theorem write_none (n:Int) (v:Value) (l:List ByteArray) (w:World) (hr:RdT w v l) (hl:l.length<=5) (hs:∀t∈l,t.size<=1000) (E:Int) (hE:wrE n l=E) (h0:E≠0) (hn1:0<=n) (hn2:n<=9):
  Calls Tryz.prog 17 #[.int .i64 n,v] w fun e w'=>e=.returned (.tuple #[.string ⟨#[]⟩,.int .i64 E])/\Below w.heap.size w w':=by
 refine(write_any n v l w hr (by omega) (fun t ht=>by have:=hs t ht;omega) (by omega) (by omega) (fun k hk ho=>?_)).mono ?_
 ·have:=bodyW_len (r:=40*n) (by omega) (l.take k) ho;rw[List.length_take] at this;omega
 ·rintro e w' (⟨h,-,-,-⟩|⟨-,rfl,hb⟩)
  ·rw[hE] at h;exact absurd h h0
  ·exact⟨by rw[hE],hb⟩
theorem arcS_head (n:Nat) (l:List ByteArray):(arcS [(n,l)]).data.toList.take 4=headW n/\14<=(arcS [(n,l)]).size:=by
 unfold arcS;rw[fW,cP,<-arc_one,gY,strW_length];refine⟨?_,by omega⟩;have h:=stands_bytes (s:=aD (strW n l)) (h:=headW n) (k:=0) (by
  have:=zP (strW n l);unfold strW at this ⊢;exact(jN this).1)
 rw[List.drop_zero] at h;exact h
theorem arcS_none (n:Nat):(arcS [(n,[])]).size=14:=by
 unfold arcS;rw[cP,<-arc_one,gY,strW_length];rfl
def bananaS:ByteArray:=⟨#[98,97,110,97,110,97]⟩
def xS:ByteArray:=⟨#[120]⟩
theorem awake_fine:fineT [bananaS,xS]:=fun t ht=>by
 rcases List.mem_cons.1 ht with rfl|ht
 ·exact⟨by decide,by decide,by decide⟩
 ·obtain rfl:=List.mem_singleton.1 ht;exact⟨by decide,by decide,by decide⟩
end
section
open Go.RowKit Go Go.Shelf
attribute [local go_sem] Oper.semAt_some
theorem may_in (n:Nat) (lv:Int) (w:World):CallsIn Fence.wide n Tryz.prog 54 #[.int .i64 lv] w fun e w'=>e=.returned (.bool (decide (1<=lv/\lv<=9)))/\w'=w:=by
 by_cases h1:1<=lv
 ·have t1:decide (lv>=1)=true:=decide_eq_true h1;have t1':decide (1<=lv)=true:=decide_eq_true h1;obtain⟨R,hR⟩:∃R:Bool,R=decide (lv<=9):=⟨_,rfl⟩;have e:decide (1<=lv/\lv<=9)=R:=by rw[hR];exact decide_eq_decide.2 ⟨fun h=>h.2,fun h=>⟨h1,h⟩⟩
  have t2:=hR.symm;rw[e];clear e hR;refine callsIn_of_wp Tryz.func54 rfl trivial ?_ rfl;simp only[Tryz.ntmps54,List.size_toArray,List.length_cons,List.length_nil,Nat.reduceAdd,Nat.reduceSub,Array.replicate_succ,Array.replicate_zero,List.push_toArray,List.append_toArray,List.nil_append,List.cons_append]
  gi_wp2_with fail
  go_ret;exact⟨rfl,rfl⟩
 ·have t1:decide (lv>=1)=false:=decide_eq_false h1;have t1':decide (1<=lv)=false:=decide_eq_false h1;rw[show decide (1<=lv/\lv<=9)=false from decide_eq_false (fun h=>h1 h.1)];refine callsIn_of_wp Tryz.func54 rfl trivial ?_ rfl;simp only[Tryz.ntmps54,List.size_toArray,List.length_cons,List.length_nil,Nat.reduceAdd,Nat.reduceSub,Array.replicate_succ,Array.replicate_zero,List.push_toArray,List.append_toArray,List.nil_append,List.cons_append]
  gi_wp2_with fail
  go_ret;exact⟨rfl,rfl⟩
theorem may_yes {lv:Nat} (h1:1<=lv) (h9:lv<=9) (n:Nat) (w:World):CallsIn Fence.wide n Tryz.prog 54 #[.int .i64 (lv:Int)] w fun e w'=>e=.returned (.bool true)/\w'=w:=by
 have h:=may_in n (lv:Int) w;rw[decide_eq_true (by omega)] at h;exact h
theorem pieces18_in (n:Nat) (hn:6<=n) (lv:Nat) (s:ByteArray) (w:World) (hs:s.size<=1000000) (hl1:1<=lv) (hl9:lv<=9):
  CallsIn Fence.wide n Tryz.prog 32 #[.string s,.int .i64 (lv:Int)] w fun e w'=>∃v,e=.returned (.tuple #[v,.int .i64 0])/\RdT w' v ((picL (40*lv) s.data.toList).map mkS)/\Below w.heap.size w w':=by
 have h1:1<=n:=by omega
 have hcnt:=picL_count (room:=40*lv) (by omega) s.data.toList;have hLs:s.data.toList.length=s.size:=by simp
 rw[hLs] at hcnt;obtain⟨T,hT⟩:∃T,T=picL (40*lv) s.data.toList:=⟨_,rfl⟩;have HT:=hid hT;rw[<-hT] at hcnt ⊢;clear hT hLs;refine callsIn_of_wp_marks Tryz.func32 rfl trivial ?_ rfl;simp only[Tryz.ntmps32,List.size_toArray,List.length_cons,List.length_nil,Nat.reduceAdd,Nat.reduceSub,Array.replicate_succ,Array.replicate_zero,List.push_toArray,List.append_toArray,List.nil_append,List.cons_append]
 gi_wp2_with fail
 refine⟨trivial,(may_yes hl1 hl9 (n-1) _).mono ?_⟩;rintro e w' ⟨rfl,rfl⟩
 gi_wp2_with fail
 refine⟨trivial,(cuts_in (n-1) s lv _).mono ?_⟩;rintro e w' ⟨rfl,rfl⟩
 gi_wp2_with fail
 have hA2:=(((Arr.new w 24 [.slice none 0 0]).alloc (.cells #[.string s] 9)).alloc (.cells #[.int .i64 (lv:Int)] 3));have hA':=((Arr.new (w.alloc (.cells #[.slice none 0 0] 24)) 9 [.string s]).alloc (.cells #[.int .i64 (lv:Int)] 3));have hB':=Arr.new ((w.alloc (.cells #[.slice none 0 0] 24)).alloc (.cells #[.string s] 9)) 3 [.int .i64 (lv:Int)];have hb1:Below w.heap.size w (((w.alloc (.cells #[.slice none 0 0] 24)).alloc (.cells #[.string s] 9)).alloc (.cells #[.int .i64 (lv:Int)] 3)):=(((Below.refl _ w).alloc (Nat.le_refl _) _).alloc (by simp) _).alloc (by simp;omega) _
 have hs1:(((w.alloc (.cells #[.slice none 0 0] 24)).alloc (.cells #[.string s] 9)).alloc (.cells #[.int .i64 (lv:Int)] 3)).heap.size=w.heap.size+1+1+1:=by simp
 simp only[World.size_alloc] at hA' hB' ⊢;change Arr (((w.alloc (.cells #[.slice none 0 0] 24)).alloc (.cells #[.string s] 9)).alloc (.cells #[.int .i64 (lv:Int)] 3)) _ _ _ at hA2;change Arr (((w.alloc (.cells #[.slice none 0 0] 24)).alloc (.cells #[.string s] 9)).alloc (.cells #[.int .i64 (lv:Int)] 3)) _ _ _ at hA';change Arr (((w.alloc (.cells #[.slice none 0 0] 24)).alloc (.cells #[.string s] 9)).alloc (.cells #[.int .i64 (lv:Int)] 3)) _ _ _ at hB';generalize ((w.alloc (.cells #[.slice none 0 0] 24)).alloc (.cells #[.string s] 9)).alloc (.cells #[.int .i64 (lv:Int)] 3)=w1 at*
 obtain⟨y,hy⟩:∃y,y=w.heap.size:=⟨_,rfl⟩;rw[<-hy] at hA2 hA' hB' hs1 hb1 ⊢;have HY:=hid hy;clear hy;have hyw:y+1+1+1<=w1.heap.size:=by omega
 have hseq:=cuts_seqb (n-1) (by omega) (y+1) lv s hs hl1 hl9 w1 hA' hB';rw[<-HT.out] at hseq;refine wpIn_range_tyb (w0:=w1) (Ri:=dP none) (Kp:=KpX (y+1)) (Ok:=fun _=>True) (Pre:=fun pre x=>∃r,T=pre++x::r) (encs:=zX) h1 (gf:=88) (lb:=#[.pointer (some ⟨y+1,0,none⟩),.pointer (some ⟨y+1+1,0,none⟩)]) rfl (enters_of Tryz.func88 (by kernel_rfl) rfl)
  (y+1) (by omega) hseq (Below.refl _ _) (fun _=>rfl) (fun h k=>h.trans k) (fun _ _ h=>.of_kept h) (fun _ _ h=>h)
  (fun pre W=>(∃v,Arr W y 24 [v]/\OwR W (y+1+1+1) 9 1 v (pre.map txC))/\Below y w W/\y+1+1+1<=W.heap.size)
  (fun _ _ _=>False)
  (fun pre A B ⟨⟨v,k2,k3⟩,k5,k6⟩ hAB hk=>⟨⟨v,k2.below hAB (by omega),TyKept.own (T:=[9]) (.of_kept hk) k3 (by decide)⟩,k5.trans (hAB.mono (by omega)),Nat.le_trans k6 hAB.size⟩)
  (fun c pre A B k _ _=>k.elim)
  ⟨⟨_,hA2,OwR.nil _ _ _ _⟩,hb1,hyw⟩ (fun _ _ _=>trivial)
  (fun pre A u ⟨⟨v,k2,k3⟩,k5,k6⟩=>⟨⟨v,k2.other ⟨y+1,0,none⟩ (by show y+1≠y;omega) u,ownsRow_setCell_below k3 (a:=⟨y+1,0,none⟩) (by show y+1<y+1+1+1;omega) u⟩,k5.setCell (p:=⟨y+1,0,none⟩) (by show y<=y+1;omega) u,by simpa using k6⟩)
  (fun x a' _=>a'={tmps:=#[.string s,.int .i64 (lv:Int),undef,undef,.pointer (some ⟨y,0,none⟩),.int .i64 0,.string (mkS x),.int .i64 (lv:Int),.bool true,.bool false,.string s,.int .i64 (lv:Int),.func (.func 88) #[] #[.pointer (some ⟨y+1,0,none⟩),.pointer (some ⟨y+1+1,0,none⟩)],.string (mkS x),undef,undef,undef,undef,undef],defers:=[]})
  (fun _ _ _ _ k _=>k) ?assign ?body ?done ?stop
 case assign=>
  rintro l0 pre x W K hI hB hpre hK;unfold zX
  gi_wp2
  exact hK _ _ (Below.refl _ _) rfl
 case body=>
  rintro l0 pre x a' W ⟨⟨v,k2,k3⟩,k5,k6⟩ hB ⟨r,hr⟩ rfl;have hlen:pre.length+1<=40000:=by
   have h:=congrArg List.length hr;rw[List.length_append,List.length_cons] at h;omega
  obtain⟨va,vc,hv,-⟩:=(OwR.rd k3).open (txC_wide pre) (by decide:1<=1);obtain⟨vn,hvn⟩:∃vn,vn=(pre.map txC).length:=⟨_,rfl⟩;rw[<-hvn] at hv;subst hv;have c0:=k2.cell (i:=0) rfl;clear hvn hr
  gi_wp2_with (gi_at_builtin;refine appR1_in elTx rfl _ _ rfl (y+1+1+1) _ _ rfl (OwR.alloc k3 _) _ (txC x) rfl (Arr.new W 9 (txC x)) rfl (fun u hu=>(txC_wide [x] _ (by simp)).2 u hu) ?_ ?_ ?_;(simp only[List.length_map];omega);(simp;omega);intro v3 W3 p1 p2 p3;(obtain⟨a3,c3,hv3,-⟩:=(OwR.rd p1).open (by intro q hq;rcases List.mem_append.1 hq with hq|hq;(exact txC_wide pre _ hq);(exact txC_wide [x] _ (by simpa using hq))) (by decide:1<=1));(obtain⟨n3,hn3⟩:∃n3,n3=(pre.map txC++[txC x]).length:=⟨_,rfl⟩);rw[<-hn3] at hv3;subst hv3;(have HN3:=hid hn3);clear hn3;(have k23:=Arr.below (Arr.alloc k2 (.cells (txC x).toArray 9)) p2 (by omega));(have g0:=k23.cell (i:=0) rfl);(have e0:=k23.free 0))
  change (W.alloc (.cells (txC x).toArray 9)).grownBy W3 (Value.slice va vn vc).ownBlock at p3;change Below (y+1+1+1) (W.alloc (.cells (txC x).toArray 9)) W3 at p2;have hsA:(W.alloc (.cells (txC x).toArray 9)).heap.size=W.heap.size+1:=by simp
  have hs3:=p2.size;have hbW:Below (y+1+1+1) W W3:=((Below.refl _ W).alloc (by omega) _).trans p2;refine⟨keepsRest (by simp;omega) (fun k o ho hc=>rest_set k23 _ k o (rest_app (OwR.alloc k3 (.cells (txC x).toArray 9)) p3 k o ((Below.heap_alloc W _ k (Array.getElem?_eq_some_iff.1 ho).1).trans ho) hc) hc),⟨by simp;omega,fun k c e fz hk hc=>?_⟩,⟨_,k23.set 0 _,?_⟩,(k5.trans (hbW.mono (by omega))).setCell (p:=⟨y,0,none⟩) (Nat.le_refl _) _,by simp;omega⟩
  ·rw[heap_setCell_other W3 ⟨y,0,none⟩ k _ (fun q=>by have q:k=y:=q;omega)];exact(hbW.block k (by omega)).trans hc
  ·rw[List.map_append];exact ownsRow_setCell_below p1 (a:=⟨y,0,none⟩) (by show y<y+1+1+1;omega) _
 case done=>
  rintro D xs W hD hfin ⟨⟨v,k2,k3⟩,k5,k6⟩ hK;obtain⟨va,vc,hv,-⟩:=(OwR.rd k3).open (txC_wide xs) (by decide:1<=1);obtain⟨vn,hvn⟩:∃vn,vn=(xs.map txC).length:=⟨_,rfl⟩;rw[<-hvn] at hv;subst hv;have c0:=k2.cell (i:=0) rfl;have f0:=k2.free 0;have HF:=hid hfin;have hK':(W.setCell ⟨y,0,none⟩ (.slice va vn vc)).heap[D]? =some (.deferred (some [])):=rest_set k2 _ D _ hK rfl;clear hvn hfin
  gi_wp2_with fail
  refine⟨by simp,.inl ⟨_,_,rfl,run_takeDeferred hK',?_⟩⟩;have q2:=((k2.set 0 (.slice va vn vc)).grown (grownBy_putObj' _ D (.deferred none)) (by simp;omega)).cell (i:=0) rfl;have hro:=ownsRow_setCell_below k3 (a:=⟨y,0,none⟩) (by show y<y+1+1+1;omega) (.slice va vn vc);refine⟨.tuple #[.slice va vn vc,.int .i64 0],?_,.slice va vn vc,rfl,?_,?_⟩
  ·simp[results,Tryz.f32,go_sem,q2]
  ·rw[<-HF.out];exact RdT.of_tx (OwR.rd (World.ownsRow.kept hro (grownBy_putObj' _ D (.deferred none)) (own_not_deferred hro hK')))
  ·rw[<-HY.out];exact(k5.setCell (p:=⟨y,0,none⟩) (Nat.le_refl _) _).trans ((belowK_b (w:=w1) (Nat.le_refl _) _ D _ _ hD hK' rfl rfl).mono (by omega))
 case stop=>
  rintro D c pre W hD k hK;exact k.elim
theorem pieces18_any (lv:Nat) (s:ByteArray) (w:World) (hs:s.size<=1000000) (hl1:1<=lv) (hl9:lv<=9):
  Calls Tryz.prog 32 #[.string s,.int .i64 (lv:Int)] w fun e w'=>∃v,e=.returned (.tuple #[v,.int .i64 0])/\RdT w' v ((picL (40*lv) s.data.toList).map mkS)/\Below w.heap.size w w':=
 callsIn_wide.1 (pieces18_in 6 (Nat.le_refl _) lv s w hs hl1 hl9)
end
section
open Go.RowKit Go Go.Shelf
def pcT (lv:Nat) (s:ByteArray):List ByteArray:=(picL (40*lv) s.data.toList).map mkS
theorem mem_flat_len {α:Type} {p:List α}:∀{l:List (List α)},p∈l->p.length<=l.flatten.length
 |[],h=>by simp at h
 |x::l,h=>by
  rw[List.flatten_cons,List.length_append];rcases List.mem_cons.1 h with rfl|h
  ·omega
  ·have:=mem_flat_len h;omega
theorem pcT_ok {lv:Nat} (h1:1<=lv) (s:ByteArray):∀t∈pcT lv s,0<t.size/\lnL t.data.toList<=40*lv/\t.size<=s.size:=fun t ht=>by
 obtain⟨p,hp,rfl⟩:=List.mem_map.1 ht;obtain⟨k1,k2⟩:=picL_ok (room:=40*lv) (by omega) s.data.toList p hp;have h3:=mem_flat_len hp;rw[picL_flat (by omega)] at h3;have hl:s.data.toList.length=s.size:=by simp
 rw[cP,fW];exact⟨List.length_pos_iff.2 k1,k2,by omega⟩
theorem pcT_len {lv:Nat} (h1:1<=lv) (s:ByteArray):32*(pcT lv s).length<=s.size+32:=by
 have h:=picL_count (room:=40*lv) (by omega) s.data.toList;have hl:s.data.toList.length=s.size:=by simp
 unfold pcT;rw[List.length_map];omega
theorem pack18_any (lv:Nat) (s:ByteArray) (w:World) (hs:s.size<=800) (hl1:1<=lv) (hl9:lv<=9):
  Calls Tryz.prog 30 #[.string s,.int .i64 (lv:Int)] w fun e w'=>e=.returned (.tuple #[.string (arcS [(lv,pcT lv s)]),.int .i64 0])/\okA [(lv,pcT lv s)]/\Below w.heap.size w w':=by
 have hok:=pcT_ok hl1 s;have hlen:=pcT_len hl1 s;have hwr0:wrE (lv:Int) (pcT lv s)=0:=by
  unfold wrE;rw[if_neg (by omega)];refine firstE_of (fun t ht=>?_);obtain⟨f1,f2,f3⟩:=hok t ht;unfold lnL at f2;exact wY f1 (by omega) (by omega) (by omega)
 have hmay:=fun W=>callsIn_wide.1 (may_yes hl1 hl9 7 W)
 have hcuts:=fun W=>callsIn_wide.1 (cuts_in 7 s lv W)
 have hcol:=fun W hA hB=>callsIn_wide.1 (collect_in 7 (Nat.le_refl _) w.heap.size lv s W (by omega) hl1 hl9 hA hB)
 rw[show(picL (40*lv) s.data.toList).map mkS=pcT lv s from rfl] at hcol;have hwrt:∀W v,RdT W v (pcT lv s)->Calls Tryz.prog 17 #[.int .i64 (lv:Int),v] W fun e w'=>e=.returned (.tuple #[.string (arcS [(lv,pcT lv s)]),.int .i64 0])/\okA [(lv,pcT lv s)]/\Below W.heap.size W w':=fun W v hr=>by
  refine(write_any (lv:Int) v (pcT lv s) W hr (by omega) (fun t ht=>by have:=(hok t ht).2.2;omega) (by omega) (by omega) (fun k hk ho=>?_)).mono ?_
  ·have:=bodyW_len (r:=40*(lv:Int)) (by omega) ((pcT lv s).take k) ho;rw[List.length_take] at this;omega
  ·rintro e w' (⟨-,rfl,ho,hb⟩|⟨h0,-,-⟩)
   ·refine⟨?_,okA_one hl1 hl9 ho,hb⟩;rw[Int.toNat_natCast];unfold arcS;rw[arc_one]
   ·exact absurd hwr0 h0
 have hA:=(Arr.new w 9 [.string s]).alloc (.cells #[.int .i64 (lv:Int)] 3);have hB:=Arr.new (w.alloc (.cells #[.string s] 9)) 3 [.int .i64 (lv:Int)];rw[World.size_alloc] at hB;change Arr ((w.alloc (.cells #[.string s] 9)).alloc (.cells #[.int .i64 (lv:Int)] 3)) _ _ _ at hA;change Arr ((w.alloc (.cells #[.string s] 9)).alloc (.cells #[.int .i64 (lv:Int)] 3)) _ _ _ at hB;have hb1:Below w.heap.size w ((w.alloc (.cells #[.string s] 9)).alloc (.cells #[.int .i64 (lv:Int)] 3)):=bD (bD (Below.refl _ _) _) _;obtain⟨R,hR⟩:∃R,R=arcS [(lv,pcT lv s)]:=⟨_,rfl⟩
 obtain⟨OK,hOK⟩:∃OK:Prop,OK=okA [(lv,pcT lv s)]:=⟨_,rfl⟩;rw[<-hR,<-hOK] at hwrt ⊢;have hcol2:=hcol _ hA hB;clear hok hlen hwr0 hR hOK hcol hA hB;go_enter Tryz.func30,Tryz.ntmps30;go_wp2_with fail;refine(hmay _).mono ?_;rintro e w' ⟨rfl,rfl⟩;go_wp2_with fail;refine(hcuts _).mono ?_;rintro e w' ⟨rfl,rfl⟩;go_wp2_with fail;refine hcol2.mono ?_;rintro e w2 ⟨v,rfl,hv,h2⟩;go_wp2_with fail;refine(hwrt _ v hv).mono ?_;rintro e w3 ⟨rfl,ho,h3⟩;go_wp2_with fail
 go_ret2
 have h12:=hb1.trans h2;exact⟨rfl,ho,h12.trans (h3.mono h12.size)⟩
theorem pack18_bad (s:ByteArray) (w:World):
  Calls Tryz.prog 30 #[.string s,.int .i64 0] w fun e w'=>e=.returned (.tuple #[.string ⟨#[]⟩,.int .i64 1])/\w'=w:=by
 have hmay:=fun W=>callsIn_wide.1 (may_in 7 0 W)
 rw[show decide ((1:Int)<=0/\(0:Int)<=9)=false from by decide] at hmay;go_enter Tryz.func30,Tryz.ntmps30;go_wp2_with fail;refine(hmay _).mono ?_;rintro e w' ⟨rfl,rfl⟩;go_wp2_with fail
 go_ret2
 exact⟨rfl,rfl⟩
theorem arcS_empty:(arcS ([]:List (Nat×List ByteArray))).data.toList=[]:=by
 unfold arcS;rw[fW];exact List.length_eq_zero_iff.1 (by rw[gY];rfl)
def lvN (lv i:Nat):Nat:=(lv-1+i)%9+1
def strmL (lv:Nat):Nat->List ByteArray->List (Nat×List ByteArray)
 |_,[]=>[]
 |i,t::l=>(lvN lv i,pcT (lvN lv i) t)::strmL lv (i+1) l
theorem strmL_snoc (lv:Nat) (x:ByteArray):∀(l:List ByteArray) (i:Nat),strmL lv i (l++[x])=strmL lv i l++[(lvN lv (i+l.length),pcT (lvN lv (i+l.length)) x)]
 |[],_=>rfl
 |t::l,i=>by
  show _::strmL lv (i+1) (l++[x])=_::(strmL lv (i+1) l++_);rw[strmL_snoc lv x l,List.length_cons,show i+1+l.length=i+(l.length+1) by omega]
theorem streams_any (lv:Nat) (v:Value) (l:List ByteArray) (w:World) (hr:RdT w v l) (hl:1<=l.length) (hl3:l.length<=3) (hsz:∀t∈l,t.size<=800) (hl1:1<=lv) (hl9:lv<=9):
  Calls Tryz.prog 31 #[.int .i64 (lv:Int),v] w fun e w'=>e=.returned (.tuple #[.string (arcS (strmL lv 0 l)),.int .i64 0])/\okA (strmL lv 0 l)/\Below w.heap.size w w':=by
 obtain⟨a,ca,rfl,hca,hma,hA⟩:=hr.open;unfold maxLen at hma;have hmay:=fun W=>callsIn_wide.1 (may_yes hl1 hl9 7 W)
 have hB0:=aAp w;have hb2:Below w.heap.size w (w.alloc (.cells #[.pointer none,.slice none 0 0] 88)):=bD (Below.refl _ _) _;have n0:((l.length:Int)==0)=false:=beq_eq_false_iff_ne.2 (by omega);have n0':(l.length==0)=false:=beq_eq_false_iff_ne.2 (by omega);obtain⟨l1,hl1'⟩:∃l1,l1=lv-1:=⟨_,rfl⟩;have m1:IntKind.i64.wrap ((lv:Int)-1)=(l1:Int):=by rw[show(lv:Int)-1=(l1:Int) by omega];exact nat_wI l1 (by omega)
 have m1':(lv:Int)-1=(l1:Int):=by omega
 have HL1:=hid hl1';have hl1b:l1<=8:=by omega
 clear hr hl1';go_enter Tryz.func31,Tryz.ntmps31;go_wp2_with fail;refine(hmay _).mono ?_;rintro e w ⟨rfl,rfl⟩;clear hmay;go_wp2_with fail;generalize w.alloc (.cells #[.pointer none,.slice none 0 0] 88)=w2 at*
 go_loopg [7,8,9,10,21] l.length (fun g _s7 _s8 _s9 _s10 s21 wr=>∃k:Nat,k<=l.length/\g=l.length-k/\s21=.int .i64 (k:Int)/\Bld wr w.heap.size w.heap.size (arcS (strmL lv 0 (l.take k))).data.toList/\Hid (okA (strmL lv 0 (l.take k))/\(arcS (strmL lv 0 (l.take k))).data.toList.length<=92000*k)/\Below w.heap.size w wr)
 case atStart=>exact⟨0,Nat.zero_le _,rfl,rfl,by rw[show(arcS (strmL lv 0 (l.take 0))).data.toList=[] from arcS_empty];exact hB0,hid ⟨fun p hp=>by simp[strmL] at hp,by rw[show(arcS (strmL lv 0 (l.take 0))).data.toList=[] from arcS_empty];exact Nat.zero_le _⟩,hb2⟩
 case round=>
  obtain⟨k,hk,hg,rfl,hor,HO,hbel⟩:=hrel;have HG:=hid hg;clear hg hB0 hb2
  by_cases hlt:k<l.length
  ·have t1:decide ((k:Int)<(l.length:Int))=true:=decide_eq_true (by omega);obtain⟨b,off,rfl,hb,hc⟩:=hA (by omega);obtain⟨p,hp⟩:∃p,l[k]? =some p:=⟨_,List.getElem?_eq_getElem hlt⟩;have c0:=(hbel.cell (p:=⟨b,off+k,none⟩) hb).trans (hc k p hp);have hps:=hsz p (List.mem_of_getElem? hp);obtain⟨l2,hl2⟩:∃l2,l2=l1+k:=⟨_,rfl⟩;obtain⟨l3,hl3'⟩:∃l3,l3=l2%9:=⟨_,rfl⟩;obtain⟨l4,hl4⟩:∃l4,l4=l3+1:=⟨_,rfl⟩;have m2:IntKind.i64.wrap ((l1:Int)+(k:Int))=(l2:Int):=by rw[show(l1:Int)+(k:Int)=(l2:Int) by omega];exact nat_wI l2 (by omega)
   have m2':(l1:Int)+(k:Int)=(l2:Int):=by omega
   have m3:IntKind.i64.wrap ((l2:Int).tmod 9)=(l3:Int):=by rw[Int.tmod_eq_emod_of_nonneg (by omega),show(l2:Int)%9=(l3:Int) by omega];exact nat_wI l3 (by omega)
   have m3':(l2:Int)%9=(l3:Int):=by omega
   have m4:IntKind.i64.wrap ((l3:Int)+1)=(l4:Int):=by rw[show(l3:Int)+1=(l4:Int) by omega];exact nat_wI l4 (by omega)
   have m4':(l3:Int)+1=(l4:Int):=by omega
   have hlv:l4=lvN lv (0+(l.take k).length):=by
    unfold lvN;rw[List.length_take,hl4,hl3',hl2,HL1.out,Nat.zero_add,Nat.min_eq_left (by omega)]
   have hcall:=fun W=>pack18_any l4 p W hps (by omega) (by omega)
   have hpl:=pcT_len (lv:=l4) (by omega) p;have hT:strmL lv 0 (l.take (k+1))=strmL lv 0 (l.take k)++[(l4,pcT l4 p)]:=by
    rw[List.take_add_one,hp];show strmL lv 0 (l.take k++[p])=_;rw[strmL_snoc,<-hlv]
   have hT2:(arcS (strmL lv 0 (l.take (k+1)))).data.toList=(arcS (strmL lv 0 (l.take k))).data.toList++(arcS [(l4,pcT l4 p)]).data.toList:=by
    rw[hT,<-arcS_join,ByteArray.data_append,Array.toList_append]
   have hsA:okA [(l4,pcT l4 p)]->(arcS [(l4,pcT l4 p)]).size<=92000:=fun h=>by
    have h2:=arcS_size h;have ea:(allT [(l4,pcT l4 p)]).length=(pcT l4 p).length:=by unfold allT;simp
    rw[ea,List.length_singleton] at h2;omega
   have HT:=hid hT;have HT2:=hid hT2;have HSA:=hid hsA;obtain⟨X,hX⟩:∃X,X=arcS [(l4,pcT l4 p)]:=⟨_,rfl⟩;rw[<-hX] at hcall HT2 HSA;have hwr:=fun W hW h=>aQu w.heap.size w.heap.size (arcS (strmL lv 0 (l.take k))).data.toList X W hW h
   have hszr:=hbel.size;clear hlv hl2 hl3' hl4 hT hT2 hsA hX hc hA hp hpl hsz;go_wp2_with fail;refine(hcall _).mono ?_;rintro e w3 ⟨rfl,hok3,h3⟩;clear m1 m1' m2 m2' m3 m3' m4 m4' c0 n0 n0' t1;have hxl:=HSA.out hok3;have hO:=HO.out;have hxe:X.data.toList.length=X.size:=by simp
   have HO2:=hid (show okA (strmL lv 0 (l.take (k+1)))/\(arcS (strmL lv 0 (l.take (k+1)))).data.toList.length<=92000*(k+1) from⟨by rw[HT.out];exact okA_append hO.1 hok3,by rw[HT2.out,List.length_append];omega⟩);have hor3:=hor.same (w':=w3) (fun q o hk' _ _=>by rw[h3.block _ (Array.getElem?_eq_some_iff.1 hk').1];exact hk');have hln:(arcS (strmL lv 0 (l.take k))).data.toList.length+X.size<=140737488355328:=by omega
   have hbel3:=hbel.trans (h3.mono hszr);have hsz3:=hbel3.size;clear hO hxl hxe hcall hor hbel;go_wp2_with fail;refine(hwr _ hor3 hln (by omega)).mono ?_;rintro e w4 ⟨rfl,hB4,hb4,-⟩;go_wp2_with fail;have hg:=HG.out
   go_roundg (l.length-(k+1))
   case measure=>omega
   case rel=>exact⟨k+1,by omega,rfl,by go_num,by rw[HT2.out];exact hB4,HO2,hbel3.trans hb4⟩
  ·have t1:decide ((k:Int)<(l.length:Int))=false:=decide_eq_false (by omega);have ht:l.take k=l:=List.take_of_length_le (by omega);rw[ht] at hor HO;have hsz:=hbel.size;clear ht;go_wp2_with fail;refine(aAn w.heap.size w.heap.size _ _ hor hsz).mono ?_;rintro e w3 ⟨rfl,-,hb3,-⟩;go_wp2_with fail
   go_ret2
   exact⟨by rw[pL];rfl,HO.out.1,hbel.trans hb3⟩
theorem streams_none (w:World):
  Calls Tryz.prog 31 #[.int .i64 1,.slice none 0 0] w fun e w'=>e=.returned (.tuple #[.string ⟨#[]⟩,.int .i64 1])/\w'=w:=by
 have hmay:=fun W=>callsIn_wide.1 (may_yes (lv:=1) (by decide) (by decide) 7 W)
 go_enter Tryz.func31,Tryz.ntmps31;go_wp2_with fail;refine(hmay _).mono ?_;rintro e w' ⟨rfl,rfl⟩;go_wp2_with fail
 go_ret2
 exact⟨rfl,rfl⟩
end
section
open Go.RowKit Go Go.Shelf
theorem pick18_any (c n:Int) (w:World) (h1: -9223372036854775808<=c) (h2:c<=9223372036854775807) (h3:1<=n) (h4:n<=1000000000):
  Calls Tryz.prog 29 #[.int .i64 c,.int .i64 n] w fun e w'=>e=.returned (.int .i64 (gA c n))/\w=w':=by
 by_cases hc:c<0
 ·have hfin:=hid (show gA c n=(-(c+1))%n from by simp[gA,hc]);go_enter Tryz.func29,Tryz.ntmps29;go_wp2;go_ret;exact⟨fX (by rw[hfin.out];rw[<-Int.neg_tmod,Int.tmod_eq_emod_of_nonneg (by omega)]),rfl⟩
 ·have hfin:=hid (show gA c n=c%n from by simp[gA,hc]);have hc':0<=c:=by omega
  go_enter Tryz.func29,Tryz.ntmps29;go_wp2;go_ret;exact⟨fX (by rw[hfin.out]),rfl⟩
theorem lev18_any (c:Int) (h1: -9223372036854775808<=c) (h2:c<=9223372036854775807):∃q R:Nat,1<=R/\R<=9/\IntKind.i64.wrap (1+(q:Int))=(R:Int)/\1+(q:Int)=(R:Int)/\∀W,Calls Tryz.prog 29 #[.int .i64 c,.int .i64 9] W fun e w'=>e=.returned (.int .i64 (q:Int))/\W=w':=by
 obtain⟨p1,p2⟩:=vU c 9 (by decide);obtain⟨q,hq⟩:∃q:Nat,gA c 9=(q:Int):=⟨_,(Int.toNat_of_nonneg p1).symm⟩;refine⟨q,1+q,by omega,by omega,by rw[show 1+(q:Int)=((1+q:Nat):Int) by push_cast;rfl];exact nat_wI _ (by omega),by push_cast;rfl,fun W=>?_⟩;have h:=pick18_any c 9 W h1 h2 (by decide) (by decide);rw[hq] at h;exact h
theorem text18_any (s:ByteArray) (v:Value) (raw:List (Int×Int)) (most:Nat) (w:World) (hr:RdP w v raw) (hwf:WfP raw) (hs:s.size<=100000) (hm:most<=600):
  Calls Tryz.prog 28 #[.string s,v,.int .i64 (most:Int)] w fun e w'=>∃Y,e=.returned (.string Y)/\Y.size<=most/\Below w.heap.size w w':=by
 obtain⟨m,hmi⟩:∃m,m=min s.size most:=⟨_,rfl⟩;have y1:min (s.size:Int) (most:Int)=(m:Int):=by omega
 have y2:(if(s.size:Int)<=(most:Int) then(s.size:Int) else(most:Int))=(m:Int):=by split<;>omega
 have hm1:m<=s.size/\m<=most:=by omega
 obtain⟨R,hR⟩:∃R:Nat,R=most-m:=⟨_,rfl⟩;have m1:IntKind.i64.wrap ((most:Int)-(m:Int))=(R:Int):=by rw[show(most:Int)-(m:Int)=(R:Int) by omega];exact nat_wI R (by omega)
 have m1':(most:Int)-(m:Int)=(R:Int):=by omega
 have m2:IntKind.i64.wrap (R:Int)=(R:Int):=nat_wI R (by omega);have hRm:R+m=most:=by omega
 obtain⟨X,hX⟩:∃X,X=s.extract 0 m:=⟨_,rfl⟩;have hXs:X.size<=m:=by rw[hX];simp;omega
 have hX':=hX.symm;have q1:(m:Int)<=(s.size:Int):=by omega
 have hruns:=fun W (h:Below w.heap.size w W/\w.heap.size<=W.heap.size)=>LX v raw R W (hr.below h.1) hwf (by omega) (by omega)
 have hb0:Below w.heap.size w w.drew/\w.heap.size<=w.drew.heap.size:=⟨(Below.refl w.heap.size w).drew,Nat.le_refl _⟩;clear hX hmi hR;go_enter Tryz.func28,Tryz.ntmps28;go_wp2_with fail
 go_cut [6] (fun c6 wx=>∃Y:ByteArray,c6=.string Y/\Y.size<=most/\Below w.heap.size w wx)
 case first=>
  go_region_held3 (fun wx=>Below w.heap.size w wx/\w.heap.size<=wx.heap.size)
   (first
    |with_reducible assumption
    |with_reducible exact kpT (by assumption) (by assumption))
   (first
    |(go_at_call 41;with_reducible refine(hruns _ (by assumption)).mono ?_;rintro e w2 ⟨t2,rfl,ht2,h2⟩;have q3:¬9223372036854775807<X.size+t2.size:=by omega))
  all_goals
   obtain⟨hbel,hsz⟩:=(show Below w.heap.size w w2/\w.heap.size<=w2.heap.size by assumption);have hXt:(X++t2).size<=most:=by rw[ByteArray.size_append];omega
   go_wp2_with fail;go_meet;exact⟨_,rfl,hXt,hbel⟩
 case rest=>
  obtain⟨Y,rfl,hY,hbc⟩:=hcut;go_wp2_with fail;go_ret;exact⟨_,rfl,hY,hbc⟩
end
section
open Go.RowKit Go Go.Shelf
theorem strB18 {s:ByteArray} {l:List UInt8} (h:s.data.toList=l):(s.toList==l)=true:=by rw[Lib.toList_data,h];simp
theorem extT18 (s:ByteArray) (k:Nat):(s.extract 0 k).data.toList=s.data.toList.take k:=by rw[nT,fW,List.drop_zero,Nat.sub_zero]
theorem catT_pcT {lv:Nat} (h1:1<=lv) (s:ByteArray):catT (pcT lv s)=s:=by
 have e:(pcT lv s).map (fun t=>t.data.toList)=picL (40*lv) s.data.toList:=by
  unfold pcT;rw[List.map_map];exact List.map_id _
 unfold catT;rw[e,picL_flat (by omega),pL]
theorem pcT_none (lv:Nat):pcT lv ⟨#[]⟩=[]:=rfl
theorem pcT_one {lv:Nat} (h1:1<=lv) {s:ByteArray} (hs:0<s.size) (h:lnL s.data.toList<=40*lv):pcT lv s=[s]:=by
 have hl:s.data.toList.length=s.size:=by simp
 unfold pcT;rw[picL_one (by omega) (List.length_pos_iff.1 (by omega)) h];show[mkS s.data.toList]=_;rw[pL]
theorem allT_one (n:Nat) (x:List ByteArray):allT [(n,x)]=x:=by unfold allT;simp
theorem read18 {lv:Nat} (h1:1<=lv) {s:ByteArray} (hs:s.size<=800) (o:okA [(lv,pcT lv s)]) (W:World) (hE:iF W):
  Calls Tryz.prog 19 #[.string (arcS [(lv,pcT lv s)])] W fun e w'=>e=.returned (.tuple #[.string s,.int .i64 0])/\Below W.heap.size W w':=by
 have hz:=arcS_size o;have hl:=pcT_len h1 s;rw[allT_one,List.length_singleton] at hz;have k:=read_arc (l:=[(lv,pcT lv s)]) (by simp) o (by omega) W hE;rw[allT_one,catT_pcT h1] at k;exact k
def abcText:ByteArray:=⟨#[97,97,97,97,98,98,98,98,99,99,99,99]⟩
def whyText:ByteArray:=⟨#[121]⟩
theorem awake18_any (w:World) (hE:iF w):Calls Tryz.prog 27 #[] w fun e w'=>e=.returned (.bool true)/\Below w.heap.size w w':=by
 have hp1:∀W,Calls Tryz.prog 30 #[.string ⟨#[]⟩,.int .i64 1] W fun e w'=>e=.returned (.tuple #[.string (arcS [(1,[])]),.int .i64 0])/\okA [(1,[])]/\Below W.heap.size W w':=fun W=>pack18_any 1 ⟨#[]⟩ W (by decide) (by decide) (by decide)
 have hp2:∀W,Calls Tryz.prog 30 #[.string bananaS,.int .i64 9] W fun e w'=>e=.returned (.tuple #[.string (arcS [(9,pcT 9 bananaS)]),.int .i64 0])/\okA [(9,pcT 9 bananaS)]/\Below W.heap.size W w':=fun W=>pack18_any 9 bananaS W (by decide) (by decide) (by decide)
 have hp3:∀W,Calls Tryz.prog 32 #[.string abcText,.int .i64 1] W fun e w'=>∃v,e=.returned (.tuple #[v,.int .i64 0])/\RdT w' v [abcText]/\Below W.heap.size W w':=fun W=>by
  have k:=pieces18_any 1 abcText W (by decide) (by decide) (by decide);have e:(picL (40*1) abcText.data.toList).map mkS=[abcText]:=pcT_one (lv:=1) (by decide) (by decide) (by
   have:=lnL_le abcText.data.toList.length abcText.data.toList (Nat.le_refl _);have e12:abcText.data.toList.length=12:=rfl;omega)
  rw[e] at k;exact k
 have hp4:=fun W=>streams_none W
 have hs1:=arcS_none 1;go_enter Tryz.func27,Tryz.ntmps27;go_wp2_with fail;refine(hp1 _).mono ?_;rintro e w1 ⟨rfl,ho1,h1⟩;have hE1:=hE.below h1;have hrA:∀W,iF W->Calls Tryz.prog 19 #[.string (arcS [(1,[])])] W fun e w'=>e=.returned (.tuple #[.string ⟨#[]⟩,.int .i64 0])/\Below W.heap.size W w':=fun W h=>read_arc (l:=[(1,[])]) (by simp) ho1 (by omega) W h
 obtain⟨A,hA⟩:∃A,A=arcS [(1,[])]:=⟨_,rfl⟩;obtain⟨S0,hS0⟩:∃S0:ByteArray,S0=⟨#[]⟩:=⟨_,rfl⟩;have hS0e:S0.toList.isEmpty=true:=by rw[Lib.toList_data,hS0];rfl
 rw[<-hA,<-hS0] at hrA;rw[<-hA] at hs1 ⊢;have hs1':((A.size:Int)==14)=true:=by rw[hs1];rfl
 clear hE hp1 ho1 hA;go_wp2_with fail;refine(hrA _ hE1).mono ?_;rintro e w2 ⟨rfl,h2⟩;have hE2:=hE1.below h2;have h02:=bV h1 h2;clear hrA hE1 h1 h2;go_wp2_with fail;refine(hp2 _).mono ?_;rintro e w3 ⟨rfl,ho3,h3⟩;have hE3:=hE2.below h3;have h03:=bV h02 h3;have hrB:=fun W h=>read18 (lv:=9) (s:=bananaS) (by decide) (by decide) ho3 W h
 obtain⟨Bb,hBb⟩:∃Bb,Bb=arcS [(9,pcT 9 bananaS)]:=⟨_,rfl⟩;obtain⟨T,hT⟩:∃T,T=bananaS:=⟨_,rfl⟩;have hTe:(T.toList==[98,97,110,97,110,97])=true:=strB18 (by rw[hT];rfl);rw[<-hBb,<-hT] at hrB;rw[<-hBb] at ⊢;clear hp2 ho3 hBb hT hE2 h02 h3;go_wp2_with fail;refine(hrB _ hE3).mono ?_;rintro e w4 ⟨rfl,h4⟩;have h04:=bV h03 h4;clear hrB hE3 h03 h4;go_wp2_with fail;refine(hp3 _).mono ?_;rintro e w5 ⟨v5,rfl,hv5,h5⟩;have h05:=bV h04 h5;obtain⟨a5,c5,rfl,-⟩:=hv5.open;rw[List.length_singleton];clear hp3 h04 h5 hv5;go_wp2_with fail;refine(pack18_bad ⟨#[]⟩ _).mono ?_;rintro e w' ⟨rfl,rfl⟩;go_wp2_with fail
 refine(hp4 _).mono ?_;rintro e w' ⟨rfl,rfl⟩;clear hp4;go_wp2_with fail;refine(streams_any 9 (.slice (some ⟨w'.heap.size,0,none⟩) 2 2) [xS,whyText] _ (xY w' 9 [.string xS,.string whyText] 2 rfl (by decide)) (by decide) (by decide) (fun t ht=>by rcases List.mem_cons.1 ht with rfl|ht;(exact(by decide));(obtain rfl:=List.mem_singleton.1 ht;decide)) (by decide) (by decide)).mono ?_;rintro e w7 ⟨rfl,-,h7⟩;have h07:=bV h05 (bV (bD (Below.refl _ _) (.cells #[.string xS,.string whyText] 9)) h7);have hC:arcS (strmL 9 0 [xS,whyText])=arcS [(9,pcT 9 xS)]++arcS [(1,pcT 1 whyText)]:=by rw[arcS_join];rfl
 obtain⟨hh1,hh2⟩:=arcS_head 9 (pcT 9 xS);obtain⟨C,hCC⟩:∃C,C=arcS (strmL 9 0 [xS,whyText]):=⟨_,rfl⟩;rw[<-hCC] at hC ⊢;have hCs:14<=C.size:=by rw[hC,ByteArray.size_append];omega
 have hC4:((C.extract 0 4).toList==[80,77,107,57])=true:=strB18 (by
  rw[extT18,hC,ByteArray.data_append,Array.toList_append,List.take_append_of_le_length (by simp;omega),hh1];rfl)
 have t8:decide ((C.size:Int)>8)=true:=decide_eq_true (by omega);have t8':decide (8<(C.size:Int))=true:=decide_eq_true (by omega);have q4:(4:Int)<=(C.size:Int):=by omega
 clear hC hCC hh1 hh2 h05 h7 hS0;go_wp2_with fail;go_ret;exact⟨rfl,h07⟩
end
end Go.Proofs.YtpgmbhpbgkljdaaGreatDoor
