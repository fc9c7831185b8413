/-
  Texts put together (part 12): the walks and the plain laws on which the statement stands.
-/
import Derived.Test.YtmcogmmncfihhaaGreatDoorZ9
set_option maxRecDepth 100000
set_option maxHeartbeats 12800000
set_option linter.unusedVariables false
set_option linter.unusedSimpArgs false
open Go.Addr renaming add->iN
open Go.Instr renaming sliceAt->GN
open Go.IntKind renaming i64->aI,wrap_i64->aM
open Go.RowKit.Below renaming refl->aB
open Go.Value renaming int->bO
open Go.Value.slice renaming injEq->aCd
open Int renaming toNat_natCast->eG
open List renaming getD_eq_getElem?_getD->aV,getElem?_append_left->gS,getElem?_concat_length->AQ,getElem?_drop->gR,getElem?_eq_getElem->aN,getElem?_eq_some_iff->eU,getElem?_map->dY,getElem?_take_of_lt->mB,length_append->aL,length_drop->cI,length_eraseIdx->GJ,length_map->bJ,length_nil->cX,length_singleton->fK,length_take->aX,map_append->fI,map_replicate->xV,map_set->vF,mem_map->dU,mem_of_getElem?->cH,mem_of_mem_drop->xU,mem_of_mem_take->nO,mem_singleton->dC,replicate->bB,take_add_one->cQ,take_length->kE,take_of_length_le->cS
open Nat renaming le_refl->aA,le_trans->aW,zero_le->aU
open Option.some renaming inj->bW,injEq->iP
namespace Go.Proofs.YtmcogmmncfihhaaGreatDoor
open Go.RowKit Go Go.Shelf
theorem wE:El2 Tryz.prog 177 179 32 (.agg #[.int .i64 0,.slice none 0 0]):=El2.mk' (by kernel_rfl) Tryz.underlying177 rfl (by decide)
theorem RX {B:Nat} {w0 w1:World} (h:Below B w0 w1) (hB:B<=w1.heap.size):Below B w0 w1.drew/\B<=w1.drew.heap.size:=⟨h.drew,hB⟩
theorem RY (v:Value) (l:List VV) (f:Nat->Int) (w:World) (hr:kK w v l) (hl:0<l.length) (_hl2:l.length<=1000) (hf:∀(j:Nat) (q:VV),l[j]? =some q->q.1=bO .i64 (f j)):
  Calls Tryz.prog 98 #[v] w fun e w'=>e=.returned (.int .i64 (iV f l.length:Int))/\Below w.heap.size w w':=by
 obtain⟨a,ca,rfl,hca,hma,hA⟩:=hr.open;unfold maxLen at hma;obtain⟨b,off,rfl,hb,hc⟩:=hA hl;have HC:=hid (show ∀j,j<l.length->w.cell? ⟨b,off+j*2,none⟩=some (.int .i64 (f j)) from fun j hj=>by
  have e:=aN hj;rw[(hc j _ e).1,hf j _ e])
 clear hA hc hf hr;go_enter Tryz.func98,Tryz.ntmps98;go_wp2_with fail
 go_loopg [3,4] (l.length-1) (fun g s3 s4 wr=>∃k m:Nat,1<=k/\k<=l.length/\g=l.length-k/\s4=.int .i64 (k:Int)/\s3=.int .i64 (m:Int)/\Hid (m=iV f k)/\m<l.length/\Below w.heap.size w wr)
 case atStart=>exact⟨1,0,aA _,hl,by omega,rfl,rfl,hid (by unfold iV;split<;>rfl),hl,aB _ _⟩
 case round=>
  obtain⟨k,m,hk1,hk,hg,rfl,rfl,HM,hm,hbel⟩:=hrel;have HG:=hid hg;clear hg
  by_cases hlt:k<l.length
  ·have u1:decide ((k:Int)<(l.length:Int))=true:=decide_eq_true (by omega);have c1:=(hbel.cell (p:=⟨b,off+k*2,none⟩) hb).trans (HC.out k hlt);have c2:=(hbel.cell (p:=⟨b,off+m*2,none⟩) hb).trans (HC.out m hm);have hst:iV f (k+1)=if f k<f m then k else m:=by rw[HM.out];rfl
   obtain⟨x,hx⟩:∃x,x=f k:=⟨_,rfl⟩;obtain⟨y,hy⟩:∃y,y=f m:=⟨_,rfl⟩;rw[<-hx] at c1 hst;rw[<-hy] at c2 hst;clear hx hy
   by_cases hxy:x<y
   ·have u2:decide (x<y)=true:=decide_eq_true hxy;rw[if_pos hxy] at hst;have HS:=hid hst.symm;clear hst hxy;go_wp2_with fail
    go_quiet (fail)
    go_wp2_with fail;have hg:=HG.out
    go_roundg (l.length-(k+1))
    case measure=>omega
    case rel=>exact⟨k+1,k,by omega,by omega,rfl,by go_num,rfl,HS,hlt,iI hbel _⟩
   ·have u2:decide (x<y)=false:=decide_eq_false hxy;rw[if_neg hxy] at hst;have HS:=hid hst.symm;clear hst hxy;go_wp2_with fail
    go_quiet (fail)
    go_wp2_with fail;have hg:=HG.out
    go_roundg (l.length-(k+1))
    case measure=>omega
    case rel=>exact⟨k+1,m,by omega,by omega,rfl,by go_num,rfl,HS,hm,iI hbel _⟩
  ·have u1:decide ((k:Int)<(l.length:Int))=false:=decide_eq_false (by omega);have hke:k=l.length:=by omega
   subst hke;go_wp2_with fail;go_ret;exact⟨by rw[<-HM.out];rfl,hbel⟩
theorem RZ {wr w:World} {b off cap:Nat} {l:List VV} (hb:b<wr.heap.size) (hc:∀j q,l[j]? =some q->wr.cell? ⟨b,off+j*2,none⟩=some q.1/\wr.cell? ⟨b,off+j*2+1,none⟩=some q.2) (h:Below wr.heap.size wr w/\wr.heap.size<=w.heap.size)
  (k:Nat) (hk:k<=l.length) (h1:k<=cap) (h2:cap<=maxLen):kK w (.slice (some ⟨b,off,none⟩) k cap) (l.take k):=by
 have hl:(l.take k).length=k:=by rw[aX];omega
 refine .inr ⟨b,off,cap,by rw[hl],by omega,h2,by omega,fun j q hq=>?_⟩;have hj:=(eU.1 hq).1;rw[mB (by omega)] at hq;rw[h.1.cell (p:=⟨b,off+j*2,none⟩) hb,h.1.cell (p:=⟨b,off+j*2+1,none⟩) hb];exact hc j q hq
theorem aHi {wr w:World} {b off cap:Nat} {l:List VV} (hb:b<wr.heap.size) (hc:∀j q,l[j]? =some q->wr.cell? ⟨b,off+j*2,none⟩=some q.1/\wr.cell? ⟨b,off+j*2+1,none⟩=some q.2) (h:Below wr.heap.size wr w/\wr.heap.size<=w.heap.size)
  (k:Nat) (h1:l.length<=cap) (h2:cap<=maxLen):kK w (.slice (some ⟨b,off+k*2,none⟩) (l.length-k) (cap-k)) (l.drop k):=by
 refine .inr ⟨b,off+k*2,cap-k,by rw[cI],by rw[cI];omega,by omega,by omega,fun j q hq=>?_⟩;rw[gR] at hq;rw[h.1.cell (p:=⟨b,off+k*2+j*2,none⟩) hb,h.1.cell (p:=⟨b,off+k*2+j*2+1,none⟩) hb,show off+k*2+j*2=off+(k+j)*2 by omega];exact hc _ q hq
theorem aHj {wr w:World} {b off:Nat} (hb:b<wr.heap.size) (h:Below wr.heap.size wr w/\wr.heap.size<=w.heap.size):kK w (.slice (some ⟨b,off,none⟩) 0 0) []:=
 .inr ⟨b,off,0,rfl,aA _,by simp[maxLen],by omega,fun j q hq=>by simp at hq⟩
theorem SA (v:Value) (l:List VV) (i:Nat) (w:World) (hr:kK w v l) (hi:i<l.length) (hl2:l.length<=1000) (h1:nG l):
  Calls Tryz.prog 99 #[v,.int .i64 (i:Int)] w fun e w'=>∃v',e=.returned v'/\OwP w' w.heap.size 179 v' (l.eraseIdx i)/\Below w.heap.size w w':=by
 obtain⟨a,ca,rfl,hca,hma,hA⟩:=hr.open;have HMA:=hid hma;unfold maxLen at hma;obtain⟨b,off,rfl,hb,hc⟩:=hA (by omega);have HC:=hid hc;have HB:=hid hb;have HO1:=hid (h1.sub (m:=l.take i) (fun q hq=>nO hq));have HO2:=hid (h1.sub (m:=l.drop (i+1)) (fun q hq=>xU hq));have hi1:i<=ca:=by omega
 obtain⟨d,hd⟩:∃d,d=i+1:=⟨_,rfl⟩;rw[<-hd] at HO2;have m1:aI.wrap ((i:Int)+1)=(d:Int):=by rw[aM];omega
 have m2:(i:Int)+1=(d:Int):=by omega
 have m3:aI.wrap (d:Int)=(d:Int):=by rw[aM];omega
 have hi2:d<=l.length:=by omega
 have hi3:(d:Int)<=(l.length:Int):=by omega
 have hi4:(0:Int)<=(d:Int):=by omega
 have hi7:¬d*2=0:=by omega
 have HE:=hid (show l.take i++l.drop d=l.eraseIdx i by rw[hd,List.eraseIdx_eq_take_drop_succ]);clear hd;have hin:(i:Int)<=(ca:Int):=by omega
 have hin0:(0:Int)<=(i:Int):=by omega
 have hd1:i<=l.length:=by omega
 clear hA hc hr h1 hi
 by_cases hcap:ca=d
 ·have hll:l.length=d:=by omega
  have HDN:=hid (show l.drop d=[] from List.drop_of_length_le (by omega));have hsl:∀w,(GN 177 (.slice (some ⟨b,off,none⟩) l.length ca) (some (.int .i64 (d:Int))) none none).run Tryz.prog w=.ok (.slice (some ⟨b,off,none⟩) 0 0) w:=fun W=>by
   simp[go_sem,hcap,hll]
  clear hcap hll;go_enter Tryz.func99,Tryz.ntmps99;go_wp2_with fail
  go_region_held3 (fun w'=>Below w.heap.size w w'/\w.heap.size<=w'.heap.size)
   (first
    |with_reducible assumption
    |with_reducible exact uQ (by assumption) _
    |with_reducible exact wD (by assumption) (by assumption)
    |with_reducible exact RX (aB _ _) (aA _))
   (first
    |(refine CR wE rfl _ _ rfl w.heap.size (.slice none 0 0) [] rfl (OwP.nil _ _ _) (.slice (some ⟨b,off,none⟩) i ca) (l.take i) rfl ?_ ?_ ?_ ?_ ?_;(exact RZ HB.out HC.out (by assumption) i hd1 hi1 HMA.out);(exact HO1.out);(simp only[cX,aX];omega);(exact(show Below w.heap.size w _/\w.heap.size<=_ by assumption).2);intro v1 w1 hown1 hB1 hg1)
    |(refine CR wE rfl _ _ rfl w.heap.size _ ([]++l.take i) rfl (by assumption) (.slice (some ⟨b,off,none⟩) 0 0) [] rfl ?_ ?_ ?_ ?_ ?_;(exact aHj HB.out (by assumption));(exact fun q hq=>by simp at hq);(simp only[aL,cX,aX];omega);(exact(show Below w.heap.size w _/\w.heap.size<=_ by assumption).2);intro v2 w2 hown2 hB2 hg2))
  all_goals
   go_wp2_with fail;go_ret;have hS:Below w.heap.size w w2/\w.heap.size<=w2.heap.size:=by assumption
   refine⟨_,rfl,?_,hS.1⟩;rw[<-HE.out,HDN.out];exact hown2
 ·have hsl:∀w,(GN 177 (.slice (some ⟨b,off,none⟩) l.length ca) (some (.int .i64 (d:Int))) none none).run Tryz.prog w=.ok (.slice (some ⟨b,off+d*2,none⟩) (l.length-d) (ca-d)) w:=fun W=>by
   simp[go_sem,hi3,hcap,iN,hi7]
  go_enter Tryz.func99,Tryz.ntmps99;go_wp2_with fail
  go_region_held3 (fun w'=>Below w.heap.size w w'/\w.heap.size<=w'.heap.size)
   (first
    |with_reducible assumption
    |with_reducible exact uQ (by assumption) _
    |with_reducible exact wD (by assumption) (by assumption)
    |with_reducible exact RX (aB _ _) (aA _))
   (first
    |(refine CR wE rfl _ _ rfl w.heap.size (.slice none 0 0) [] rfl (OwP.nil _ _ _) (.slice (some ⟨b,off,none⟩) i ca) (l.take i) rfl ?_ ?_ ?_ ?_ ?_;(exact RZ HB.out HC.out (by assumption) i hd1 hi1 HMA.out);(exact HO1.out);(simp only[cX,aX];omega);(exact(show Below w.heap.size w _/\w.heap.size<=_ by assumption).2);intro v1 w1 hown1 hB1 hg1)
    |(refine CR wE rfl _ _ rfl w.heap.size _ ([]++l.take i) rfl (by assumption) (.slice (some ⟨b,off+d*2,none⟩) (l.length-d) (ca-d)) (l.drop d) rfl ?_ ?_ ?_ ?_ ?_;(exact aHi HB.out HC.out (by assumption) d hca HMA.out);(exact HO2.out);(simp only[aL,cX,aX,cI];omega);(exact(show Below w.heap.size w _/\w.heap.size<=_ by assumption).2);intro v2 w2 hown2 hB2 hg2))
  all_goals
   go_wp2_with fail;go_ret;have hS:Below w.heap.size w w2/\w.heap.size<=w2.heap.size:=by assumption
   refine⟨_,rfl,?_,hS.1⟩;rw[<-HE.out];exact hown2
theorem qO {w:World} {B B' e e' z z' n n':Nat} {v v':Value} {xs xs':List Value} (h:w.ownsRow B e z v n xs) (h':w.ownsRow B' e' z' v' n' xs') (hne:e≠e'):v.ownBlock=none\/v.ownBlock≠v'.ownBlock:=by
 rcases h.2 with⟨rfl,_⟩|⟨g,cap,cur,rfl,_,hg,_⟩
 ·exact .inl rfl
 ·right
  rcases h'.2 with⟨rfl,_⟩|⟨g',cap',cur',rfl,_,hg',_⟩
  ·intro e;cases e
  ·intro e;have e:some g=some g':=e
   cases e
   rw[hg] at hg'
   injection hg' with hg'
   injection hg' with _ q _
   exact hne q
theorem DF {w:World} {B e e' z' n' b:Nat} {v':Value} {l xs':List Value} (h:Arr w b e l) (h':w.ownsRow B e' z' v' n' xs') (hne:e≠e'):some b≠v'.ownBlock:=by
 rcases h'.2 with⟨rfl,_⟩|⟨g',cap',cur',rfl,_,hg',_⟩
 ·intro e;cases e
 ·intro e;have e:some b=some g':=e
  cases e
  unfold Arr at h;rw[h] at hg'
  injection hg' with hg'
  injection hg' with _ q _
  exact hne q
theorem iL {w:World} {B e z n b:Nat} {v:Value} {xs:List Value} (h:w.ownsRow B e z v n xs) (hb:b<B):v.ownBlock=none\/v.ownBlock≠some b:=by
 rcases hob:v.ownBlock with _|k
 ·exact .inl rfl
 ·have:=(h.lt k hob).1;exact .inr (fun e=>by have:=bW e;omega)
def lvI (t:HT):List Int:=t.leaves.map (fun n:Nat=>((n:Nat):Int))
def TOK (w:World) (B bd:Nat) (l:List VV) (r:bQ):Prop:=
 l.length=r.length/\∀(j:Nat) (q:VV) (p:Int×HT),l[j]? =some q->r[j]? =some p->q.1=.int .i64 p.1/\OwI w B q.2 (lvI p.2)/\(q.2.ownBlock=none\/q.2.ownBlock≠some bd)/\q.2.oneCell'=true
theorem TOK.nil (w:World) (B bd:Nat):TOK w B bd [] []:=⟨rfl,fun j q p h=>by simp at h⟩
theorem TOK.map {w w':World} {B bd bd':Nat} {l:List VV} {r:bQ} (h:TOK w B bd l r) (k:∀(v:Value) (m:List Int),OwI w B v m->(v.ownBlock=none\/v.ownBlock≠some bd)->OwI w' B v m/\(v.ownBlock=none\/v.ownBlock≠some bd')):TOK w' B bd' l r:=
 ⟨h.1,fun j q p hq hp=>by
  obtain⟨h1,h2,h3,h4⟩:=h.2 j q p hq hp;obtain⟨k1,k2⟩:=k _ _ h2 h3;exact⟨h1,k1,k2,h4⟩⟩
theorem TOK.below {w w':World} {B bd:Nat} {l:List VV} {r:bQ} (h:TOK w B bd l r) (hb:Below w.heap.size w w'):TOK w' B bd l r:=h.map (fun _ _ k1 k2=>⟨OwI.below k1 hb (aA _),k2⟩)
theorem TOK.alloc {w:World} {B bd:Nat} {l:List VV} {r:bQ} (h:TOK w B bd l r) (o:Obj):TOK (w.alloc o) B bd l r:=h.map (fun _ _ k1 k2=>⟨OwI.alloc k1 o,k2⟩)
theorem TOK.set {w:World} {B bd:Nat} {l:List VV} {r:bQ} (h:TOK w B bd l r) (i:Nat) (x:Value):TOK (w.setCell ⟨bd,i,none⟩ x) B bd l r:=h.map (fun _ _ k1 k2=>⟨Ow.kept k1 (eM w bd i x) k2,k2⟩)
theorem TOK.snoc {w:World} {B bd:Nat} {l:List VV} {r:bQ} (h:TOK w B bd l r) {q:VV} {p:Int×HT} (h1:q.1=.int .i64 p.1) (h2:OwI w B q.2 (lvI p.2)) (h3:q.2.ownBlock=none\/q.2.ownBlock≠some bd) (h4:q.2.oneCell'=true):TOK w B bd (l++[q]) (r++[p]):=by
 refine⟨by rw[aL,aL,h.1];rfl,fun j q' p' hq hp=>?_⟩
 by_cases hj:j<l.length
 ·rw[gS hj] at hq;rw[gS (by rw[<-h.1];exact hj)] at hp;exact h.2 j q' p' hq hp
 ·have hjl:=(eU.1 hq).1;rw[aL,fK] at hjl;obtain rfl:j=l.length:=by omega
  rw[AQ] at hq;rw[h.1,AQ] at hp;obtain rfl:=bW hq;obtain rfl:=bW hp;exact⟨h1,h2,h3,h4⟩
theorem TOK.erase {w:World} {B bd:Nat} {l:List VV} {r:bQ} (h:TOK w B bd l r) (i:Nat):TOK w B bd (l.eraseIdx i) (r.eraseIdx i):=by
 refine⟨by rw[GJ,GJ,h.1],fun j q p hq hp=>?_⟩;rw[List.getElem?_eraseIdx] at hq hp;split at hq
 ·next k=>rw[if_pos k] at hp;exact h.2 _ _ _ hq hp
 ·next k=>rw[if_neg k] at hp;exact h.2 _ _ _ hq hp
theorem TOK.one {w:World} {B bd:Nat} {l:List VV} {r:bQ} (h:TOK w B bd l r):nG l:=fun q hq=>by
 obtain⟨j,hj⟩:=List.mem_iff_getElem?.1 hq;have hjl:=(eU.1 hj).1;obtain⟨h1,_,_,h4⟩:=h.2 j q _ hj (aN (by rw[<-h.1];exact hjl));exact⟨by rw[h1];rfl,h4⟩
theorem TOK.fst {w:World} {B bd:Nat} {l:List VV} {r:bQ} (h:TOK w B bd l r):∀(j:Nat) (q:VV),l[j]? =some q->q.1=bO .i64 ((fun i=>(r.getD i (0,.leaf 0)).1) j):=fun j q hj=>by
 have hjl:=(eU.1 hj).1;have hjr:j<r.length:=by rw[<-h.1];exact hjl
 have hr:r[j]? =some r[j]:=aN hjr;rw[(h.2 j q _ hj hr).1];show _=bO .i64 (r.getD j (0,.leaf 0)).1;rw[aV,hr];rfl
theorem SJ:∀{l:List Int},(∀x∈l,0<=x)->0<=l.sum/\∀x∈l,x<=l.sum
 |[],_=>⟨by simp,fun x hx=>by simp at hx⟩
 |y::l,h=>by
  obtain⟨h1,h2⟩:=SJ (l:=l) (fun x hx=>h x (List.mem_cons_of_mem _ hx));have hy:=h y (List.mem_cons_self ..);rw[List.sum_cons];refine⟨by omega,fun x hx=>?_⟩;rcases List.mem_cons.1 hx with rfl|hx
  ·omega
  ·have:=h2 x hx;omega
theorem SK (ws:List Int) (h1:∀x∈ws,1<=x) (t:Nat) (ht:t<ws.length):∀p∈bP ws t,1<=p.1/\p.1<=ws.sum:=fun p hp=>by
 obtain⟨he,hs⟩:=rO.all ws h1 t ht;have hpos:∀p∈bP ws t,1<=p.1:=fun p hp=>by rw[he.wt p hp];exact HT.wt_pos p.2 (he.even p hp)
 refine⟨hpos p hp,?_⟩;rw[<-hs];refine(SJ (fun x hx=>?_)).2 _ (dU.2 ⟨p,hp,rfl⟩);obtain⟨q,hq,rfl⟩:=dU.1 hx;have:=hpos q hq;omega
theorem SM {ws:List Int} {k:Nat} {x:Int} (h:ws[k]? =some x):bP (ws.take (k+1)) 0=bP (ws.take k) 0++[(x,.leaf k)]:=by
 have hk:=(eU.1 h).1;have hl:(ws.take k).length=k:=by rw[aX];omega
 show((ws.take (k+1)).zipIdx.map _)=_;rw[cQ,h,Option.toList_some,List.zipIdx_append,fI,hl];simp[bP]
theorem TOK.app {W w4:World} {B B' bd bd':Nat} {v3:Value} {l l':List VV} {r:bQ} (h:TOK W B bd l r) (hP:OwP W B' 179 v3 l') (hg:W.grownBy w4 v3.ownBlock) (hb:bd'=bd\/W.heap.size<=bd'):TOK w4 B bd' l r:=
 h.map (fun v m k1 k2=>⟨Ow.kept k1 hg (qO k1 hP (by decide)),by
  rcases hb with rfl|hb
  ·exact k2
  ·rcases hob:v.ownBlock with _|k
   ·exact .inl rfl
   ·have:=(Ow.lt k1 k hob).2;exact .inr (fun e=>by have:=bW e;omega)⟩)
theorem aHp {w1 w2:World} {p1 p2:Addr} {v1 v2:Value} {B:Nat} {w0:World} (h:w1.cell? p1=some v1/\w1.cell? p2=some v2/\Below B w0 w1/\B<=w1.heap.size) (hb:Below w1.heap.size w1 w2):
  w2.cell? p1=some v1/\w2.cell? p2=some v2/\Below B w0 w2/\B<=w2.heap.size:=by
 obtain⟨h1,h2,h6,h7⟩:=h;have k:∀{p:Addr} {v:Value},w1.cell? p=some v->w2.cell? p=some v:=fun{p} {v} hp=>(hb.cell (World.block_lt_of_cell? w1 p hp)).trans hp
 exact⟨k h1,k h2,h6.trans (hb.mono h7),aW h7 hb.size⟩
theorem aHq {w1 w2:World} {b1 o1 b2 o2:Nat} {v1 v2:Value} {B:Nat} {w0:World} (h:w1.cell? ⟨b1,o1,none⟩=some v1/\w1.cell? ⟨b2,o2,none⟩=some v2/\Below B w0 w1/\B<=w1.heap.size) (hb:Below B w1 w2) (k1:b1<B) (k2:b2<B):
  w2.cell? ⟨b1,o1,none⟩=some v1/\w2.cell? ⟨b2,o2,none⟩=some v2/\Below B w0 w2/\B<=w2.heap.size:=by
 obtain⟨h1,h2,h6,h7⟩:=h;exact⟨(hb.cell (p:=⟨b1,o1,none⟩) k1).trans h1,(hb.cell (p:=⟨b2,o2,none⟩) k2).trans h2,h6.trans hb,aW h7 hb.size⟩
theorem SR {P1 P2:Prop} {B B0:Nat} {w0 w':World} {v:Value} {m:List Int} (e:OwI w0 B0 v m) (hB:w0.heap.size<=B) (h:P1/\P2/\Below B w0 w'/\B<=w'.heap.size):pQ w' v m:=OwI.src (OwI.below e h.2.2.1 hB)
theorem SS {P1 P2:Prop} {B:Nat} {w0 w':World} (h:P1/\P2/\Below B w0 w'/\B<=w'.heap.size):B<=w'.heap.size:=h.2.2.2
theorem aHr (v:Value) (ws:List Int) (w:World) (hr:RdI w v ws) (h2:2<=ws.length) (h258:ws.length<=258) (h1:∀x∈ws,1<=x) (hs:ws.sum<28657):
  Calls Tryz.prog 88 #[v] w fun e w'=>∃v',e=.returned v'/\OwI w' w.heap.size v' (kL ws)/\Below w.heap.size w w':=by
 have HWT:=hid (SK ws h1);have hsum:=hid hs;obtain⟨a,ca,rfl,hca,hma,hA⟩:=hr.open;unfold maxLen at hma;obtain⟨b,off,rfl,hb,hc⟩:=hA (by omega);have HC:=hid hc;clear hA hc hr h1 hs;go_enter Tryz.func88,Tryz.ntmps88;go_wp2_with fail
 go_loopg [3,4] ws.length (fun g s3 s4 wr=>∃(k:Nat) (v3:Value) (l:List VV),k<=ws.length/\g=ws.length-k/\v3=s3/\s4=.int .i64 (k:Int)/\OwP wr w.heap.size 179 v3 l/\TOK wr w.heap.size wr.heap.size l (bP (ws.take k) 0)/\Below w.heap.size w wr)
 case atStart=>exact⟨0,_,[],aU _,rfl,rfl,rfl,OwP.nil _ _ _,TOK.nil _ _ _,aB _ _⟩
 case round=>
  obtain⟨k,v3,l,hk,hg,rfl,rfl,ho,ht,hbel⟩:=hrel;have HG:=hid hg;clear hg;have hsz:=hbel.size;have hll:l.length=k:=by rw[ht.1];show((ws.take k).zipIdx.map _).length=k;rw[bJ,List.length_zipIdx,aX];omega
  by_cases hlt:k<ws.length
  ·have u1:decide ((k:Int)<(ws.length:Int))=true:=decide_eq_true (by omega);obtain⟨x,hx⟩:=dH hlt;have c1:=(hbel.cell (p:=⟨b,off+k,none⟩) hb).trans (HC.out k x hx);have HT:=hid (SM hx);have hO:OwI (wr.alloc (.cells #[.int .i64 (k:Int)] 3)) w.heap.size (.slice (some ⟨wr.heap.size,0,none⟩) 1 1) (lvI (.leaf k)):=(Arr.new wr 3 [.int .i64 (k:Int)]).own hsz (by simp[maxLen]);have hP:=ho.alloc (.cells #[.int .i64 (k:Int)] 3);have hT:=(ht.alloc (.cells #[.int .i64 (k:Int)] 3));have hB1:=hbel.alloc (o:=.cells #[.int .i64 (k:Int)] 3) hsz
   have hz1:(wr.alloc (.cells #[.int .i64 (k:Int)] 3)).heap.size=wr.heap.size+1:=by simp
   clear hx;have hSP:=kK.new (wr.alloc (.cells #[.int .i64 (k:Int)] 3)) 179 (.int .i64 x,.slice (some ⟨wr.heap.size,0,none⟩) 1 1);rw[hz1] at hSP;have hO:=OwI.alloc hO (.cells #[.int .i64 x,.slice (some ⟨wr.heap.size,0,none⟩) 1 1] 179);have hP:=hP.alloc (.cells #[.int .i64 x,.slice (some ⟨wr.heap.size,0,none⟩) 1 1] 179);have hT:=hT.alloc (.cells #[.int .i64 x,.slice (some ⟨wr.heap.size,0,none⟩) 1 1] 179);have hB1:=hB1.alloc (o:=.cells #[.int .i64 x,.slice (some ⟨wr.heap.size,0,none⟩) 1 1] 179) (by omega)
   have hz2:((wr.alloc (.cells #[.int .i64 (k:Int)] 3)).alloc (.cells #[.int .i64 x,.slice (some ⟨wr.heap.size,0,none⟩) 1 1] 179)).heap.size=wr.heap.size+1+1:=by simp
   clear ho ht;go_wp2_with (at_builtin;refine RL wE rfl _ _ rfl w.heap.size _ l rfl hP _ [(.int .i64 x,.slice (some ⟨wr.heap.size,0,none⟩) 1 1)] rfl hSP (fun q hq=>by obtain rfl:=dC.1 hq;exact⟨rfl,rfl⟩) ?_ ?_ ?_;(simp only[List.length_cons,cX];omega);(simp;omega);intro v4 w4 r1 r2 r3);have hg:=HG.out;have hsz4:=r3.size
   go_roundg (ws.length-(k+1))
   case measure=>omega
   case rel=>
    refine⟨k+1,_,_,by omega,rfl,rfl,by go_num,r1,?_,hB1.trans r2⟩;rw[HT.out];refine TOK.snoc (hT.app hP r3 (.inr hsz4)) rfl (Ow.kept hO r3 (qO hO hP (by decide))) ?_ rfl;exact .inr (fun e=>by have e:wr.heap.size=w4.heap.size:=bW e;omega)
  ·have u1:decide ((k:Int)<(ws.length:Int))=false:=decide_eq_false (by omega);have hke:k=ws.length:=by omega
   subst hke;rw[kE] at ht;have hB:=hid (show w.heap.size<=wr.heap.size from hsz);go_wp2_with (at_make;refine mkA gL rfl _ _ rfl ws.length rfl rfl ?_ ?_;omega);have hD:=Arr.made wr 3 (.int .i64 0) ws.length;have hP:=ho.alloc (.cells (fB (.int .i64 0) ws.length) 3);have hT:=ht.alloc (.cells (fB (.int .i64 0) ws.length) 3);have hB1:=hbel.alloc (o:=.cells (fB (.int .i64 0) ws.length) 3) hsz;have hz1:(wr.alloc (.cells (fB (.int .i64 0) ws.length) 3)).heap.size=wr.heap.size+1:=by simp
   have hD0:bB ws.length (bO .i64 0)=(gO ws 0).map (bO .i64):=by show _=(bB ws.length (0:Int)).map _;rw[xV]
   rw[hD0] at hD;change Arr (wr.alloc (.cells (fB (.int .i64 0) ws.length) 3)) _ _ _ at hD;generalize wr.alloc (.cells (fB (.int .i64 0) ws.length) 3)=w1 at*
   obtain⟨bd,hbd⟩:∃bd,bd=wr.heap.size:=⟨_,rfl⟩;rw[<-hbd] at hD hz1 hT hsz ⊢;clear ho ht hbel hbd hD0 HG
   go_loopg [3,6,7,8,9,10,11] (ws.length-1) (fun g s3 _s6 _s7 _s8 _s9 _s10 _s11 wr=>∃(t:Nat) (v3:Value) (l:List VV),t<ws.length/\g=ws.length-1-t/\v3=s3/\OwP wr w.heap.size 179 v3 l/\TOK wr w.heap.size bd l (bP ws t)/\Arr wr bd 3 ((gO ws t).map (bO .i64))/\Below w.heap.size w wr/\bd<wr.heap.size)
   case atStart=>exact⟨0,_,l,by omega,rfl,rfl,hP,hT,hD,hB1,by omega⟩
   case round=>
    clear hP hT hD hB1 hz1;obtain⟨t,v3,l,htl,hg,rfl,hP,hT,hD,hbel,hbd⟩:=hrel;have HG:=hid hg;clear hg;have hrl:=pR ws t htl;have HLL:=hid hT.1;have hll:l.length+t=ws.length:=by have:=HLL.out;omega
    have hsz:=hbel.size;clear hrl
    by_cases hlt:t+1<ws.length
    ·obtain⟨a3,c3,rfl,hn3,hm3,hA3⟩:=hP.src.open;obtain⟨b3,o3,rfl,hb3,hc3⟩:=hA3 (by omega);have u1:decide ((l.length:Int)>1)=true:=decide_eq_true (by omega);have u2:decide (1<(l.length:Int))=true:=decide_eq_true (by omega);have u3:1<l.length:=by omega
     have hle:=RY (.slice (some ⟨b3,o3,none⟩) l.length c3) l _ wr hP.src (by omega) (by omega) hT.fst;obtain⟨i0,hi0⟩:∃i0,i0=bQ.least (bP ws t):=⟨_,rfl⟩;rw[HLL.out,show iV (fun i=>((bP ws t).getD i (0,.leaf 0)).1) (bP ws t).length=i0 from hi0.symm,<-HLL.out] at hle;have hiL:i0<l.length:=by rw[hi0,HLL.out];exact(yN _ _ (by rw[<-HLL.out];omega)).1
     have HI0:=hid hi0;obtain⟨q0,hq0⟩:∃q0,l[i0]? =some q0:=⟨_,aN hiL⟩;obtain⟨p0,hp0⟩:∃p0,(bP ws t)[i0]? =some p0:=⟨_,aN (by rw[<-HLL.out];exact hiL)⟩;have hpop0:bM (bP ws t)=(p0,(bP ws t).eraseIdx i0):=by
      unfold bM;rw[<-hi0,aV,hp0];rfl
     obtain⟨e01,e02,e03,e04⟩:=hT.2 i0 q0 p0 hq0 hp0;obtain⟨x0,h0v⟩:∃x0:Value,q0.2=x0:=⟨_,rfl⟩;rw[h0v] at e02 e03 e04;have hw0:=HWT.out t htl p0 (cH hp0);obtain⟨c00,c01⟩:=hc3 i0 q0 hq0;rw[e01] at c00;rw[h0v] at c01;have HPOP:=hid hpop0;clear hA3 hc3 hi0 hq0 hp0 hpop0 e01 h0v;go_wp2_with fail;refine hle.mono ?_;rintro e w2 ⟨rfl,hb2⟩;have c00:=(hb2.cell (p:=⟨b3,o3+i0*2,none⟩) hb3).trans c00;have c01:=(hb2.cell (p:=⟨b3,o3+i0*2+1,none⟩) hb3).trans c01;have hP:=hP.below hb2 (aA _);have hT:=hT.below hb2;have hD:=hD.below hb2 hbd;have hbel:=bV hbel hb2
     have hbd:=Nat.lt_of_lt_of_le hbd hb2.size;have e02:=OwI.below e02 hb2 (aA _);obtain⟨a0,ca0,rfl,_,_,_⟩:=(OwI.rd e02).open;obtain⟨n0,hn0⟩:∃n0,(lvI p0.2).length=n0:=⟨_,rfl⟩;rw[hn0] at e02 e03 e04 c01;clear hle hb2 hn0;have hsz2:=hbel.size;go_wp2_with fail;have hX0:=Arr.new w2 179 [.int .i64 p0.1,.slice a0 n0 ca0];have hP:=hP.alloc (.cells #[.int .i64 p0.1,.slice a0 n0 ca0] 179);have hT:=hT.alloc (.cells #[.int .i64 p0.1,.slice a0 n0 ca0] 179);have hD:=hD.alloc (.cells #[.int .i64 p0.1,.slice a0 n0 ca0] 179);have e02:=OwI.alloc e02 (.cells #[.int .i64 p0.1,.slice a0 n0 ca0] 179)
     have hbel:=hbel.alloc (o:=.cells #[.int .i64 p0.1,.slice a0 n0 ca0] 179) hsz2;have hz3:(w2.alloc (.cells #[.int .i64 p0.1,.slice a0 n0 ca0] 179)).heap.size=w2.heap.size+1:=by simp
     change Arr (w2.alloc (.cells #[.int .i64 p0.1,.slice a0 n0 ca0] 179)) _ _ _ at hX0;generalize w2.alloc (.cells #[.int .i64 p0.1,.slice a0 n0 ca0] 179)=w3 at*
     obtain⟨y0,hy0⟩:∃y0,y0=w2.heap.size:=⟨_,rfl⟩;rw[<-hy0] at hX0 hz3 hbd hsz2 ⊢;clear hy0;refine(SA (.slice (some ⟨b3,o3,none⟩) l.length c3) l i0 w3 hP.src hiL (by omega) hT.one).mono ?_;rintro e w4 ⟨v4,rfl,hP4,hb4⟩;have hs4:=hb4.size;have hT:=(hT.below hb4).erase i0;have hD:=hD.below hb4 (by omega);have hX0:=hX0.below hb4 (by omega);have e02:=OwI.below e02 hb4 (aA _);have hbel:=hbel.trans (hb4.mono (by omega));have hP:=OwP.base hP4 (show w.heap.size<=w3.heap.size by omega);have hl1:(l.eraseIdx i0).length+1=l.length:=by rw[GJ,if_pos hiL];omega
     obtain⟨l1,hl1e⟩:∃l1,l1=l.eraseIdx i0:=⟨_,rfl⟩;obtain⟨r1,hr1e⟩:∃r1,r1=(bP ws t).eraseIdx i0:=⟨_,rfl⟩;have hr1sub:∀p∈r1,p∈bP ws t:=fun p hp=>by rw[hr1e] at hp;exact(List.eraseIdx_sublist ..).subset hp
     rw[<-hl1e] at hT hP hl1;rw[<-hr1e] at hT HPOP;clear hP4 hb4 hl1e hr1e c00 c01;have HLL1:=hid hT.1;obtain⟨a3',c3',rfl,hn3',hm3',hA3'⟩:=hP.src.open;obtain⟨b4,o4,rfl,hb4l,hc4⟩:=hA3' (by omega);have hle:=RY (.slice (some ⟨b4,o4,none⟩) l1.length c3') l1 _ w4 hP.src (by omega) (by omega) hT.fst;obtain⟨i1,hi1⟩:∃i1,i1=bQ.least r1:=⟨_,rfl⟩;rw[HLL1.out,show iV (fun i=>(r1.getD i (0,.leaf 0)).1) r1.length=i1 from hi1.symm,<-HLL1.out] at hle;have hiL1:i1<l1.length:=by rw[hi1,HLL1.out];exact(yN _ _ (by rw[<-HLL1.out];omega)).1
     obtain⟨q1,hq1⟩:∃q1,l1[i1]? =some q1:=⟨_,aN hiL1⟩;obtain⟨p1,hp1⟩:∃p1,r1[i1]? =some p1:=⟨_,aN (by rw[<-HLL1.out];exact hiL1)⟩;have hpop1:bM r1=(p1,r1.eraseIdx i1):=by
      unfold bM;rw[<-hi1,aV,hp1];rfl
     obtain⟨e11,e12,e13,e14⟩:=hT.2 i1 q1 p1 hq1 hp1;obtain⟨x1,h1v⟩:∃x1:Value,q1.2=x1:=⟨_,rfl⟩;rw[h1v] at e12 e13 e14;have hw1:=HWT.out t htl p1 (hr1sub p1 (cH hp1));obtain⟨c10,c11⟩:=hc4 i1 q1 hq1;rw[e11] at c10;rw[h1v] at c11;have HPOP1:=hid hpop1;clear hA3' hc4 hi1 hq1 hp1 hpop1 e11 h1v hr1sub;go_wp2_with fail;refine hle.mono ?_;rintro e w5 ⟨rfl,hb5⟩;have hs5:=hb5.size;have c10:=(hb5.cell (p:=⟨b4,o4+i1*2,none⟩) hb4l).trans c10;have c11:=(hb5.cell (p:=⟨b4,o4+i1*2+1,none⟩) hb4l).trans c11;have hP:=hP.below hb5 (aA _);have hT:=hT.below hb5
     have hD:=hD.below hb5 (by omega);have hX0:=hX0.below hb5 (by omega);have hbel:=hbel.trans (hb5.mono (by omega));have e02:=OwI.below e02 hb5 (aA _);have e12:=OwI.below e12 hb5 (aA _);obtain⟨a1,ca1,rfl,_,_,_⟩:=(OwI.rd e12).open;obtain⟨n1,hn1⟩:∃n1,(lvI p1.2).length=n1:=⟨_,rfl⟩;rw[hn1] at e12 e13 e14 c11;clear hle hb5 hn1;go_wp2_with fail;have hX1:=Arr.new w5 179 [.int .i64 p1.1,.slice a1 n1 ca1];have hP:=hP.alloc (.cells #[.int .i64 p1.1,.slice a1 n1 ca1] 179);have hT:=hT.alloc (.cells #[.int .i64 p1.1,.slice a1 n1 ca1] 179)
     have hD:=hD.alloc (.cells #[.int .i64 p1.1,.slice a1 n1 ca1] 179);have hX0:=hX0.alloc (.cells #[.int .i64 p1.1,.slice a1 n1 ca1] 179);have e02:=OwI.alloc e02 (.cells #[.int .i64 p1.1,.slice a1 n1 ca1] 179);have e12:=OwI.alloc e12 (.cells #[.int .i64 p1.1,.slice a1 n1 ca1] 179);have hbel:=hbel.alloc (o:=.cells #[.int .i64 p1.1,.slice a1 n1 ca1] 179) (by omega);have hz6:(w5.alloc (.cells #[.int .i64 p1.1,.slice a1 n1 ca1] 179)).heap.size=w5.heap.size+1:=by simp
     change Arr (w5.alloc (.cells #[.int .i64 p1.1,.slice a1 n1 ca1] 179)) _ _ _ at hX1;generalize w5.alloc (.cells #[.int .i64 p1.1,.slice a1 n1 ca1] 179)=w6 at*
     obtain⟨y1,hy1⟩:∃y1,y1=w5.heap.size:=⟨_,rfl⟩;rw[<-hy1] at hX1 hz6 hs5 ⊢;clear hy1;refine(SA (.slice (some ⟨b4,o4,none⟩) l1.length c3') l1 i1 w6 hP.src hiL1 (by omega) hT.one).mono ?_;rintro e w7 ⟨v5,rfl,hP5,hb7⟩;have hs7:=hb7.size;have hT:=(hT.below hb7).erase i1;have hD:=hD.below hb7 (by omega);have hX0:=hX0.below hb7 (by omega);have hX1:=hX1.below hb7 (by omega);have e02:=OwI.below e02 hb7 (aA _);have e12:=OwI.below e12 hb7 (aA _);have hbel:=hbel.trans (hb7.mono (by omega));have hP:=OwP.base hP5 (show w.heap.size<=w6.heap.size by omega)
     have hl2:(l1.eraseIdx i1).length+1=l1.length:=by rw[GJ,if_pos hiL1];omega
     obtain⟨l2,hl2e⟩:∃l2,l2=l1.eraseIdx i1:=⟨_,rfl⟩;rw[<-hl2e] at hT hP hl2;have HAll:=hid (show lG ws t=p0.2.leaves++p1.2.leaves by unfold lG;rw[HPOP.out];show _++(bM r1).1.2.leaves=_;rw[HPOP1.out]);have bQ:=hid (show bP ws (t+1)=r1.eraseIdx i1++[(p0.1+p1.1,.node (ws.length+t) p0.2 p1.2)] by
      show nH (ws.length+t) (bP ws t)=_;unfold nH;rw[HPOP.out];show(bM r1).2++[(p0.1+(bM r1).1.1,.node _ p0.2 (bM r1).1.2)]=_;rw[HPOP1.out])
     have hAL:=(KF ws t hlt).2.2;have hlv:(lvI p0.2).length+(lvI p1.2).length<=258:=by
      rw[HAll.out,aL] at hAL;unfold lvI;rw[bJ,bJ];omega
     have d01:=hX0.cell (i:=1) rfl;have d11:=hX1.cell (i:=1) rfl;obtain⟨B,hBe⟩:∃B,B=w7.heap.size:=⟨_,rfl⟩;rw[<-hBe] at hs7;have hBle:w7.heap.size<=B:=by omega
     have hy0B:y0<B:=by omega
     have hy1B:y1<B:=by omega
     have hS0:w7.drew.cell? ⟨y0,1,none⟩=some (.slice a0 n0 ca0)/\w7.drew.cell? ⟨y1,1,none⟩=some (.slice a1 n1 ca1)/\Below B w7 w7.drew/\B<=w7.drew.heap.size:=⟨d01,d11,(aB B w7).drew,by show B<=w7.heap.size;omega⟩;clear hP5 hb7 hl2e c10 c11 d01 d11;go_wp2_with fail
     go_region_held3 (fun w'=>w'.cell? ⟨y0,1,none⟩=some (.slice a0 n0 ca0)/\w'.cell? ⟨y1,1,none⟩=some (.slice a1 n1 ca1)/\Below B w7 w'/\B<=w'.heap.size)
      (first
       |with_reducible assumption
       |with_reducible exact aHp (by assumption) (by assumption)
       |with_reducible exact aHq (by assumption) (by assumption) hy0B hy1B)
      (first
       |(refine JW rfl _ _ rfl B (.slice none 0 0) [] rfl (OwI.nil _ _) (.slice a0 n0 ca0) (lvI p0.2) rfl (SR e02 hBle (by assumption)) ?_ ?_ ?_;(simp only[cX];omega);(exact SS (by assumption));intro v8 w8 o8 b8 g8)
       |(refine JW rfl _ _ rfl B _ ([]++lvI p0.2) rfl (by assumption) (.slice a1 n1 ca1) (lvI p1.2) rfl (SR e12 hBle (by assumption)) ?_ ?_ ?_;(simp only[aL,cX];omega);(exact SS (by assumption));intro v9 w9 o9 b9 g9))
     have hS9:=(show w9.cell? ⟨y0,1,none⟩=some (.slice a0 n0 ca0)/\w9.cell? ⟨y1,1,none⟩=some (.slice a1 n1 ca1)/\Below B w7 w9/\B<=w9.heap.size by assumption);have hb9:=hS9.2.2.1;have hs9:=hS9.2.2.2;have hT:=(hT.below (hb9.mono hBle));have hD:=hD.below hb9 (by omega);have hX0:=hX0.below hb9 hy0B;have hX1:=hX1.below hb9 hy1B;have hbel:=hbel.trans (hb9.mono (by omega));have hP:=hP.below hb9 hBle;have HNode:=hid (show lvI (.node (ws.length+t) p0.2 p1.2)=(lG ws t).map (fun n:Nat=>((n:Nat):Int)) by rw[HAll.out];rfl);have o9:OwI w9 B v9 (lvI (.node (ws.length+t) p0.2 p1.2)):=by
      have e:lvI (.node (ws.length+t) p0.2 p1.2)=([]++lvI p0.2)++lvI p1.2:=by
       show(p0.2.leaves++p1.2.leaves).map _=_;rw[fI];rfl
      rw[e];exact o9
     rw[HNode.out] at o9;obtain⟨AL,hALe⟩:∃AL,AL=lG ws t:=⟨_,rfl⟩;rw[<-hALe] at o9 hAL HNode;have HALE:=hid hALe;have hstep:=fun(j y:Nat) (h:AL[j]? =some y)=>aHo ws t hlt (j:=j) (y:=y) (by rw[<-hALe];exact h)
     rw[<-hALe] at hstep;have HST:=hid hstep;obtain⟨a9,c9,rfl,hn9,hm9,hA9⟩:=(OwI.rd o9).open;have hall:(AL.map (fun n:Nat=>((n:Nat):Int))).length=AL.length:=bJ ..;rw[hall] at hn9 hA9 o9;rw[hall];clear e02 e12 hS9 hS0 hall hstep hALe o8 b8 g8 b9 g9;go_wp2_with fail
     go_loopg [11] AL.length (fun g s11 wy=>∃j:Nat,j<=AL.length/\g=AL.length-j/\s11=.int .i64 (j:Int)/\Arr wy bd 3 ((jJ (gO ws t) (AL.take j)).map (bO .i64))/\w9.grownBy wy (some bd))
     case atStart=>exact⟨0,aU _,rfl,rfl,hD,⟨rfl,rfl,rfl,aA _,fun _ _ _=>rfl⟩⟩
     case round=>
      obtain⟨j,hj,hg,rfl,hDy,hgr⟩:=hrel;have HG3:=hid hg;clear hg
      by_cases hjl:j<AL.length
      ·have v1:decide ((j:Int)<(AL.length:Int))=true:=decide_eq_true (by omega);obtain⟨y,hy⟩:∃y,AL[j]? =some y:=⟨_,aN hjl⟩;obtain⟨hyl,d,hd,hd0,hd1,hnext⟩:=HST.out j y hy;obtain⟨b9,o9',rfl,hb9l,hc9⟩:=hA9 (by omega);have hk9:=(Ow.lt o9 b9 rfl).1;have c1:=(show wr.cell? ⟨b9,o9'+j,none⟩=w9.cell? ⟨b9,o9'+j,none⟩ from World.cell?_of_block (w:=w9) (hgr.block b9 hb9l (by simp only[ne_eq,iP];omega))).trans (hc9 j (y:Int) (by rw[dY,hy];rfl));have c2:=hDy.cell (i:=y) (v:=.int .i64 d) (by rw[dY,hd];rfl);have f2:=hDy.free y
       have v2:((y:Nat):Int)<(ws.length:Int):=by omega
       have v3:aI.wrap (d+1)=d+1:=by rw[aM];omega
       have HN:=hid hnext;clear hy hd hc9 hnext;go_wp2_with fail
       go_region
       all_goals go_wp2_with fail
       have hg3:=HG3.out
       go_roundg (AL.length-(j+1))
       case measure=>omega
       case rel=>
        refine⟨j+1,by omega,rfl,by go_num,?_,nC (dS hgr (eM _ _ _ _))⟩;have:=hDy.set y (.int .i64 (d+1));rw[<-vF,<-HN.out] at this;exact this
      ·have v1:decide ((j:Int)<(AL.length:Int))=false:=decide_eq_false (by omega);have hje:j=AL.length:=by omega
       subst hje;rw[kE,HALE.out,<-SP] at hDy;have hne0:some y0≠some bd:=by simp only[ne_eq,iP];omega
       have hne1:some y1≠some bd:=by simp only[ne_eq,iP];omega
       have hX0:=hX0.grown hgr hne0;have hX1:=hX1.grown hgr hne1;have hP:=hP.kept hgr (.inr (DF hD hP (by decide)).symm);have hT:=hT.map (fun v m k1 k2=>⟨Ow.kept k1 hgr k2,k2⟩);have o9:OwI wr B (.slice a9 AL.length c9) (AL.map (fun n:Nat=>((n:Nat):Int))):=Ow.kept o9 hgr (iL o9 (by omega));have hbel:=hbel.grown hgr (by omega) (fun k hk=>by obtain rfl:=bW hk;omega);have hszr:=hgr.size;have c00:=hX0.cell (i:=0) rfl;have c10:=hX1.cell (i:=0) rfl;have m1:aI.wrap (p0.1+p1.1)=p0.1+p1.1:=by have:=hsum.out;rw[aM];omega
       have hSP:=kK.new wr 179 (.int .i64 (p0.1+p1.1),.slice a9 AL.length c9);have hPa:=hP.alloc (.cells #[.int .i64 (p0.1+p1.1),.slice a9 AL.length c9] 179);have hTa:=hT.alloc (.cells #[.int .i64 (p0.1+p1.1),.slice a9 AL.length c9] 179);have hDa:=hDy.alloc (.cells #[.int .i64 (p0.1+p1.1),.slice a9 AL.length c9] 179);have o9a:=OwI.alloc o9 (.cells #[.int .i64 (p0.1+p1.1),.slice a9 AL.length c9] 179);have hbela:=hbel.alloc (o:=.cells #[.int .i64 (p0.1+p1.1),.slice a9 AL.length c9] 179) (by omega)
       have hza:(wr.alloc (.cells #[.int .i64 (p0.1+p1.1),.slice a9 AL.length c9] 179)).heap.size=wr.heap.size+1:=by simp
       have hroom:(l2.length+1)*32<=140737488355328:=by omega
       clear hP hT hDy hD hX0 hX1 hbel hA9 HST;go_wp2_with (at_builtin;refine RL wE rfl _ _ rfl w.heap.size _ l2 rfl hPa _ [(.int .i64 (p0.1+p1.1),.slice a9 AL.length c9)] rfl hSP (fun q hq=>by obtain rfl:=dC.1 hq;exact⟨rfl,rfl⟩) ?_ ?_ ?_;(exact hroom);(omega);intro v10 w10 r1' r2 r3);have r3':(wr.alloc (.cells #[.int .i64 (p0.1+p1.1),.slice a9 AL.length c9] 179)).grownBy w10 v5.ownBlock:=r3;have hs10:=r3'.size;have hg:=HG.out
       go_roundg (ws.length-1-(t+1))
       case measure=>omega
       case rel=>
        refine⟨t+1,_,_,hlt,rfl,rfl,r1',?_,hDa.grown r3' (DF hDa hPa (by decide)),hbela.trans r2,by omega⟩;rw[bQ.out];refine TOK.snoc (hTa.app hPa r3' (.inl rfl)) rfl ?_ ?_ rfl
        ·rw[HNode.out];exact Ow.base (Ow.kept o9a r3' (qO o9a hPa (by decide))) (by omega)
        ·exact iL o9 (by omega)
    ·have u1:decide ((l.length:Int)>1)=false:=decide_eq_false (by omega);have u2:decide (1<(l.length:Int))=false:=decide_eq_false (by omega);have u3:¬1<l.length:=by omega
     have ht1:t=ws.length-1:=by omega
     have hjl:kL ws=gO ws t:=by rw[ht1];rfl
     have hDl:((gO ws t).map (bO .i64)).length=ws.length:=by rw[bJ,rN]
     have ho:=hD.own (B:=w.heap.size) (by omega) (by rw[hDl];simp only[maxLen];omega);rw[hDl,<-hjl] at ho;obtain⟨a3,c3,rfl,hn3,hm3,hA3⟩:=hP.src.open;clear hA3 ht1 hjl;go_wp2_with fail;go_ret;exact⟨_,rfl,ho,hbel⟩
theorem aH6 (v:Value) (l:List Int) (w:World) (hr:RdI w v l) (hb:∀x∈l,0<=x/\x<=1048576):
  Calls Tryz.prog 87 #[v] w fun e w'=>e=.returned (.bool true)/\w'=w:=by
 obtain⟨a,ca,rfl,hca,hma,hA⟩:=hr.open;unfold maxLen at hma;have HB:=hid hb;clear hb hr;go_enter Tryz.func87,Tryz.ntmps87;go_wp2_with fail
 go_loopg [3] l.length (fun g s3 wr=>∃k:Nat,k<=l.length/\g=l.length-k/\s3=.int .i64 (k:Int)/\wr=w)
 case atStart=>exact⟨0,aU _,rfl,rfl,rfl⟩
 case round=>
  obtain⟨k,hk,hg,rfl,rfl⟩:=hrel;have HG:=hid hg;clear hg
  by_cases hlt:k<l.length
  ·have u1:decide ((k:Int)<(l.length:Int))=true:=decide_eq_true (by omega);obtain⟨b,off,rfl,hb,hc⟩:=hA (by omega);obtain⟨x,hx⟩:=dH hlt;have c1:=hc k x hx;have hxb:=HB.out x (cH hx);have v1:decide (x<0)=false:=decide_eq_false (by omega);have v2:decide (x>1048576)=false:=decide_eq_false (by omega);have v3:decide (1048576<x)=false:=decide_eq_false (by omega);clear hc hA hx;go_wp2_with fail;have hg:=HG.out
   go_roundg (l.length-(k+1))
   case measure=>omega
   case rel=>exact⟨k+1,by omega,rfl,by go_num,rfl⟩
  ·have u1:decide ((k:Int)<(l.length:Int))=false:=decide_eq_false (by omega);go_wp2_with fail;go_ret;exact⟨rfl,rfl⟩
theorem aH7 (v:Value) (l:List Int) (w:World) (hr:RdI w v l) (hb:∀x∈l,x<=20):
  Calls Tryz.prog 89 #[v] w fun e w'=>∃d:Int,e=.returned (.int .i64 d)/\d<=20/\w'=w:=by
 obtain⟨a,ca,rfl,hca,hma,hA⟩:=hr.open;unfold maxLen at hma;have HB:=hid hb;clear hb hr;go_enter Tryz.func89,Tryz.ntmps89;go_wp2_with fail
 go_loopg [3,4] l.length (fun g s3 s4 wr=>∃(k:Nat) (d:Int),k<=l.length/\g=l.length-k/\s4=.int .i64 (k:Int)/\s3=.int .i64 d/\d<=20/\wr=w)
 case atStart=>exact⟨0,0,aU _,rfl,rfl,rfl,by omega,rfl⟩
 case round=>
  obtain⟨k,d,hk,hg,rfl,rfl,hd,rfl⟩:=hrel;have HG:=hid hg;clear hg
  by_cases hlt:k<l.length
  ·have u1:decide ((k:Int)<(l.length:Int))=true:=decide_eq_true (by omega);obtain⟨b,off,rfl,hb,hc⟩:=hA (by omega);obtain⟨x,hx⟩:=dH hlt;have c1:=hc k x hx;have hxb:=HB.out x (cH hx);obtain⟨M,hM⟩:∃M,max d x=M:=⟨_,rfl⟩;have hM2:(if d<x then x else d)=M:=by rw[<-hM];split<;>omega
   have hM20:M<=20:=by omega
   clear hc hA hx;go_wp2_with fail;have hg:=HG.out
   go_roundg (l.length-(k+1))
   case measure=>omega
   case rel=>exact⟨k+1,M,by omega,rfl,by go_num,rfl,hM20,rfl⟩
  ·have u1:decide ((k:Int)<(l.length:Int))=false:=decide_eq_false (by omega);go_wp2_with fail;go_ret;exact⟨d,rfl,hd,rfl⟩
theorem aH8 (v:Value) (l:List Int) (w:World) (hr:RdI w v l) (h2:2<=l.length) (h258:l.length<=258) (h0:∀x∈l,0<=x/\x<=20000) (hs:l.sum<=20000):
  Calls Tryz.prog 72 #[v,.int .i64 20] w fun e w'=>∃v',e=.returned (.tuple #[v',.int .i64 0])/\OwI w' w.heap.size v' (nJ l)/\Below w.heap.size w w':=by
 have HOK:=hid (KE h2 h258 (fun x hx=>(h0 x hx).1) hs);have HMS:=hid (DD l (fun x hx=>(h0 x hx).1));have HS:=hid hs;have hr0:=hr;obtain⟨a,ca,rfl,hca,hma,hA⟩:=hr.open;unfold maxLen at hma;obtain⟨b,off,rfl,hb,hc⟩:=hA (by omega);have HC:=hid hc;have HB:=hid h0;have t1:decide ((l.length:Int)<2)=false:=decide_eq_false (by omega);have t2:decide ((l.length:Int)>258)=false:=decide_eq_false (by omega);have t3:decide (258<(l.length:Int))=false:=decide_eq_false (by omega);have hmay:=aH6 _ l w hr (fun x hx=>by have:=h0 x hx;omega);clear hA hc hr hs h0;go_enter Tryz.func72,Tryz.ntmps72
 go_wp2_with fail;refine hmay.mono ?_;rintro e w' ⟨rfl,rfl⟩;go_wp2_with fail
 go_loopg [7,8] l.length (fun g s7 s8 wr=>∃(k:Nat) (v7:Value),k<=l.length/\g=l.length-k/\v7=s7/\s8=.int .i64 (k:Int)/\OwI wr w'.heap.size v7 ((l.take k).map (fun x=>max x 1))/\Below w'.heap.size w' wr)
 case atStart=>exact⟨0,_,aU _,rfl,rfl,rfl,OwI.nil _ _,aB _ _⟩
 case round=>
  obtain⟨k,v7,hk,hg,rfl,rfl,ho,hbel⟩:=hrel;have HG:=hid hg;clear hg;have hsz:=hbel.size;have hll:((l.take k).map (fun x=>max x 1)).length=k:=by rw[bJ,aX];omega
  by_cases hlt:k<l.length
  ·have u1:decide ((k:Int)<(l.length:Int))=true:=decide_eq_true (by omega);obtain⟨x,hx⟩:=dH hlt;have c1:=(hbel.cell (p:=⟨b,off+k,none⟩) hb).trans (HC.out k x hx);obtain⟨M,hM⟩:∃M,max x 1=M:=⟨_,rfl⟩;have hM2:(if x<1 then 1 else x)=M:=by rw[<-hM];split<;>omega
   have HT:=hid (show(l.take (k+1)).map (fun x=>max x 1)=(l.take k).map (fun x=>max x 1)++[M] by rw[cQ,hx,fI,<-hM];rfl);clear hx;go_wp2_with (at_builtin;refine eN rfl _ _ rfl w'.heap.size _ _ rfl (OwI.alloc ho _) _ M rfl (bS _ _ _) ?_ ?_ ?_;(omega);(simp;omega);intro v4 w4 r1 r2 r3);have hg:=HG.out
   go_roundg (l.length-(k+1))
   case measure=>omega
   case rel=>exact⟨k+1,_,by omega,rfl,rfl,by go_num,by rw[HT.out];exact r1,(hbel.alloc hsz _).trans r2⟩
  ·have u1:decide ((k:Int)<(l.length:Int))=false:=decide_eq_false (by omega);rw[cS (by omega)] at ho;have hj:=aHr v7 (l.map (fun x=>max x 1)) wr (OwI.rd ho) (by rw[bJ];omega) (by rw[bJ];omega) (fun x hx=>by
    obtain⟨y,_,rfl⟩:=dU.1 hx;omega) (by have:=HMS.out;have:=HS.out;omega)
   go_wp2_with fail;refine hj.mono ?_;rintro e w5 ⟨v9,rfl,ho9,hb9⟩;have hlw:kL (l.map (fun x=>max x 1))=nJ l:=rfl;rw[hlw] at ho9;have hB9:=bV hbel hb9;have ho9':=Ow.base ho9 hsz;have hdp:=aH7 v9 (nJ l) w5 (OwI.rd ho9) (fun x hx=>(HOK.out.1.2.2 x hx).2);clear ho hj hbel hb9 ho9;go_wp2_with fail
   go_loopg [7,9,10,11] 0 (fun g _s7 s9 _s10 _s11 wx=>g=0/\s9=v9/\wx=w5)
   case atStart=>exact⟨rfl,rfl,rfl⟩
   case round=>
    obtain⟨_,rfl,rfl⟩:=hrel;go_wp2_with fail;refine hdp.mono ?_;rintro e w6 ⟨d,rfl,hd,rfl⟩;have v1:decide (d>20)=false:=decide_eq_false (by omega);have v2:decide (20<d)=false:=decide_eq_false (by omega);go_wp2_with fail
    go_ret2
    exact⟨_,rfl,ho9',hB9⟩
def LOK (w:World) (xs:List Value) (gs:List (List Int)):Prop:=xs.length=gs.length/\∀(j:Nat) (x:Value) (g:List Int),xs[j]? =some x->gs[j]? =some g->RdI w x g
theorem LOK.nil (w:World):LOK w [] []:=⟨rfl,fun j x g h=>by simp at h⟩
theorem LOK.below {w w':World} {xs:List Value} {gs:List (List Int)} (h:LOK w xs gs) (hb:Below w.heap.size w w'):LOK w' xs gs:=⟨h.1,fun j x g hx hg=>(h.2 j x g hx hg).below hb⟩
theorem LOK.snoc {w:World} {xs:List Value} {gs:List (List Int)} (h:LOK w xs gs) {x:Value} {g:List Int} (hx:RdI w x g):LOK w (xs++[x]) (gs++[g]):=by
 refine⟨by rw[aL,aL,h.1];rfl,fun j x' g' h1 h2=>?_⟩
 by_cases hj:j<xs.length
 ·rw[gS hj] at h1;rw[gS (by rw[<-h.1];exact hj)] at h2;exact h.2 j x' g' h1 h2
 ·have hjl:=(eU.1 h1).1;rw[aL,fK] at hjl;obtain rfl:j=xs.length:=by omega
  rw[AQ] at h1;rw[h.1,AQ] at h2;obtain rfl:=bW h1;obtain rfl:=bW h2;exact hx
def RdL (w:World) (v:Value) (gs:List (List Int)):Prop:=∃xs,Rd w v gs.length xs/\LOK w xs gs
theorem RdL.below {w w':World} {v:Value} {gs:List (List Int)} (h:RdL w v gs) (hb:Below w.heap.size w w'):RdL w' v gs:=by
 obtain⟨xs,h1,h2⟩:=h;exact⟨xs,h1.below hb,h2.below hb⟩
theorem RdL.open {w:World} {v:Value} {gs:List (List Int)} (h:RdL w v gs):∃a cap,v=.slice a gs.length cap/\gs.length<=cap/\cap<=maxLen/\
  (0<gs.length->∃b off,a=some ⟨b,off,none⟩/\b<w.heap.size/\∀(j:Nat) (g:List Int),gs[j]? =some g->∃x,w.cell? ⟨b,off+j,none⟩=some x/\RdI w x g):=by
 obtain⟨xs,⟨a,cap,rfl,h1,h2,h3⟩,h4,h5⟩:=h;refine⟨a,cap,rfl,h1,h2,fun hl=>?_⟩;rcases h3 with rfl|⟨b,off,rfl,hlt,hc⟩
 ·simp only[cX] at h4;omega
 ·refine⟨b,off,rfl,hlt,fun j g hg=>?_⟩;have hj:=(eU.1 hg).1;have hx:xs[j]? =some xs[j]:=aN (by omega);refine⟨xs[j],?_,h5 j _ g hx hg⟩;rw[hc j (by omega),aV,hx];rfl
theorem wK:ElT Tryz.prog 109 57 24 (.slice none 0 0):=ElT.mk' (by kernel_rfl) Tryz.underlying109 rfl (by decide)
theorem Ow.rdL {w:World} {B:Nat} {v:Value} {xs:List Value} {gs:List (List Int)} (h:Ow w B 57 v xs) (hl:LOK w xs gs):RdL w v gs:=⟨xs,by rw[<-hl.1];exact h.rd,hl⟩
theorem aH9 {m:List Int} {k:Nat} (h:10*k<m.length):(cK m)[k]? =some ((m.drop (10*k)).take 10):=wH m k (by omega)
theorem aIa {m:List Int} {k:Nat} (h:10*k<m.length):(cK m).take (k+1)=(cK m).take k++[(m.drop (10*k)).take 10]:=by rw[cQ,aH9 h];rfl
theorem aIb {w:World} {b off cap:Nat} {m:List Int} (hb:b<w.heap.size) (hc:∀j x,m[j]? =some x->w.cell? ⟨b,off+j,none⟩=some (.int .i64 x)) (hl:m.length<=cap) (hm:cap<=maxLen) (i h:Nat) (hi:i<=m.length) (hh:h=min (i+10) m.length):
  RdI w (.slice (some ⟨b,off+i,none⟩) (h-i) (cap-i)) ((m.drop i).take 10):=by
 have hlen:((m.drop i).take 10).length=h-i:=by rw[aX,cI];omega
 refine⟨_,cap-i,by rw[hlen],by rw[hlen];omega,by omega,.inr ⟨b,off+i,rfl,hb,fun j hj=>?_⟩⟩;rw[bJ,hlen] at hj;have hx:m[i+j]? =some m[i+j]:=aN (by omega);rw[Nat.add_assoc,hc _ _ hx,aV,dY,mB (by omega),gR,hx];rfl
theorem aIc {w:World} {a:Option Addr} {n c:Nat} {l:List Int} (h:RdI w (.slice a n c) l):∀b off,a=some ⟨b,off,none⟩->0<l.length->b<w.heap.size/\∀j x,l[j]? =some x->w.cell? ⟨b,off+j,none⟩=some (.int .i64 x):=fun b off e h0=>by
 obtain⟨a',c',e',_,_,hA⟩:=h.open;obtain⟨b',off',e2,hb,hc⟩:=hA h0;rw[aCd] at e';obtain⟨rfl,_,_⟩:=e';rw[e] at e2
 cases e2
 exact⟨hb,hc⟩
theorem Ow.cellAt {w:World} {B e b off n c:Nat} {xs:List Value} (h:Ow w B e (.slice (some ⟨b,off,none⟩) n c) xs) {j:Nat} {x:Value} (hx:xs[j]? =some x):w.cell? ⟨b,off+j,none⟩=some x:=by
 obtain⟨hl,h⟩:=h;rcases h with⟨e1,_⟩|⟨g,cap,cur,e1,hb,hg,hnc,hcm,hcs,ht⟩
 ·cases e1
 ·cases e1
  have hj:=(eU.1 hx).1;rw[Nat.zero_add,cell_of_row w _ j cur e (0,0) hg];rw[<-ht,List.getElem?_take,if_pos (by omega)] at hx
  simpa using hx
theorem Ow.openN {w:World} {B e:Nat} {v:Value} {xs:List Value} (h:Ow w B e v xs) (h0:0<xs.length):∃b off c,v=.slice (some ⟨b,off,none⟩) xs.length c:=by
 rcases h.2 with⟨rfl,e⟩|⟨g,cap,cur,rfl,_⟩
 ·omega
 ·exact⟨g,0,cap,rfl⟩
theorem TB (v:Value) (m:List Int) (w w0:World) (hr:RdI w v m) (hr0:RdI w0 v m) (hm:m.length<=1000000):
  Calls Tryz.prog 59 #[v] w fun e w'=>∃v' xs,e=.returned v'/\Ow w' w.heap.size 57 v' xs/\LOK w0 xs (cK m)/\Below w.heap.size w w':=by
 obtain⟨a,ca,rfl,hca,hma,hA⟩:=hr.open;have hA0:=aIc hr0;have HMA:=hid hma;unfold maxLen at hma;clear hr hr0;go_enter Tryz.func59,Tryz.ntmps59;go_wp2_with fail
 go_loopg [3,4] ((m.length+9)/10) (fun g s3 s4 wr=>∃(k:Nat) (v3:Value) (xs:List Value),k<=(m.length+9)/10/\g=(m.length+9)/10-k/\v3=s3/\s4=.int .i64 ((10*k:Nat):Int)/\Ow wr w.heap.size 57 v3 xs/\LOK w0 xs ((cK m).take k)/\Below w.heap.size w wr)
 case atStart=>exact⟨0,_,[],aU _,rfl,rfl,rfl,Ow.nil _ _ _,LOK.nil _,aB _ _⟩
 case round=>
  obtain⟨k,v3,xs,hk,hg,rfl,rfl,ho,hx,hbel⟩:=hrel;have HG:=hid hg;clear hg;have hsz:=hbel.size;have hxl:xs.length=k:=by rw[hx.1,aX,iD];omega
  obtain⟨i,hi⟩:∃i,10*k=i:=⟨_,rfl⟩;rw[hi];have HI:=hid hi;clear hi
  by_cases hlt:i<m.length
  ·have u1:decide ((i:Int)<(m.length:Int))=true:=decide_eq_true (by omega);obtain⟨b,off,rfl,hb,hc⟩:=hA (by omega);obtain⟨hb0,hc0⟩:=hA0 b off rfl (by omega);obtain⟨h,hh⟩:∃h,h=min (i+10) m.length:=⟨_,rfl⟩;have m1:aI.wrap ((i:Int)+10)=(i:Int)+10:=by rw[aM];omega
   have m2:min ((i:Int)+10) (m.length:Int)=(h:Int):=by omega
   have m3:(if(m.length:Int)<(i:Int)+10 then(m.length:Int) else(i:Int)+10)=(h:Int):=by split<;>omega
   have m4:(if(i:Int)+10<(m.length:Int) then(i:Int)+10 else(m.length:Int))=(h:Int):=by split<;>omega
   have hsl:∀W,(GN 57 (.slice (some ⟨b,off,none⟩) m.length ca) (some (.int .i64 (i:Int))) (some (.int .i64 (h:Int))) none).run Tryz.prog W=.ok (.slice (some ⟨b,off+i,none⟩) (h-i) (ca-i)) W:=fun W=>by
    have k1:(0:Int)<=(i:Int):=by omega
    have k2:(i:Int)<=(h:Int):=by omega
    have k3:(h:Int)<=(ca:Int):=by omega
    have k4:¬ca=i:=by omega
    by_cases h0:i=0
    ·subst h0;simp[go_sem,k3,k4,iN]
    ·simp[go_sem,k2,k3,k4,iN,h0]
   have HP:=hid (aIb hb0 hc0 hca HMA.out i h (by omega) hh);have hroom:(xs.length+1)*24<=140737488355328:=by omega
   clear hc hA hc0 hb0 hA0 hb;have HH:=hid hh;clear hh;go_wp2_with (at_builtin;refine rD wK rfl _ _ rfl w.heap.size _ xs rfl (Ow.alloc ho _) wr.heap.size (.slice (some ⟨b,off+i,none⟩) (h-i) (ca-i)) rfl (bS _ _ _) rfl ?_ ?_ ?_;(exact hroom);(simp;omega);intro v4 w4 r1 r2 r3);have hg:=HG.out;have hi:=HI.out
   go_roundg ((m.length+9)/10-(k+1))
   case measure=>omega
   case rel=>
    refine⟨k+1,_,_,by omega,rfl,rfl,?_,r1,?_,(hbel.alloc hsz _).trans r2⟩
    ·rw[<-hi];go_num
    ·rw[aIa (by omega),hi];exact hx.snoc HP.out
  ·have u1:decide ((i:Int)<(m.length:Int))=false:=decide_eq_false (by omega);have hi:=HI.out;rw[cS (by rw[iD];omega)] at hx;clear hi;go_wp2_with fail;go_ret;exact⟨_,_,rfl,ho,hx,hbel⟩
theorem aId (v:Value) (m:List Int) (w:World) (hr:RdI w v m) (hm:m.length<=1000000):
  Calls Tryz.prog 59 #[v] w fun e w'=>∃v',e=.returned v'/\RdL w' v' (cK m)/\Below w.heap.size w w':=
 (TB v m w w hr hr hm).mono fun _ _ ⟨v',_,h1,h2,h3,h4⟩=>⟨v',h1,h2.rdL (h3.below h4),h4⟩
theorem TF (v:Value) (l:List Int) (n:Nat) (w:World) (hr:RdI w v l) (hb:∀x∈l,0<=x/\x<(n:Int)):
  Calls Tryz.prog 71 #[v,.int .i64 (n:Int)] w fun e w'=>e=.returned (.bool false)/\w'=w:=by
 obtain⟨a,ca,rfl,hca,hma,hA⟩:=hr.open;unfold maxLen at hma;have HB:=hid hb;clear hb hr;go_enter Tryz.func71,Tryz.ntmps71;go_wp2_with fail
 go_loopg [5] l.length (fun g s5 wr=>∃k:Nat,k<=l.length/\g=l.length-k/\s5=.int .i64 (k:Int)/\wr=w)
 case atStart=>exact⟨0,aU _,rfl,rfl,rfl⟩
 case round=>
  obtain⟨k,hk,hg,rfl,rfl⟩:=hrel;have HG:=hid hg;clear hg
  by_cases hlt:k<l.length
  ·have u1:decide ((k:Int)<(l.length:Int))=true:=decide_eq_true (by omega);obtain⟨b,off,rfl,hb,hc⟩:=hA (by omega);obtain⟨x,hx⟩:=dH hlt;have c1:=hc k x hx;have hxb:=HB.out x (cH hx);have v1:decide (x<0)=false:=decide_eq_false (by omega);have v2:decide (x>=(n:Int))=false:=decide_eq_false (by omega);have v3:decide ((n:Int)<=x)=false:=decide_eq_false (by omega);clear hc hA hx;go_wp2_with fail;have hg:=HG.out
   go_roundg (l.length-(k+1))
   case measure=>omega
   case rel=>exact⟨k+1,by omega,rfl,by go_num,rfl⟩
  ·have u1:decide ((k:Int)<(l.length:Int))=false:=decide_eq_false (by omega);go_wp2_with fail;go_ret;exact⟨rfl,rfl⟩
theorem TC {l g:List Int} (h:bL l=0) (hg:∀x∈g,0<=x/\x<(l.length:Int)):nI l g=lT l g:=by
 unfold nI;rw[if_pos];unfold SE;rw[if_neg (fun k=>k h),aHm hg];rfl
theorem TD {l g:List Int} {k:Nat} {x:Int} (h:g[k]? =some x):lT l (g.take (k+1))=lT l (g.take k)+l.getD x.toNat 0:=by
 rw[cQ,h];exact SF _ _ _
theorem TG (v u:Value) (l g:List Int) (w:World) (hr:RdI w v l) (hu:RdI w u g) (hE:bL l=0) (hg:∀x∈g,0<=x/\x<(l.length:Int)) (hgl:g.length<=1000):
  Calls Tryz.prog 74 #[v,u] w fun e w'=>e=.returned (.tuple #[.int .i64 (nI l g),.int .i64 0])/\Below w.heap.size w w':=by
 rw[TC hE hg];have hok:=(eH hE).1;have hck:=DH v l w hr;rw[hE] at hck;have hck:=hck.mono (fun e w' (h:e=.returned (.int .i64 0)/\w'=w)=>(⟨h.1,by rw[h.2];exact aB _ _⟩:e=.returned (.int .i64 0)/\Below w.heap.size w w'));have HSB:=hid (fun k=>SG hok.2.2 (g.take k));have HX:=hid hg;have HL:=hid (fun(x:Int) (h:0<=x/\x<(l.length:Int))=>show l[x.toNat]? =some (l.getD x.toNat 0) by
  rw[aV,aN (show x.toNat<l.length by omega)];rfl)
 have hno:=fun W (h:RdI W u g)=>TF u g l.length W h hg
 have hl2:=hok.1;have HLB:=hid (fun(x:Int) (h:0<=x/\x<(l.length:Int))=>hok.2.2 (l.getD x.toNat 0) (cH (HL.out x h)));obtain⟨a,ca,rfl,hca,hma,hA⟩:=hr.open;unfold maxLen at hma;obtain⟨b,off,rfl,hb,hc⟩:=hA (by omega);obtain⟨a2,c2,rfl,hc2,hm2,hA2⟩:=hu.open;unfold maxLen at hm2;clear hr hA hok hg hE;go_enter Tryz.func74,Tryz.ntmps74;go_wp2_with fail;refine hck.mono ?_;rintro e w1 ⟨rfl,hb1⟩;have hu1:=hu.below hb1;have HC:=hid (fun j x (hx:l[j]? =some x)=>((lP hb1).1 b (off+j) hb).trans (hc j x hx))
 have HC2:=hid (fun b2 o2 (h:b2<w.heap.size) (h2:∀j x,g[j]? =some x->w.cell? ⟨b2,o2+j,none⟩=some (.int .i64 x)) j x (hx:g[j]? =some x)=>((lP hb1).1 b2 (o2+j) h).trans (h2 j x hx));clear hck hc;go_wp2_with fail;refine(hno _ hu1).mono ?_;rintro e w2 ⟨rfl,rfl⟩;clear hno hu hu1;go_wp2_with fail
 go_loopg [7,8] g.length (fun gg s7 s8 wr=>∃k:Nat,k<=g.length/\gg=g.length-k/\s8=.int .i64 (k:Int)/\s7=.int .i64 (lT l (g.take k))/\wr=w2)
 case atStart=>exact⟨0,aU _,rfl,rfl,rfl,rfl⟩
 case round=>
  obtain⟨k,hk,hg,rfl,rfl,rfl⟩:=hrel;have HG:=hid hg;clear hg;have hsb:=HSB.out k;rw[aX,Nat.min_eq_left hk] at hsb
  by_cases hlt:k<g.length
  ·have u1:decide ((k:Int)<(g.length:Int))=true:=decide_eq_true (by omega);obtain⟨b2,o2,rfl,hb2,hcc⟩:=hA2 (by omega);obtain⟨x,hx⟩:=dH hlt;have c1:=HC2.out b2 o2 hb2 hcc k x hx;have hxb:=HX.out x (cH hx);have hlx:=HL.out x hxb;have hlb:=HLB.out x hxb;have HT:=hid (TD (l:=l) hx);obtain⟨X,rfl⟩:∃X:Nat,x=(X:Int):=⟨x.toNat,by omega⟩;rw[eG] at hlx hlb HT;have c2:=HC.out X _ hlx;obtain⟨S,hS⟩:∃S,S=lT l (g.take k):=⟨_,rfl⟩;obtain⟨D,hD⟩:∃D,D=l.getD X 0:=⟨_,rfl⟩;rw[<-hS,<-hD] at HT;rw[<-hS] at hsb ⊢;rw[<-hD] at hlb c2
   have m1:aI.wrap (S+D)=S+D:=by rw[aM];omega
   have v1:(X:Int)<(l.length:Int):=hxb.2;have v2:X<l.length:=by omega
   clear hx hlx hcc hA2 hS hD hxb;go_wp2_with fail;have hg:=HG.out
   go_roundg (g.length-(k+1))
   case measure=>omega
   case rel=>exact⟨k+1,by omega,rfl,by go_num,by rw[HT.out],rfl⟩
  ·have u1:decide ((k:Int)<(g.length:Int))=false:=decide_eq_false (by omega);rw[cS (by omega)];go_wp2_with fail
   go_ret2
   exact⟨rfl,hb1⟩
theorem TE {m:List Int} {n wh k:Nat} {x:Int} (h:m[k]? =some x):dJ m n wh (k+1)=if k/10%2=wh then(dJ m n wh k).set x.toNat ((dJ m n wh k).getD x.toNat 0+1) else dJ m n wh k:=by
 have e:m.getD k 0=x:=by rw[aV,h];rfl
 show(if k/10%2=wh then(dJ m n wh k).set (m.getD k 0).toNat ((dJ m n wh k).getD (m.getD k 0).toNat 0+1) else dJ m n wh k)=_;rw[e]
theorem aIg (v:Value) (m:List Int) (n wh:Nat) (w:World) (hr:RdI w v m) (hm:m.length<=1000000) (hn:n<=1000) (hw:wh<=1) (hx:∀x∈m,0<=x/\x<(n:Int)):
  Calls Tryz.prog 73 #[v,.int .i64 (n:Int),.int .i64 (wh:Int)] w fun e w'=>∃v',e=.returned v'/\OwI w' w.heap.size v' (iK m n wh)/\Below w.heap.size w w':=by
 have HX:=hid hx;have HSUM:=hid (fun k hk=>(wI m n wh hx k hk).2.2);have HLEN:=hid (rP m n wh);obtain⟨a,ca,rfl,hca,hma,hA⟩:=hr.open;unfold maxLen at hma;have hD0:bB n (bO .i64 0)=(dJ m n wh 0).map (bO .i64):=by show _=(bB n (0:Int)).map _;rw[xV]
 clear hr hx;go_enter Tryz.func73,Tryz.ntmps73;go_wp2_with (at_make;refine mkA gL rfl _ _ rfl n rfl rfl ?_ ?_;omega);have hD:=Arr.made w 3 (.int .i64 0) n;rw[hD0] at hD;have hB:=bD (aB w.heap.size w) (.cells (fB (.int .i64 0) n) 3);change Arr (w.alloc (.cells (fB (.int .i64 0) n) 3)) _ _ _ at hD;generalize w.alloc (.cells (fB (.int .i64 0) n) 3)=w1 at*
 clear hD0
 go_loopg [8] m.length (fun g s8 wr=>∃k:Nat,k<=m.length/\g=m.length-k/\s8=.int .i64 (k:Int)/\Arr wr w.heap.size 3 ((dJ m n wh k).map (bO .i64))/\Below w.heap.size w wr)
 case atStart=>exact⟨0,aU _,rfl,rfl,hD,hB⟩
 case round=>
  clear hD hB;obtain⟨k,hk,hg,rfl,hD,hbel⟩:=hrel;have HG:=hid hg;clear hg
  by_cases hlt:k<m.length
  ·have u1:decide ((k:Int)<(m.length:Int))=true:=decide_eq_true (by omega);obtain⟨b,off,rfl,hb,hc⟩:=hA (by omega);obtain⟨x,hx⟩:=dH hlt;have c1:=(hbel.cell (p:=⟨b,off+k,none⟩) hb).trans (hc k x hx);have hxb:=HX.out x (cH hx);have hst:=TE (n:=n) (wh:=wh) hx;obtain⟨X,rfl⟩:∃X:Nat,x=(X:Int):=⟨x.toNat,by omega⟩;rw[eG] at hst;obtain⟨q,hq⟩:∃q,q=k/10:=⟨_,rfl⟩;obtain⟨p,hp⟩:∃p,p=q%2:=⟨_,rfl⟩;have m1:(k:Int).tdiv 10=(q:Int):=by rw[hq];exact Int.ofNat_tdiv k 10
   have m2:(q:Int).tmod 2=(p:Int):=by rw[hp];exact Int.ofNat_tmod q 2
   have m3:aI.wrap (q:Int)=(q:Int):=by rw[aM];omega
   have m4:(k:Int)/10=(q:Int):=by omega
   have m5:(q:Int)%2=(p:Int):=by omega
   rw[<-hq,<-hp] at hst
   by_cases hpw:p=wh
   ·rw[if_pos hpw] at hst;have u2:((p:Int)==(wh:Int))=true:=by rw[beq_iff_eq,hpw]
    have hlen:=HLEN.out k;obtain⟨D,hDe⟩:∃D,D=dJ m n wh k:=⟨_,rfl⟩;have hdx:D[X]? =some (D.getD X 0):=by rw[aV,aN (by rw[hDe,hlen];omega)];rfl
    have hdb:=HSUM.out k (by omega) (D.getD X 0) (by rw[<-hDe];exact cH hdx);rw[<-hDe] at hst hD;obtain⟨d,hd⟩:∃d,d=D.getD X 0:=⟨_,rfl⟩;rw[<-hd] at hst hdx hdb;have c2:=hD.cell (i:=X) (v:=.int .i64 d) (by rw[dY,hdx];rfl);have f2:=hD.free X;have m6:aI.wrap (d+1)=d+1:=by rw[aM];omega
    have v1:(X:Int)<(n:Int):=hxb.2;have HS:=hid hst;have hpb:p<=1:=by omega
    clear hst hq hp hpw hx hc hA hd hdx hlen hDe hxb;go_wp2_with fail
    go_region
    all_goals go_wp2_with fail
    have hg:=HG.out
    go_roundg (m.length-(k+1))
    case measure=>omega
    case rel=>
     refine⟨k+1,by omega,rfl,by go_num,?_,(hbel.setCell (p:=⟨w.heap.size,X,none⟩) (aA _) _).drew⟩;have:=hD.set X (.int .i64 (d+1));rw[<-vF,<-HS.out] at this;exact this
   ·rw[if_neg hpw] at hst;have u2:((p:Int)==(wh:Int))=false:=by rw[beq_eq_false_iff_ne];omega
    have HS:=hid hst;have hpb:p<=1:=by omega
    clear hst hq hp hpw hx hc hA hxb;go_wp2_with fail;have hg:=HG.out
    go_roundg (m.length-(k+1))
    case measure=>omega
    case rel=>exact⟨k+1,by omega,rfl,by go_num,by rw[HS.out];exact hD,hbel⟩
  ·have u1:decide ((k:Int)<(m.length:Int))=false:=decide_eq_false (by omega);have hke:k=m.length:=by omega
   subst hke;have hDl:((dJ m n wh m.length).map (bO .i64)).length=n:=by rw[bJ,HLEN.out]
   have ho:=hD.own (B:=w.heap.size) (aA _) (by rw[hDl];simp only[maxLen];omega);rw[hDl] at ho;go_wp2_with fail;go_ret;exact⟨_,rfl,ho,hbel⟩
theorem DK {m:List Int} {j:Nat} {g:List Int} (h:(cK m)[j]? =some g):(∀x∈g,x∈m)/\g.length<=10:=by
 have hj:=(eU.1 h).1;rw[iD] at hj;rw[wH m j hj] at h;obtain rfl:=bW h;exact⟨fun x hx=>xU (nO hx),by rw[aX];omega⟩
theorem tD {m:List Int} {n wh:Nat} (hm:m.length<=20000) (h:∀x∈m,0<=x/\x<(n:Int)):(iK m n wh).length=n/\(iK m n wh).sum<=20000/\∀x∈iK m n wh,0<=x/\x<=20000:=by
 obtain⟨h1,h2,h3⟩:=wI m n wh h m.length (aA _);unfold iK;exact⟨rP _ _ _ _,by omega,fun x hx=>by have:=h3 x hx;omega⟩
theorem LOK.two {w:World} {x y:Value} {a b:List Int} (hx:RdI w x a) (hy:RdI w y b):LOK w [x,y] [a,b]:=(LOK.nil w |>.snoc hx).snoc hy
def TH (w w':World) (m:List Int) (n:Nat) (e:Ending):Prop:=
 ∃v u,e=.returned (.tuple #[v,u,.int .i64 0])/\RdL w' v [dN m n 0,dN m n 1]/\OwI w' w.heap.size u (cT m n)/\Below w.heap.size w w'
theorem aIh (v:Value) (m:List Int) (n:Nat) (w:World) (hr:RdI w v m) (hm0:0<m.length) (hm:m.length<=20000) (h2:2<=n) (h258:n<=258) (hx:∀x∈m,0<=x/\x<(n:Int)):
  Calls Tryz.prog 54 #[v,.int .i64 (n:Int)] w fun e w'=>TH w w' m n e:=by
 have HC0:=hid (tB (which:=0) h2 h258 hx hm);have HC1:=hid (tB (which:=1) h2 h258 hx hm);have HL0:=hid (rQ (which:=0) h2 h258 hx hm).2;have HL1:=hid (rQ (which:=1) h2 h258 hx hm).2;have HX:=hid hx;obtain⟨a,ca,rfl,hca,hma,hA⟩:=hr.open;have t1:decide ((n:Int)<2)=false:=decide_eq_false (by omega);have t2:decide ((n:Int)>258)=false:=decide_eq_false (by omega);have t3:decide (258<(n:Int))=false:=decide_eq_false (by omega);have t4:((m.length:Int)==0)=false:=by rw[beq_eq_false_iff_ne];omega
 have t5:decide ((m.length:Int)>1048576)=false:=decide_eq_false (by omega);have t6:decide (1048576<(m.length:Int))=false:=decide_eq_false (by omega);have t7:(m.length==0)=false:=by rw[beq_eq_false_iff_ne];omega
 have hno:=TF _ m n w hr hx;have hof:=fun(wh:Nat) (hw:wh<=1) W h=>aIg (.slice a m.length ca) m n wh W h (by omega) (by omega) hw hx
 have hlen:=fun(wh:Nat) u W (h:RdI W u (iK m n wh))=>aH8 u (iK m n wh) W h (by rw[(tD hm hx).1];exact h2) (by rw[(tD hm hx).1];exact h258) (tD hm hx).2.2 (tD hm hx).2.1
 have hof0:=hof 0 (by decide);have hof1:=hof 1 (by decide);have hgr:=fun W h=>aId (.slice a m.length ca) m W h (by omega)
 clear hof hA hx;go_enter Tryz.func54,Tryz.ntmps54;go_wp2_with fail;refine hno.mono ?_;rintro e w0 ⟨rfl,rfl⟩;go_wp2_with fail;refine(hof0 _ hr).mono ?_;rintro e w1 ⟨v1,rfl,ho1,hb1⟩;have hr1:=hr.below hb1;go_wp2_with fail;refine(hlen 0 v1 _ (OwI.rd ho1)).mono ?_;rintro e w2 ⟨v2,rfl,ho2,hb2⟩;have hr2:=hr1.below hb2;have hB2:=bV hb1 hb2;have ha2:=OwI.rd ho2;have hs2:w0.heap.size<=w2.heap.size:=hB2.size;clear hr1 ho1 hb1 hb2 ho2;go_wp2_with fail;refine(hof1 _ hr2).mono ?_;rintro e w3 ⟨v3,rfl,ho3,hb3⟩;have hr3:=hr2.below hb3;have ha3:=ha2.below hb3;have hB3:=bV hB2 hb3;clear hr2 ha2 hB2
 go_wp2_with fail;refine(hlen 1 v3 _ (OwI.rd ho3)).mono ?_;rintro e w4 ⟨v4,rfl,ho4,hb4⟩;have hr4:=hr3.below hb4;have ha4:=ha3.below hb4;have hB4:=bV hB3 hb4;have hc4:=OwI.rd ho4;clear hr3 ha3 hB3 ho3 hb3 ho4 hb4;go_wp2_with fail;refine(hgr _ hr4).mono ?_;rintro e w5 ⟨v5,rfl,hg5,hb5⟩;have ha5:=ha4.below hb5;have hc5:=hc4.below hb5;have hB5:=bV hB4 hb5;rw[show nJ (iK m n 0)=dN m n 0 from rfl] at ha5;rw[show nJ (iK m n 1)=dN m n 1 from rfl] at hc5;obtain⟨A,hAe⟩:∃A,A=dN m n 0:=⟨_,rfl⟩;obtain⟨C,hCe⟩:∃C,C=dN m n 1:=⟨_,rfl⟩;rw[<-hAe] at ha5 HC0 HL0;rw[<-hCe] at hc5 HC1 HL1
 obtain⟨a5,c5,rfl,hn5,hm5,hA5⟩:=hg5.open;unfold maxLen at hm5;rw[iD] at hn5 hA5;rw[iD];obtain⟨G,hG⟩:∃G,G=(m.length+9)/10:=⟨_,rfl⟩;rw[<-hG] at hn5 hA5 ⊢;have HA:=hid hAe;have HC:=hid hCe;have HG5:=hid hG;have hGb:G<=2001:=by omega
 have HMEM:=hid (fun j g (h:(cK m)[j]? =some g)=>DK h);have hg0:=fun(g:List Int) u W (h:RdI W u g) (hv:RdI W v2 A) (h1:∀x∈g,x∈m) (h3:g.length<=10)=>TG v2 u A g W hv h HC0.out (by rw[HL0.out];exact fun x hx=>HX.out x (h1 x hx)) (by omega)
 have hg1:=fun(g:List Int) u W (h:RdI W u g) (hv:RdI W v4 C) (h1:∀x∈g,x∈m) (h3:g.length<=10)=>TG v4 u C g W hv h HC1.out (by rw[HL1.out];exact fun x hx=>HX.out x (h1 x hx)) (by omega)
 have HG0:=hid hg0;have HG1:=hid hg1;have HCH:=hid (show cT m n=(cK m).map (nX A C) by unfold cT;rw[hAe,hCe]);clear hno hof0 hof1 hlen hgr hr hr4 ha4 hc4 hB4 hb5 hg5 hg0 hg1 hAe hCe hG;go_wp2_with fail
 go_loopg [12,13,14,15,16,17] G (fun g s12 s13 _s14 _s15 _s16 _s17 wr=>∃(k:Nat) (u:Value),k<=G/\g=G-k/\u=s12/\s13=.int .i64 (k:Int)/\OwI wr w5.heap.size u (((cK m).take k).map (nX A C))/\Below w5.heap.size w5 wr)
 case atStart=>exact⟨0,_,aU _,rfl,rfl,rfl,OwI.nil _ _,aB _ _⟩
 case round=>
  obtain⟨k,u,hk,hg,rfl,rfl,ho,hbel⟩:=hrel;have HG:=hid hg;clear hg;have hsz:=hbel.size;have hol:(((cK m).take k).map (nX A C)).length<=3000:=by rw[bJ,aX];omega
  by_cases hlt:k<G
  ·have u1:decide ((k:Int)<(G:Int))=true:=decide_eq_true (by omega);obtain⟨b5,o5,rfl,hb5,hc5'⟩:=hA5 (by omega);obtain⟨g,hg⟩:∃g,(cK m)[k]? =some g:=⟨_,aN (by rw[iD,<-HG5.out];exact hlt)⟩;obtain⟨x,hx1,hx2⟩:=hc5' k g hg;have c1:=(hbel.cell (p:=⟨b5,o5+k,none⟩) hb5).trans hx1;have hx3:=hx2.below hbel;have hav:=ha5.below hbel;obtain⟨q1,q2⟩:=HMEM.out k g hg;have hcall0:=HG0.out g x wr hx3 hav q1 q2
   have HT:=hid (show((cK m).take (k+1)).map (nX A C)=((cK m).take k).map (nX A C)++[if nI C g<nI A g then 1 else 0] by rw[cQ,hg,fI];rfl);have HQ:=hid q1;obtain⟨p0,hp0⟩:∃p0,p0=nI A g:=⟨_,rfl⟩;obtain⟨p1,hp1⟩:∃p1,p1=nI C g:=⟨_,rfl⟩;rw[<-hp0] at hcall0 HT;rw[<-hp1] at HT;have HP1:=hid hp1;obtain⟨ax,cx,rfl,_,_,_⟩:=hx2.open;clear hc5' hg hx1 hA5 hp0 hp1;go_wp2_with fail;refine hcall0.mono ?_;rintro e w6 ⟨rfl,hb6⟩;have hbel6:=bV hbel hb6;have c1:=(hb6.cell (p:=⟨b5,o5+k,none⟩) (by show b5<wr.heap.size;omega)).trans c1
   have hcall1:=HG1.out g _ w6 (hx3.below hb6) (hc5.below hbel6) HQ.out q2;rw[<-HP1.out] at hcall1;have ho6:=OwI.below ho hb6 (aA _);have hsz6:=hbel6.size;clear hcall0 hx3 hav hb6 ho;go_wp2_with fail;refine hcall1.mono ?_;rintro e w7 ⟨rfl,hb7⟩;have hbel7:=bV hbel6 hb7;have ho7:=OwI.below ho6 hb7 (aA _);have hsz7:=hbel7.size;clear hcall1 hb7 ho6 c1
   by_cases hlt2:p1<p0
   ·have u2:decide (p1<p0)=true:=decide_eq_true hlt2;rw[if_pos hlt2] at HT;clear hlt2;go_wp2_with (at_builtin;refine eN rfl _ _ rfl w5.heap.size _ _ rfl (OwI.alloc ho7 _) _ 1 rfl (bS _ _ _) ?_ ?_ ?_;(omega);(simp;omega);intro v8 w8 r1 r2 r3);have hg:=HG.out
    go_roundg (G-(k+1))
    case measure=>omega
    case rel=>exact⟨k+1,_,by omega,rfl,rfl,by go_num,by rw[HT.out];exact r1,(hbel7.alloc hsz7 _).trans r2⟩
   ·have u2:decide (p1<p0)=false:=decide_eq_false hlt2;rw[if_neg hlt2] at HT;clear hlt2;go_wp2_with (at_builtin;refine eN rfl _ _ rfl w5.heap.size _ _ rfl (OwI.alloc ho7 _) _ 0 rfl (bS _ _ _) ?_ ?_ ?_;(omega);(simp;omega);intro v8 w8 r1 r2 r3);have hg:=HG.out
    go_roundg (G-(k+1))
    case measure=>omega
    case rel=>exact⟨k+1,_,by omega,rfl,rfl,by go_num,by rw[HT.out];exact r1,(hbel7.alloc hsz7 _).trans r2⟩
  ·have u1:decide ((k:Int)<(G:Int))=false:=decide_eq_false (by omega);rw[cS (by rw[iD,<-HG5.out];omega),<-HCH.out] at ho;have ha6:=ha5.below hbel;have hc6:=hc5.below hbel;have hB6:=bV hB5 hbel;have hs5:=hB5.size;obtain⟨av,cv,rfl,_,_,_⟩:=ha6.open;obtain⟨aw,cw,rfl,_,_,_⟩:=hc6.open;go_wp2_with fail
   go_ret3
   have hal:=xY wr 57 [.slice av A.length cv,.slice aw C.length cw] 2 rfl (by decide);have hb7:=bD (aB wr.heap.size wr) (.cells #[.slice av A.length cv,.slice aw C.length cw] 57);refine⟨_,_,rfl,⟨[.slice av A.length cv,.slice aw C.length cw],hal,?_⟩,Ow.base (OwI.alloc ho _) (by omega),bD hB6 _⟩;rw[<-HA.out,<-HC.out];exact LOK.two (ha6.below hb7) (hc6.below hb7)
end Go.Proofs.YtmcogmmncfihhaaGreatDoor
