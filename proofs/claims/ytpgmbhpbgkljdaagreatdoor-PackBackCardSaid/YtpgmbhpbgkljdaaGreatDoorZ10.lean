/-
  Texts put together (part 10): the walks and the plain laws on which the statement stands.
-/
import Derived.Deep.AppendLies
import Derived.BigRegion
import Derived.Test.YtpgmbhpbgkljdaaGreatDoorZ7
import Derived.Test.YtpgmbhpbgkljdaaGreatDoorZ9
set_option maxRecDepth 100000
set_option maxHeartbeats 12800000
open Go renaming bodyPost_ret->gJ,run_underlying->sI
open Go.Instr renaming index->tV
open Go.IntKind renaming i64->aI,wrap_i64->aM
open Go.RowKit.Below renaming refl->aB
open Go.Value renaming int->bO
open Int renaming natCast_zero->OF,toNat_natCast->eG
open List renaming append_assoc->cF,countP_le_length->xR,getD_eq_getElem?_getD->aV,getElem?_append_left->gS,getElem?_concat_length->AQ,getElem?_eq_getElem->aN,getElem?_eq_some_iff->eU,getElem?_map->dY,getElem?_of_mem->QB,getElem_mem->gT,length_append->aL,length_map->bJ,length_nil->cX,length_singleton->fK,length_take->aX,map_append->fI,mem_append->cU,mem_cons->kD,mem_cons_of_mem->jD,mem_cons_self->lY,mem_map->dU,mem_of_getElem?->cH,mem_singleton->dC,replicate->bB,take_add_one->cQ,take_length->kE,take_of_length_le->cS
open Nat renaming add_sub_cancel->jZ,add_zero->pH,le_refl->aA,le_trans->aW,lt_or_ge->bT,lt_succ_self->sG,min_eq_left->gU,zero_add->iZ,zero_le->aU
open Option.some renaming inj->bW
namespace Go.Proofs.YtpgmbhpbgkljdaaGreatDoor
section
open Go.RowKit Go Go.Shelf
theorem qO {w:World} {B B' e e' z z' n n':Nat} {v v':Value} {xs xs':List Value} (h:w.ownsRow B e z v n xs) (h':w.ownsRow B' e' z' v' n' xs') (hne:e≠e'):v.ownBlock=none\/v.ownBlock≠v'.ownBlock:=by
 rcases h.2 with⟨rfl,_⟩|⟨g,cap,cur,rfl,_,hg,_⟩
 ·exact .inl rfl
 ·right
  rcases h'.2 with⟨rfl,_⟩|⟨g',cap',cur',rfl,_,hg',_⟩
  ·intro e;cases e
  ·intro e;have e:some g=some g':=e
   cases e
   rw[hg] at hg'
   injection hg' with hg'
   injection hg' with _ q _
   exact hne q
theorem DF {w:World} {B e e' z' n' b:Nat} {v':Value} {l xs':List Value} (h:Arr w b e l) (h':w.ownsRow B e' z' v' n' xs') (hne:e≠e'):some b≠v'.ownBlock:=by
 rcases h'.2 with⟨rfl,_⟩|⟨g',cap',cur',rfl,_,hg',_⟩
 ·intro e;cases e
 ·intro e;have e:some b=some g':=e
  cases e
  unfold Arr at h;rw[h] at hg'
  injection hg' with hg'
  injection hg' with _ q _
  exact hne q
theorem iL {w:World} {B e z n b:Nat} {v:Value} {xs:List Value} (h:w.ownsRow B e z v n xs) (hb:b<B):v.ownBlock=none\/v.ownBlock≠some b:=by
 rcases hob:v.ownBlock with _|k
 ·exact .inl rfl
 ·have:=(h.lt k hob).1;exact .inr (fun e=>by have:=bW e;omega)
def lvI (t:HT):List Int:=t.leaves.map (fun n:Nat=>((n:Nat):Int))
def TOK (w:World) (B bd:Nat) (l:List VV) (r:bQ):Prop:=
 l.length=r.length/\∀(j:Nat) (q:VV) (p:Int×HT),l[j]? =some q->r[j]? =some p->q.1=.int .i64 p.1/\OwI w B q.2 (lvI p.2)/\(q.2.ownBlock=none\/q.2.ownBlock≠some bd)/\q.2.oneCell'=true
theorem TOK.nil (w:World) (B bd:Nat):TOK w B bd [] []:=⟨rfl,fun j q p h=>by simp at h⟩
theorem TOK.map {w w':World} {B bd bd':Nat} {l:List VV} {r:bQ} (h:TOK w B bd l r) (k:∀(v:Value) (m:List Int),OwI w B v m->(v.ownBlock=none\/v.ownBlock≠some bd)->OwI w' B v m/\(v.ownBlock=none\/v.ownBlock≠some bd')):TOK w' B bd' l r:=
 ⟨h.1,fun j q p hq hp=>by
  obtain⟨h1,h2,h3,h4⟩:=h.2 j q p hq hp;obtain⟨k1,k2⟩:=k _ _ h2 h3;exact⟨h1,k1,k2,h4⟩⟩
theorem TOK.below {w w':World} {B bd:Nat} {l:List VV} {r:bQ} (h:TOK w B bd l r) (hb:Below w.heap.size w w'):TOK w' B bd l r:=h.map (fun _ _ k1 k2=>⟨OwI.below k1 hb (aA _),k2⟩)
theorem TOK.alloc {w:World} {B bd:Nat} {l:List VV} {r:bQ} (h:TOK w B bd l r) (o:Obj):TOK (w.alloc o) B bd l r:=h.map (fun _ _ k1 k2=>⟨OwI.alloc k1 o,k2⟩)
theorem TOK.set {w:World} {B bd:Nat} {l:List VV} {r:bQ} (h:TOK w B bd l r) (i:Nat) (x:Value):TOK (w.setCell ⟨bd,i,none⟩ x) B bd l r:=h.map (fun _ _ k1 k2=>⟨Ow.kept k1 (eM w bd i x) k2,k2⟩)
theorem TOK.snoc {w:World} {B bd:Nat} {l:List VV} {r:bQ} (h:TOK w B bd l r) {q:VV} {p:Int×HT} (h1:q.1=.int .i64 p.1) (h2:OwI w B q.2 (lvI p.2)) (h3:q.2.ownBlock=none\/q.2.ownBlock≠some bd) (h4:q.2.oneCell'=true):TOK w B bd (l++[q]) (r++[p]):=by
 refine⟨by rw[aL,aL,h.1];rfl,fun j q' p' hq hp=>?_⟩
 by_cases hj:j<l.length
 ·rw[gS hj] at hq;rw[gS (by rw[<-h.1];exact hj)] at hp;exact h.2 j q' p' hq hp
 ·have hjl:=(eU.1 hq).1;rw[aL,fK] at hjl;obtain rfl:j=l.length:=by omega
  rw[AQ] at hq;rw[h.1,AQ] at hp;obtain rfl:=bW hq;obtain rfl:=bW hp;exact⟨h1,h2,h3,h4⟩
theorem TOK.one {w:World} {B bd:Nat} {l:List VV} {r:bQ} (h:TOK w B bd l r):nG l:=fun q hq=>by
 obtain⟨j,hj⟩:=List.mem_iff_getElem?.1 hq;have hjl:=(eU.1 hj).1;obtain⟨h1,_,_,h4⟩:=h.2 j q _ hj (aN (by rw[<-h.1];exact hjl));exact⟨by rw[h1];rfl,h4⟩
theorem SJ:∀{l:List Int},(∀x∈l,0<=x)->0<=l.sum/\∀x∈l,x<=l.sum
 |[],_=>⟨by simp,fun x hx=>by simp at hx⟩
 |y::l,h=>by
  obtain⟨h1,h2⟩:=SJ (l:=l) (fun x hx=>h x (jD _ hx));have hy:=h y (lY ..);rw[List.sum_cons];refine⟨by omega,fun x hx=>?_⟩;rcases kD.1 hx with rfl|hx
  ·omega
  ·have:=h2 x hx;omega
theorem SK (ws:List Int) (h1:∀x∈ws,1<=x) (t:Nat) (ht:t<ws.length):∀p∈bP ws t,1<=p.1/\p.1<=ws.sum:=fun p hp=>by
 obtain⟨he,hs⟩:=rO.all ws h1 t ht;have hpos:∀p∈bP ws t,1<=p.1:=fun p hp=>by rw[he.wt p hp];exact HT.wt_pos p.2 (he.even p hp)
 refine⟨hpos p hp,?_⟩;rw[<-hs];refine(SJ (fun x hx=>?_)).2 _ (dU.2 ⟨p,hp,rfl⟩);obtain⟨q,hq,rfl⟩:=dU.1 hx;have:=hpos q hq;omega
theorem SM {ws:List Int} {k:Nat} {x:Int} (h:ws[k]? =some x):bP (ws.take (k+1)) 0=bP (ws.take k) 0++[(x,.leaf k)]:=by
 have hk:=(eU.1 h).1;have hl:(ws.take k).length=k:=by rw[aX];omega
 show((ws.take (k+1)).zipIdx.map _)=_;rw[cQ,h,Option.toList_some,List.zipIdx_append,fI,hl];simp[bP]
theorem TOK.app {W w4:World} {B B' bd bd':Nat} {v3:Value} {l l':List VV} {r:bQ} (h:TOK W B bd l r) (hP:OwP W B' 999983 v3 l') (hg:W.grownBy w4 v3.ownBlock) (hb:bd'=bd\/W.heap.size<=bd'):TOK w4 B bd' l r:=
 h.map (fun v m k1 k2=>⟨Ow.kept k1 hg (qO k1 hP (by decide)),by
  rcases hb with rfl|hb
  ·exact k2
  ·rcases hob:v.ownBlock with _|k
   ·exact .inl rfl
   ·have:=(Ow.lt k1 k hob).2;exact .inr (fun e=>by have:=bW e;omega)⟩)
def LOK (w:World) (xs:List Value) (gs:List (List Int)):Prop:=xs.length=gs.length/\∀(j:Nat) (x:Value) (g:List Int),xs[j]? =some x->gs[j]? =some g->RdI w x g
theorem LOK.nil (w:World):LOK w [] []:=⟨rfl,fun j x g h=>by simp at h⟩
theorem LOK.below {w w':World} {xs:List Value} {gs:List (List Int)} (h:LOK w xs gs) (hb:Below w.heap.size w w'):LOK w' xs gs:=⟨h.1,fun j x g hx hg=>(h.2 j x g hx hg).below hb⟩
theorem LOK.snoc {w:World} {xs:List Value} {gs:List (List Int)} (h:LOK w xs gs) {x:Value} {g:List Int} (hx:RdI w x g):LOK w (xs++[x]) (gs++[g]):=by
 refine⟨by rw[aL,aL,h.1];rfl,fun j x' g' h1 h2=>?_⟩
 by_cases hj:j<xs.length
 ·rw[gS hj] at h1;rw[gS (by rw[<-h.1];exact hj)] at h2;exact h.2 j x' g' h1 h2
 ·have hjl:=(eU.1 h1).1;rw[aL,fK] at hjl;obtain rfl:j=xs.length:=by omega
  rw[AQ] at h1;rw[h.1,AQ] at h2;obtain rfl:=bW h1;obtain rfl:=bW h2;exact hx
def RdL (w:World) (v:Value) (gs:List (List Int)):Prop:=∃xs,Rd w v gs.length xs/\LOK w xs gs
theorem RdL.below {w w':World} {v:Value} {gs:List (List Int)} (h:RdL w v gs) (hb:Below w.heap.size w w'):RdL w' v gs:=by
 obtain⟨xs,h1,h2⟩:=h;exact⟨xs,h1.below hb,h2.below hb⟩
theorem RdL.open {w:World} {v:Value} {gs:List (List Int)} (h:RdL w v gs):∃a cap,v=.slice a gs.length cap/\gs.length<=cap/\cap<=maxLen/\
  (0<gs.length->∃b off,a=some ⟨b,off,none⟩/\b<w.heap.size/\∀(j:Nat) (g:List Int),gs[j]? =some g->∃x,w.cell? ⟨b,off+j,none⟩=some x/\RdI w x g):=by
 obtain⟨xs,⟨a,cap,rfl,h1,h2,h3⟩,h4,h5⟩:=h;refine⟨a,cap,rfl,h1,h2,fun hl=>?_⟩;rcases h3 with rfl|⟨b,off,rfl,hlt,hc⟩
 ·simp only[cX] at h4;omega
 ·refine⟨b,off,rfl,hlt,fun j g hg=>?_⟩;have hj:=(eU.1 hg).1;have hx:xs[j]? =some xs[j]:=aN (by omega);refine⟨xs[j],?_,h5 j _ g hx hg⟩;rw[hc j (by omega),aV,hx];rfl
theorem wK:ElT Tryz.prog 122 39 24 (.slice none 0 0):=ElT.mk' (by kernel_rfl) Tryz.underlying122 rfl (by decide)
theorem Ow.rdL {w:World} {B:Nat} {v:Value} {xs:List Value} {gs:List (List Int)} (h:Ow w B 39 v xs) (hl:LOK w xs gs):RdL w v gs:=⟨xs,by rw[<-hl.1];exact h.rd,hl⟩
theorem Ow.cellAt {w:World} {B e b off n c:Nat} {xs:List Value} (h:Ow w B e (.slice (some ⟨b,off,none⟩) n c) xs) {j:Nat} {x:Value} (hx:xs[j]? =some x):w.cell? ⟨b,off+j,none⟩=some x:=by
 obtain⟨hl,h⟩:=h;rcases h with⟨e1,_⟩|⟨g,cap,cur,e1,hb,hg,hnc,hcm,hcs,ht⟩
 ·cases e1
 ·cases e1
  have hj:=(eU.1 hx).1;rw[iZ,cell_of_row w _ j cur e (0,0) hg];rw[<-ht,List.getElem?_take,if_pos (by omega)] at hx
  simpa using hx
theorem Ow.openN {w:World} {B e:Nat} {v:Value} {xs:List Value} (h:Ow w B e v xs) (h0:0<xs.length):∃b off c,v=.slice (some ⟨b,off,none⟩) xs.length c:=by
 rcases h.2 with⟨rfl,e⟩|⟨g,cap,cur,rfl,_⟩
 ·omega
 ·exact⟨g,0,cap,rfl⟩
theorem yS (c:Nat) (u:List Bool):(bB (c+1) u).flatten=(bB c u).flatten++u:=by
 rw[List.replicate_succ',List.flatten_append];simp
theorem yT (c:Nat) (x y:Bool):((bB c [x,y]).flatten).length=2*c:=by
 induction c with
 |zero=>rfl
 |succ c ih=>rw[yS,aL,ih];simp;omega
theorem aIm {l:List Int} {i:Nat} (h:i<l.length):(l.take i).getLastD (l.getD 0 0)=l.getD (i-1) 0:=by
 cases i with
 |zero=>simp
 |succ i=>
  have hx:l[i]? =some l[i]:=aN (by omega);have e:l.take (i+1)=l.take i++[l[i]]:=by rw[cQ,hx];rfl
  rw[e,jZ,aV,aV,hx,List.getLastD_eq_getLast?,List.getLast?_concat];rfl
theorem TP {l:List Int} {i:Nat} {x:Int} (h:l[i]? =some x):eI (l.getD 0 0) (l.take (i+1))=eI (l.getD 0 0) (l.take i)++jU (l.getD (i-1) 0) x:=by
 have hi:=(eU.1 h).1;rw[cQ,h];show eI _ (_++[x])=_;rw[CY,aIm hi]
def dV (c:Int):UInt8:=UInt8.ofNat c.toNat
theorem KM (l:List Int):dO l=cM (cC 2) (l.map dV):=rfl
theorem DN {l:List Int} (h:∀x∈l,x=0\/x=1):∀b∈l.map dV,b∈cC 2:=fun b hb=>by
 obtain⟨x,hx,rfl⟩:=dU.1 hb;rcases h x hx with rfl|rfl<;>decide
theorem uU (l:List Int):(dO l).length=l.length:=by rw[KM,rH,bJ]
theorem yW {l:List Int} (h:∀x∈l,x=0\/x=1):∀x∈dO l,0<=x/\x<2:=fun x hx=>vT _ _ (DN h) x (by rw[KM] at hx;exact hx)
theorem wL:∀(l:List Int) (B:Nat),(∀x∈l,0<=x/\x<(B:Int))->(dE l).length<=B*l.length
 |[],B,_=>by simp[dE]
 |x::l,B,h=>by
  have ih:=wL l B (fun y hy=>h y (jD _ hy));have hx:=h x (lY ..);have e:dE (x::l)=(bB x.toNat true++[false])++dE l:=rfl;rw[e,aL,aL,List.length_replicate];simp only[List.length_cons,cX,Nat.mul_add,Nat.mul_one];omega
theorem aI4 (b:UInt8):wrap64 (b.toNat:Int)=(b.toNat:Int):=by
 have:=b.toNat_lt;exact IZ (by omega) (by omega)
theorem aI5 (b:UInt8):aI.wrap (b.toNat:Int)=(b.toNat:Int):=by
 have:=b.toNat_lt;exact JA (by omega) (by omega)
theorem UB {s:List UInt8} {t a:Int} {k:Nat} (h:(cO s t a k).2.2=0):cO s t a (k+1)=
  if(gV s t (cO s t a k).2.1 0).2.2≠0 then((cO s t a k).1,(cO s t a k).2.1,(gV s t (cO s t a k).2.1 0).2.2)
  else((cO s t a k).1++[(gV s t (cO s t a k).2.1 0).1],(gV s t (cO s t a k).2.1 0).2.1,0):=by
 show(if(cO s t a k).2.2≠0 then cO s t a k else _)=_;rw[if_neg (fun q=>q h)]
theorem UC {s:List UInt8} {t a:Int} {k:Nat} (h:(cO s t a k).2.2≠0):∀j,(cO s t a (k+j)).2.2=(cO s t a k).2.2
 |0=>rfl
 |j+1=>by
  have ih:=UC h j;show(if(cO s t a (k+j)).2.2≠0 then cO s t a (k+j) else _).2.2=_;rw[if_pos (by rw[ih];exact h),ih]
theorem DO (s:List UInt8) (a n t:Nat) (ht1:2<=t) (ht2:t<=6) (hn:n<=1048576):dD s (a:Int) (n:Int) (t:Int)=
  if(cO s (t:Int) (a:Int) n).2.2≠0 then([],0,(cO s (t:Int) (a:Int) n).2.2) else((unL (cC t) (cO s (t:Int) (a:Int) n).1).map (fun b=>(b.toNat:Int)),(cO s (t:Int) (a:Int) n).2.1,0):=by
 unfold dD;rw[if_neg (by omega)];simp only[eG]
theorem UD {s:List UInt8} {a n t k:Nat} (ht1:2<=t) (ht2:t<=6) (hn:n<=1048576) (hk:k<=n) (h:(cO s (t:Int) (a:Int) k).2.2≠0):dD s (a:Int) (n:Int) (t:Int)=([],0,(cO s (t:Int) (a:Int) k).2.2):=by
 have:=UC h (n-k);rw[show k+(n-k)=n by omega] at this;rw[DO s a n t ht1 ht2 hn,this,if_pos h]
def yX (w w':World) (s:List UInt8) (a n t:Nat) (e:Ending):Prop:=
 ∃v,e=.returned (.tuple #[v,.int .i64 (dD s (a:Int) (n:Int) (t:Int)).2.1,.int .i64 (dD s (a:Int) (n:Int) (t:Int)).2.2])/\OwI w' w.heap.size v (dD s (a:Int) (n:Int) (t:Int)).1/\Below w.heap.size w w'
theorem KN {w w':World} {s:List UInt8} {a n t:Nat} {E:Int} (h:dD s (a:Int) (n:Int) (t:Int)=([],0,E)) (hb:Below w.heap.size w w'):yX w w' s a n t (.returned (.tuple #[.slice none 0 0,.int .i64 0,.int .i64 E])):=by
 refine⟨.slice none 0 0,?_,?_,hb⟩
 ·rw[h]
 ·rw[h];exact OwI.nil _ _
theorem KP {l:List Int} {s:List UInt8} {a i:Nat} (h:aO s.length (a:Int) (bG l i)=0):gZ l s a i↔aE s (a:Int) (bG l i)=fO l i:=by
 have h1:=fQ h;unfold gZ aE;rw[if_pos h,eG];exact⟨fun q=>q.2,fun q=>⟨by omega,q⟩⟩
def iX (X:List Int) (n:Int):List Value:=X.map (bO .i64)++[.int .i64 n]
def EN (X:List Int) (i:Nat):List Int:=(X.drop i).take 1++X.take i++X.drop (i+1)
def wZ:List Value->Nat->List Value->List Value
 |l,_,[]=>l
 |l,o,v::r=>wZ (l.set o v) (o+1) r
theorem Arr.setCells {b:Nat} {e:TypeId}:∀(cs:List Value) (o:Nat) (w:World) (l:List Value),Arr w b e l->Arr (w.setCells b o cs) b e (wZ l o cs)
 |[],_,_,_,h=>h
 |v::cs,o,w,l,h=>Arr.setCells cs (o+1) (w.setCell ⟨b,o,none⟩ v) (l.set o v) (h.set o v)
theorem YZ:∀(cs:List Value) (o:Nat) (l:List Value),(wZ l o cs).length=l.length
 |[],_,_=>rfl
 |v::cs,o,l=>by
  show(wZ (l.set o v) (o+1) cs).length=_;rw[YZ cs,List.length_set]
theorem ZA (b:Nat):∀(cs:List Value) (o:Nat) (w:World),w.grownBy (w.setCells b o cs) (some b)
 |[],_,_=>⟨rfl,rfl,rfl,aA _,fun _ _ _=>rfl⟩
 |v::cs,o,w=>dS (eM w b o v) (ZA b cs (o+1) (w.setCell ⟨b,o,none⟩ v))
theorem aOw (X:List Int) (hX:X.length=6) (n:Int) (i:Nat) (hi:i<6):(wZ (iX X n) 1 ((X.take i).map (bO .i64))).set 0 (.int .i64 (X.getD i 0))=iX (EN X i) n:=by
 match X,hX with
 |[x0,x1,x2,x3,x4,x5],_=>
  obtain rfl|rfl|rfl|rfl|rfl|rfl:i=0\/i=1\/i=2\/i=3\/i=4\/i=5:=by omega
  all_goals rfl
theorem EO {X:List Int} {n:Int} {j:Nat} (h:j<X.length):(iX X n)[j]? =some (.int .i64 (X.getD j 0)):=by
 unfold iX;rw[gS (by rw[bJ];exact h),dY,aV,aN h];rfl
theorem aOx:(Tryz.prog.info? 3).map (·.size)=some 1:=by kernel_rfl
theorem aOy (b o j:Nat):(⟨b,o,none⟩:Addr).add j=⟨b,o+j,none⟩:=by unfold Addr.add;split<;>simp_all
theorem ZB (b:Nat) (X:List Int) (n:Int) (i:Nat) (hX:X.length=6) (hi:i<6) (W:World) (hA:Arr W b 171 (iX X n)):
  Calls Tryz.prog 109 #[.pointer (some ⟨b,0,none⟩),.int .i64 (i:Int)] W fun e w'=>
   e=.returned (.int .i64 (X.getD i 0))/\Arr w' b 171 (iX (EN X i) n)/\W.grownBy w' (some b):=by
 have c1:=hA.cell (EO (n:=n) (show i<X.length by omega));have HP:=hid (aOw X hX n i hi);have hA':Arr W.drew b 171 (iX X n):=hA;have hcs:((X.take i).map (bO .i64)).length=i:=by rw[bJ,aX];omega
 have hcp:=run_copy_cells (P:=Tryz.prog) W.drew 39 39 3 3 b 1 5 5 ⟨b,0,none⟩ i 6 ((X.take i).map (bO .i64)) Tryz.underlying39 aOx (by rw[hcs];exact(gU (by omega)).symm)
  (fun j v hv=>by
   rw[aOy,iZ];have hj:=(eU.1 hv).1;rw[hcs] at hj;rw[dY,List.getElem?_take_of_lt hj,aN (show j<X.length by omega)] at hv;rw[hA'.cell (EO (n:=n) (show j<X.length by omega)),aV,aN (show j<X.length by omega)];exact hv)
  (fun j hj=>by
   rw[hcs] at hj;have hl:(iX X n).length=7:=by unfold iX;rw[aL,bJ,hX];rfl
   rw[hA'.cell (aN (show 1+j<(iX X n).length by omega))];rfl)
  (fun j _=>hA'.free (1+j)) (fun v hv=>by obtain⟨y,_,rfl⟩:=dU.1 hv;rfl)
 rw[hcs] at hcp;have t1:(0:Int)<=(i:Int):=by omega
 have t2:(i:Int)<=6:=by omega
 have t3:(i:Int)<6:=by omega
 have hA2:=hA'.setCells ((X.take i).map (bO .i64)) 1;have hg2:W.grownBy (W.drew.setCells b 1 ((X.take i).map (bO .i64))) (some b):=dS (show W.grownBy W.drew (some b) from⟨rfl,rfl,rfl,aA _,fun _ _ _=>rfl⟩) (ZA b _ 1 W.drew);obtain⟨cs,hcse⟩:∃cs,cs=(X.take i).map (bO .i64):=⟨_,rfl⟩;rw[<-hcse] at hcp hA2 hg2 HP;obtain⟨x,hx⟩:∃x,x=X.getD i 0:=⟨_,rfl⟩;rw[<-hx] at c1 HP ⊢;clear hcs hcse hx hA' hA;go_enter Tryz.func109,Tryz.ntmps109;go_wp2_with fail
 go_region
 generalize W.drew.setCells b 1 cs=W2 at*
 obtain⟨v0,hv0⟩:∃v0,(wZ (iX X n) 1 cs)[0]? =some v0:=⟨_,aN (by rw[YZ];unfold iX;rw[aL,bJ,hX];simp)⟩;have d0:=hA2.cell hv0;have f0:=hA2.free 0;clear hv0 hcp c1;go_wp2_with fail;go_ret;refine⟨rfl,?_,dS hg2 (eM _ _ _ _)⟩;have:=hA2.set 0 (.int .i64 x);rw[HP.out] at this;exact this
theorem ZC (t:Nat) (w:World) (h1:2<=t) (h2:t<=6):Calls Tryz.prog 104 #[.int .i64 (t:Int)] w fun e w'=>e=.returned (.bool true)/\w'=w:=by
 have u1:decide ((t:Int)>=2)=true:=decide_eq_true (by omega);have u2:decide (2<=(t:Int))=true:=decide_eq_true (by omega);have u3:decide ((t:Int)<=6)=true:=decide_eq_true (by omega);go_enter Tryz.func104,Tryz.ntmps104;go_wp2_with fail;go_ret;exact⟨rfl,rfl⟩
def ZD:List Int:=[0,1,2,3,4,5]
def ofI (k:Nat):List Int:=(List.range 6).map (fun j=>if j<k then(j:Int) else 0)
theorem aOz (k:Nat) (n:Int) (h:k<6):(iX (ofI k) n).set k (.int .i64 (k:Int))=iX (ofI (k+1)) n:=by
 obtain rfl|rfl|rfl|rfl|rfl|rfl:k=0\/k=1\/k=2\/k=3\/k=4\/k=5:=by omega
 all_goals rfl
theorem aO0 (k:Nat):(ofI k).length=6:=by simp[ofI]
theorem ZE (n:Int) (w:World):Calls Tryz.prog 107 #[.int .i64 n] w fun e w'=>e=.returned (.pointer (some ⟨w.heap.size,0,none⟩))/\Arr w' w.heap.size 171 (iX ZD n)/\Below w.heap.size w w'/\w.heap.size<w'.heap.size:=by
 go_enter Tryz.func107,Tryz.ntmps107;go_wp2_with fail;have hA:=Arr.new w 171 (iX (ofI 0) n);have hb:=bD (aB w.heap.size w) (.cells (iX (ofI 0) n).toArray 171);have hz:w.heap.size<(w.alloc (.cells (iX (ofI 0) n).toArray 171)).heap.size:=by simp
 change Arr (w.alloc (.cells #[.int .i64 0,.int .i64 0,.int .i64 0,.int .i64 0,.int .i64 0,.int .i64 0,.int .i64 n] 171)) _ _ _ at hA;change Below w.heap.size w (w.alloc (.cells #[.int .i64 0,.int .i64 0,.int .i64 0,.int .i64 0,.int .i64 0,.int .i64 0,.int .i64 n] 171)) at hb;change w.heap.size<(w.alloc (.cells #[.int .i64 0,.int .i64 0,.int .i64 0,.int .i64 0,.int .i64 0,.int .i64 0,.int .i64 n] 171)).heap.size at hz;generalize w.alloc (.cells #[.int .i64 0,.int .i64 0,.int .i64 0,.int .i64 0,.int .i64 0,.int .i64 0,.int .i64 n] 171)=w1 at*
 go_loopg [4,8] 6 (fun g _s4 s8 wr=>∃k:Nat,k<=6/\g=6-k/\s8=.int .i64 (k:Int)/\Arr wr w.heap.size 171 (iX (ofI k) n)/\Below w.heap.size w wr/\w.heap.size<wr.heap.size)
 case atStart=>exact⟨0,aU _,rfl,rfl,hA,hb,hz⟩
 case round=>
  clear hA hb hz;obtain⟨k,hk,hg,rfl,hA,hb,hz⟩:=hrel;have HG:=hid hg;clear hg
  by_cases hlt:k<6
  ·have u1:decide ((k:Int)<6)=true:=decide_eq_true (by omega);have u2:(k:Int)<6:=by omega
   have d:=hA.cell (EO (n:=n) (show k<(ofI k).length by rw[aO0];exact hlt));have f:=hA.free k;have hs:=hA.set k (.int .i64 (k:Int));rw[aOz k n hlt] at hs;go_wp2_with fail;have hg:=HG.out
   go_roundg (6-(k+1))
   case measure=>omega
   case rel=>exact⟨k+1,by omega,rfl,by go_num,hs,hb.setCell (p:=⟨w.heap.size,k,none⟩) (aA _) _,by rw[World.size_setCell];exact hz⟩
  ·have u1:decide ((k:Int)<6)=false:=decide_eq_false (by omega);obtain rfl:k=6:=by omega
   go_wp2_with fail;go_ret;exact⟨rfl,hA,hb,hz⟩
def BX (A:List UInt8):List Int:=A.map (fun b=>(b.toNat:Int))
theorem ZF (A:List UInt8) (i:Nat):EN (BX A) i=BX (eF A i):=by unfold EN eF BX;simp[List.map_take,List.map_drop]
theorem aO1 (A:List UInt8) (i:Nat):(BX A).getD i 0=((A.getD i 0).toNat:Int):=by
 unfold BX;rw[aV,dY,aV]
 cases A[i]? <;>rfl
theorem ZG:BX (cC 6)=ZD:=rfl
theorem tG (A:List UInt8):(BX A).length=A.length:=bJ ..
theorem EP:∀(l:List Int) (A:List UInt8),(∀x∈l,0<=x/\x<(A.length:Int))->(unA A l).length=A.length
 |[],_,_=>rfl
 |x::l,A,h=>by
  have hx:=h x (lY ..);show(unA (eF A x.toNat) l).length=_;rw[EP l _ (fun y hy=>by rw[vS];exact h y (jD _ hy)),vS]
theorem aO2 (s:ByteArray) (a n t:Nat) (w:World) (hs:s.size<=1000000) (ha:a<=80000000) (hn:n<=40000) (ht1:2<=t) (ht2:t<=6):
  Calls Tryz.prog 192 #[.string s,.int .i64 (a:Int),.int .i64 (n:Int),.int .i64 (t:Int)] w fun e w'=>yX w w' s.data.toList a n t e:=by
 have HL:=hid (show s.data.toList.length=s.size by simp);have t4:decide ((a:Int)<0)=false:=decide_eq_false (by omega);have t5:decide ((n:Int)<0)=false:=decide_eq_false (by omega);have t6:decide ((n:Int)>1048576)=false:=decide_eq_false (by omega);have t7:decide (1048576<(n:Int))=false:=decide_eq_false (by omega);have HERR:=hid (fun k hk=>UD (s:=s.data.toList) (a:=a) (n:=n) (k:=k) ht1 ht2 (by omega) hk);have HEQ:=hid (DO s.data.toList a n t ht1 ht2 (by omega));have HOK:=hid (fun k=>wG s.data.toList (t:Int) (a:Int) (by omega) (by omega) k);go_enter Tryz.func192,Tryz.ntmps192
 go_wp2_with fail;refine(ZC t _ ht1 ht2).mono ?_;rintro e w0 ⟨rfl,rfl⟩;go_wp2_with fail;refine(ZE (t:Int) _).mono ?_;rintro e w1 ⟨rfl,hA1,hb1,hz1⟩;obtain⟨z,hz⟩:∃z,z=w0.heap.size:=⟨_,rfl⟩;rw[<-hz] at hA1 hb1 hz1 ⊢;have HZ:=hid hz;clear hz;rw[<-ZG] at hA1;go_wp2_with fail
 go_loopg [1,8,12,13,14,33] n (fun g s1 s8 _s12 _s13 _s14 s33 wr=>∃(k p:Nat) (v:Value) (L:List Int),k<=n/\g=n-k/\v=s8/\s33=.int .i64 (k:Int)/\s1=.int .i64 (p:Int)/\p<=80000000/\Hid (cO s.data.toList (t:Int) (a:Int) k=(L,(p:Int),0))/\OwI wr (z+1) v (BX (unL (cC 6) L))/\Arr wr z 171 (iX (BX (unA (cC 6) L)) (t:Int))/\Below z w0 wr/\z<wr.heap.size)
 case atStart=>exact⟨0,a,_,[],aU _,rfl,rfl,rfl,rfl,ha,hid rfl,OwI.nil _ _,hA1,hb1,hz1⟩
 case round=>
  clear hA1 hb1 hz1;obtain⟨k,p,v,L,hk,hg,rfl,rfl,rfl,hp,HK,ho,hA,hbel,hzr⟩:=hrel;have HG:=hid hg;clear hg
  by_cases hlt:k<n
  ·have v1:decide ((k:Int)<(n:Int))=true:=decide_eq_true (by omega);have hst:=UB (s:=s.data.toList) (t:=(t:Int)) (a:=(a:Int)) (k:=k) (by rw[HK.out]);rw[HK.out] at hst;simp only at hst;have hok:=HOK.out k (by rw[HK.out]);rw[HK.out] at hok;obtain⟨o1,o2,o3,o4⟩:=hok;simp only at o1 o2 o3 o4;have HLb:=hid o2;obtain⟨R,hR⟩:∃R,R=gV s.data.toList (t:Int) (p:Int) 0:=⟨_,rfl⟩;have hAok:=DC s.data.toList (t:Int) (8*s.data.toList.length+2) (p:Int) 0 (by omega) (by omega) (by omega);rw[show jK s.data.toList (t:Int) (8*s.data.toList.length+2) (p:Int) 0=R from hR.symm,HL.out] at hAok
   rw[<-hR] at hst;have HST:=hid hst;have HAK:=hid hAok;have HR:=hid hR.symm;clear hst hAok hR o1 o2 o3 o4;go_wp2_with fail
   go_loopg [1,8,12,13,14] (8*s.size+2-p) (fun g s1 s8 s12 _s13 _s14 wx=>∃q m:Nat,q<=80000000+m/\m<t/\g=8*s.size+2-q/\v=s8/\s1=.int .i64 (q:Int)/\s12=.int .i64 (m:Int)/\Hid (gV s.data.toList (t:Int) (q:Int) (m:Int)=R)/\wx=wr)
   case atStart=>exact⟨p,0,by omega,by omega,rfl,rfl,rfl,rfl,HR,rfl⟩
   case round=>
    obtain⟨q,m,hq,hm,hg,rfl,rfl,rfl,HP,rfl⟩:=hrel;have HG2:=hid hg;clear hg;have hst:=DB s.data.toList (t:Int) (q:Int) (m:Int) (by omega);rw[HP.out,HL.out] at hst;have hg1:=fun W=>sT s (q:Int) 1 W hs (by omega) (by omega) (by omega)
    have hok1:=fQ (n:=s.size) (at':=(q:Int)) (k:=1);have hv1:=iA s.data.toList (q:Int) 1;obtain⟨E1,hE1⟩:∃E1,E1=aO s.size (q:Int) 1:=⟨_,rfl⟩;obtain⟨V1,hV1⟩:∃V1,V1=aE s.data.toList (q:Int) 1:=⟨_,rfl⟩;rw[<-hE1,<-hV1] at hst;rw[<-hE1] at hg1 hok1;rw[<-hV1] at hg1 hv1;clear hE1 hV1;have m1:aI.wrap ((q:Int)+1)=((q:Int)+1):=by rw[aM];omega
    have m2:aI.wrap ((m:Int)+1)=((m:Int)+1):=by rw[aM];omega
    have d6:wr.cell? ⟨z,6,none⟩=some (.int .i64 (t:Int)):=hA.cell (by
     unfold iX;rw[List.getElem?_append_right (by rw[bJ,tG,EP _ _ (fun x hx=>by rw[oR];have:=HLb.out x hx;omega),oR];exact aA _),bJ,tG,EP _ _ (fun x hx=>by rw[oR];have:=HLb.out x hx;omega),oR];rfl)
    by_cases h1:E1=0
    rotate_left
    ·rw[if_pos h1] at hst;have u1:(E1 != 0)=true:=by simpa using h1
     have hF:=HERR.out (k+1) (by omega) (by rw[HST.out,hst];exact(by rw[if_pos h1];exact h1));rw[HST.out,hst,if_pos h1] at hF;have HF:=hid hF;clear hst hF d6;go_wp2_with fail;refine(hg1 _).mono ?_;rintro e w2 ⟨rfl,rfl⟩;go_wp2_with fail
     go_ret3
     exact KN HF.out (HZ.out▸hbel)
    subst h1;rw[if_neg (fun k=>k rfl)] at hst;have hok1:=hok1 rfl
    by_cases h2:V1=0
    ·subst h2;rw[if_pos rfl] at hst;have hS:cO s.data.toList (t:Int) (a:Int) (k+1)=(L++[(m:Int)],(q:Int)+1,0):=by rw[HST.out,hst];rfl
     have HS:=hid hS;have hAl:(unA (cC 6) L).length=6:=by
      rw[EP _ _ (fun x hx=>by rw[oR];have:=HLb.out x hx;omega),oR]
     have hfr:=ZB z (BX (unA (cC 6) L)) (t:Int) m (by rw[tG];exact hAl) (by omega) wr hA;rw[ZF,aO1] at hfr;have HU:=hid (show unL (cC 6) (L++[(m:Int)])=unL (cC 6) L++[(unA (cC 6) L).getD m 0] by rw[IN,eG]);have HV:=hid (show unA (cC 6) (L++[(m:Int)])=eF (unA (cC 6) L) m by rw[IP,eG]);obtain⟨C,hC⟩:∃C,C=(unA (cC 6) L).getD m 0:=⟨_,rfl⟩;rw[<-hC] at hfr HU;have hLl:(BX (unL (cC 6) L)).length<=40000:=by
      rw[tG,oO];have:=(HOK.out k (by rw[HK.out])).1;rw[HK.out] at this;have:L.length=k:=this;omega
     clear hst d6 hS hC hAl;go_wp2_with fail;refine(hg1 _).mono ?_;rintro e w2 ⟨rfl,rfl⟩;go_wp2_with fail;refine hfr.mono ?_;rintro e w3 ⟨rfl,hA3,hg3⟩;have ho3:OwI w3 (z+1) v (BX (unL (cC 6) L)):=Ow.kept ho hg3 (iL ho (sG z));have hb3:=hbel.grown hg3 (by omega) (fun k hk=>by obtain rfl:=bW hk;exact aA _);have hs3:=hg3.size;clear hfr ho hg3;go_wp2_with (at_builtin;refine eN rfl _ _ rfl (z+1) _ _ rfl (OwI.alloc ho3 _) _ (C.toNat:Int) rfl (bS _ _ _) ?_ ?_ ?_;(omega);(simp;omega);intro v4 w4 r1 r2 r3);have hg:=HG.out
     go_roundg (n-(k+1))
     case measure=>omega
     case rel=>
      refine⟨k+1,q+1,_,L++[(m:Int)],by omega,rfl,rfl,by go_num,by go_num,by omega,hid (by rw[HS.out];push_cast;rfl),?_,?_,(hb3.alloc (by omega) _).trans (r2.mono (by omega)),?_⟩
      ·rw[HU.out];unfold BX at r1 ⊢;rw[fI];exact r1
      ·rw[HV.out];exact((Arr.alloc hA3 _).below r2 (sG z))
      ·have:=r2.size;simp only[World.size_alloc] at this;omega
    ·rw[if_neg h2] at hst;have v2:((V1:Int)==0)=false:=by rw[beq_eq_false_iff_ne];omega
     have v3:(V1==0)=false:=by rw[beq_eq_false_iff_ne];omega
     by_cases h3:(m:Int)+1=(t:Int)
     ·rw[if_pos h3] at hst;have v4:((m:Int)+1==(t:Int))=true:=by rw[beq_iff_eq];exact h3
      have hF:=HERR.out (k+1) (by omega) (by rw[HST.out,hst];exact(by decide:(3:Int)≠0));rw[HST.out,hst] at hF;have HF:=hid hF;clear hst hF h3;go_wp2_with fail;refine(hg1 _).mono ?_;rintro e w2 ⟨rfl,rfl⟩;go_wp2_with fail
      go_ret3
      exact KN HF.out (HZ.out▸hbel)
     ·rw[if_neg h3] at hst;have v4:((m:Int)+1==(t:Int))=false:=by rw[beq_eq_false_iff_ne];exact h3
      have HS:=hid hst.symm;clear hst;go_wp2_with fail;refine(hg1 _).mono ?_;rintro e w2 ⟨rfl,rfl⟩;go_wp2_with fail;have hg2:=HG2.out
      go_roundg (8*s.size+2-(q+1))
      case measure=>omega
      case rel=>exact⟨q+1,m+1,by omega,by omega,rfl,rfl,by go_num,by go_num,by push_cast;exact HS,rfl⟩
  ·have v1:decide ((k:Int)<(n:Int))=false:=decide_eq_false (by omega);have hke:k=n:=by omega
   subst hke;have hEQ:=HEQ.out;rw[HK.out] at hEQ;have hok:=HOK.out k (by rw[HK.out]);rw[HK.out] at hok;have hU:unL (cC t) L=unL (cC 6) L:=by
    rw[JZ ht2,(SD L (cC t) _ (fun x hx=>by rw[oR];exact hok.2.1 x hx)).1]
   have HF:=hid (show dD s.data.toList (a:Int) (k:Int) (t:Int)=(BX (unL (cC 6) L),(p:Int),0) by
    rw[hEQ,if_neg (fun q=>q rfl),<-hU];rfl)
   clear hEQ hok hU;go_wp2_with fail
   go_ret3
   exact⟨_,by rw[HF.out];rfl,by rw[HF.out];exact Ow.base ho (by rw[<-HZ.out];omega),HZ.out▸hbel⟩
theorem EQ {l:List Int} {k:Nat} {x y:Int} (h:l[k]? =some x) (hy:y∈l.take (k+1)):y∈l.take k\/y=x:=by
 rw[cQ,h] at hy;rcases cU.1 hy with hy|hy
 ·exact .inl hy
 ·simp at hy;exact .inr hy
theorem aPa (v:Value) (l:List Int) (w:World) (hr:RdI w v l) (h1:1<=l.length):
  Calls Tryz.prog 153 #[v] w fun e w'=>∃m,e=.returned (.int .i64 m)/\m∈l/\(∀x∈l,m<=x)/\w'=w:=by
 obtain⟨a,ca,rfl,hca,hma,hA⟩:=hr.open;unfold maxLen at hma;clear hr;obtain⟨b1,o1,rfl,hb1,hc1⟩:=hA (by omega);obtain⟨x0,hx0⟩:=dH h1;have c0:=hc1 0 x0 hx0;rw[pH] at c0;have HX0:=hid hx0;have t0:decide ((l.length:Int)<1)=false:=decide_eq_false (by omega);have t0':(0:Int)<(l.length:Int):=by omega
 have t0'':0<l.length:=by omega
 clear hx0 hA;go_enter Tryz.func153,Tryz.ntmps153;go_wp2_with fail
 go_loopg [3,4] (l.length-1) (fun g s3 s4 wr=>∃(k:Nat) (M:Int),1<=k/\k<=l.length/\g=l.length-k/\s4=.int .i64 (k:Int)/\s3=.int .i64 M/\Hid (M∈l/\∀x∈l.take k,M<=x)/\wr=w)
 case atStart=>exact⟨1,x0,by omega,h1,rfl,rfl,rfl,hid ⟨cH HX0.out,fun y hy=>by
  rcases EQ (k:=0) HX0.out hy with q|q
  ·simp at q
  ·omega⟩,rfl⟩
 case round=>
  obtain⟨k,M,hk1,hk,hg,rfl,rfl,HM,rfl⟩:=hrel;have HG:=hid hg;clear hg
  by_cases hlt:k<l.length
  ·have t1:decide ((k:Int)<(l.length:Int))=true:=decide_eq_true (by omega);obtain⟨x,hx⟩:=dH hlt;have c1:=hc1 k x hx;have HX:=hid hx;clear hc1 hx;go_wp2_with fail;have hg:=HG.out
   go_roundg (l.length-(k+1))
   case measure=>omega
   case rel=>exact⟨k+1,min M x,by omega,by omega,rfl,by go_num,rfl,hid ⟨by
    rcases Int.min_def M x▸(by split<;>simp:(if M<=x then M else x)=M\/(if M<=x then M else x)=x) with q|q
    ·rw[q];exact HM.out.1
    ·rw[q];exact cH HX.out,fun y hy=>by
    rcases EQ HX.out hy with q|q
    ·have:=HM.out.2 y q;omega
    ·omega⟩,rfl⟩
  ·have t1:decide ((k:Int)<(l.length:Int))=false:=decide_eq_false (by omega);have HF:=hid (show ∀x∈l,M<=x from fun x hx=>HM.out.2 x (by rw[cS (by omega)];exact hx));go_wp2_with fail;go_ret;exact⟨M,rfl,HM.out.1,HF.out,rfl⟩
theorem ZH (v:Value) (l:List Int) (w:World) (hr:RdI w v l) (h1:1<=l.length):
  Calls Tryz.prog 134 #[v] w fun e w'=>∃m,e=.returned (.int .i64 m)/\m∈l/\(∀x∈l,x<=m)/\w'=w:=by
 obtain⟨a,ca,rfl,hca,hma,hA⟩:=hr.open;unfold maxLen at hma;clear hr;obtain⟨b1,o1,rfl,hb1,hc1⟩:=hA (by omega);obtain⟨x0,hx0⟩:=dH h1;have c0:=hc1 0 x0 hx0;rw[pH] at c0;have HX0:=hid hx0;have t0:decide ((l.length:Int)<1)=false:=decide_eq_false (by omega);have t0':(0:Int)<(l.length:Int):=by omega
 have t0'':0<l.length:=by omega
 clear hx0 hA;go_enter Tryz.func134,Tryz.ntmps134;go_wp2_with fail
 go_loopg [3,4] (l.length-1) (fun g s3 s4 wr=>∃(k:Nat) (M:Int),1<=k/\k<=l.length/\g=l.length-k/\s4=.int .i64 (k:Int)/\s3=.int .i64 M/\Hid (M∈l/\∀x∈l.take k,x<=M)/\wr=w)
 case atStart=>exact⟨1,x0,by omega,h1,rfl,rfl,rfl,hid ⟨cH HX0.out,fun y hy=>by
  rcases EQ (k:=0) HX0.out hy with q|q
  ·simp at q
  ·omega⟩,rfl⟩
 case round=>
  obtain⟨k,M,hk1,hk,hg,rfl,rfl,HM,rfl⟩:=hrel;have HG:=hid hg;clear hg
  by_cases hlt:k<l.length
  ·have t1:decide ((k:Int)<(l.length:Int))=true:=decide_eq_true (by omega);obtain⟨x,hx⟩:=dH hlt;have c1:=hc1 k x hx;have HX:=hid hx;clear hc1 hx;go_wp2_with fail;have hg:=HG.out
   go_roundg (l.length-(k+1))
   case measure=>omega
   case rel=>exact⟨k+1,max M x,by omega,by omega,rfl,by go_num,rfl,hid ⟨by
    rcases Int.max_def M x▸(by split<;>simp:(if M<=x then x else M)=M\/(if M<=x then x else M)=x) with q|q
    ·rw[q];exact HM.out.1
    ·rw[q];exact cH HX.out,fun y hy=>by
    rcases EQ HX.out hy with q|q
    ·have:=HM.out.2 y q;omega
    ·omega⟩,rfl⟩
  ·have t1:decide ((k:Int)<(l.length:Int))=false:=decide_eq_false (by omega);have HF:=hid (show ∀x∈l,x<=M from fun x hx=>HM.out.2 x (by rw[cS (by omega)];exact hx));go_wp2_with fail;go_ret;exact⟨M,rfl,HM.out.1,HF.out,rfl⟩
theorem aPb (n:Nat) (f:Nat->Int):(tab n f).toArray.size=n:=by simp[tab]
theorem ZI (f:Nat->Int):(Tryz.prog.info? 236).map (·.size)=some (tab 21 f).toArray.size:=by rw[aPb];kernel_rfl
theorem MI:Tryz.prog.underlying 236=some (.array 21 3):=by kernel_rfl
theorem aPc {w:World} {b:Nat} {e:TypeId} {l:List Value} (n:Nat) (h:Arr w b e l) (hl:l.length=n) (f:Nat->Int):
  (storeCells ⟨b,0,none⟩ (tab n f)).run Tryz.prog w=.ok () (w.setRow b (tab n f).toArray):=by
 have h1:(tab n f).length=n:=by simp[tab]
 have h2:=run_storeCells_from (P:=Tryz.prog) b e (tab n f) 0 l.toArray w h (by simp[hl,h1]) (fun v hv=>by obtain⟨c,_,rfl⟩:=dU.1 hv;rfl);rw[h2]
 congr 2
theorem aPd (f:Nat->Int) (k:Nat) (hk:k<21) (w:World):(tV 236 (.agg (tab 21 f).toArray) (.int .i64 (k:Int))).run Tryz.prog w=.ok (.int .i64 (f k)) w:=by
 have h:(tab 21 f)[k]? =some (.int .i64 (f k)):=iS 21 f k hk;have hk2:(k:Int)<21:=by omega
 simp[tV,sI MI,asIntOf,hk,part,isAgg,sI Tryz.underlying3,h,Result.andThen]
theorem aPe (v:Value) (l:List Int) (w:World) (hr:RdI w v l) (hl:∀x∈l,1<=x/\x<=20) (hn:l.length<=258):
  Calls Tryz.prog 154 #[v] w fun e w'=>e=.returned (.agg (tab 21 (fun n=>(bU l n:Int))).toArray)/\Below w.heap.size w w':=by
 obtain⟨a,ca,rfl,hca,hma,hA⟩:=hr.open;unfold maxLen at hma;clear hr;have HL:=hid hl;clear hl;go_enter Tryz.func154,Tryz.ntmps154;go_wp2_with fail
 go_loopg [4,7] l.length (fun g _s4 s7 wr=>∃k:Nat,k<=l.length/\g=l.length-k/\s7=.int .i64 (k:Int)/\Arr wr w.heap.size 236 (tab 21 (fun n=>(bU (l.take k) n:Int)))/\Below w.heap.size w wr)
 case atStart=>
  refine⟨0,aU _,rfl,rfl,?_,(aB _ _).alloc (aA _) _⟩;exact Arr.new w _ (tab 21 (fun _=>0))
 case round=>
  obtain⟨k,hk,hg,rfl,harr,hbel⟩:=hrel;have HG:=hid hg;clear hg
  by_cases hlt:k<l.length
  ·have t1:decide ((k:Int)<(l.length:Int))=true:=decide_eq_true (by omega);obtain⟨b1,o1,rfl,hb1,hc1⟩:=hA (by omega);obtain⟨x,hx⟩:=dH hlt;have c1:=((lP hbel).1 b1 (o1+k) hb1).trans (hc1 k _ hx);have hxb:=HL.out x (cH hx);obtain⟨y,rfl⟩:∃y:Nat,x=(y:Int):=⟨x.toNat,by omega⟩;have hy:y<21:=by omega
   have hy':(y:Int)<21:=by omega
   have d1:=harr.cell (iS 21 _ y hy);have f1:=harr.free y;have hS:=fun n=>BN hlt n
   have hgD:l.getD k 0=(y:Int):=by rw[aV,hx];rfl
   rw[hgD] at hS;have hcb:bU (l.take k) y<=258:=by unfold bU;exact aW xR (by rw[aX];omega)
   obtain⟨C,hC⟩:∃C,C=bU (l.take k) y:=⟨_,rfl⟩;rw[<-hC] at d1 hcb;have m1:aI.wrap ((C:Int)+1)=(C:Int)+1:=by rw[aM];omega
   have HT:=hid (qD 21 (fun n=>(bU (l.take k) n:Int)) (fun n=>(bU (l.take (k+1)) n:Int)) y ((C:Int)+1) (fun d hd=>by
    show((bU (l.take (k+1)) d:Nat):Int)=_;rw[hS d]
    by_cases e:d=y
    ·subst e;rw[if_pos (by simp),if_pos rfl,<-hC];omega
    ·rw[if_neg (by simp;omega),if_neg e];omega))
   clear hC hS hgD hx hc1 hA hxb;go_wp2_with fail;have hg:=HG.out
   go_roundg (l.length-(k+1))
   case measure=>omega
   case rel=>
    refine⟨k+1,by omega,rfl,by go_num,?_,hbel.setCell (p:=⟨w.heap.size,y,none⟩) (aA _) _⟩;rw[<-HT.out];exact harr.set y _
  ·have t1:decide ((k:Int)<(l.length:Int))=false:=decide_eq_false (by omega);have hke:k=l.length:=by omega
   subst hke;rw[kE] at harr;have hst:=aPc 21 harr (by simp[tab]) (fun n=>(bU l n:Int));go_upto_region 6 with fail;go_wp2_with (refine wpList_load_row rfl 236 (.tmp 2) rfl w.heap.size rfl _ _ (0,0) (.array 21 3) harr MI rfl (ZI _) ?_);have harr2:Arr (wr.setRow w.heap.size (tab 21 (fun n=>(bU l n:Int))).toArray) w.heap.size 236 (tab 21 (fun n=>(bU l n:Int))):=setRow_heap wr w.heap.size _ _ 236 (0,0) harr;refine gJ (results_cell_row rfl _ _ w.heap.size _ _ (0,0) (.array 21 3) rfl harr2 MI rfl (ZI _)) rfl ?_
   exact⟨rfl,zB hbel _ (aA _) _⟩
def MJ (l:List Int):Nat->Int
 |0=>1
 |n+1=>pN l n
theorem aPf (l:List Int) (k:Nat):pN l k=(if k=0 then MJ l k else 2*MJ l k)-(bU l k:Int):=by
 cases k with
 |zero=>rfl
 |succ k=>rfl
theorem zS (v:Value) (l:List Int) (w:World) (hr:RdI w v l):
  Calls Tryz.prog 135 #[v] w fun e w'=>e=.returned (.int .i64 (bL l))/\Below w.heap.size w w':=by
 have hr0:=hr;obtain⟨a,ca,rfl,hca,hma,hA⟩:=hr.open;unfold maxLen at hma;clear hr hA
 by_cases h2:2<=l.length/\l.length<=258
 rotate_left
 ·have HC:=hid (ST h2)
  by_cases h3:l.length<2
  ·have t1:decide ((l.length:Int)<2)=true:=decide_eq_true (by omega);go_enter Tryz.func135,Tryz.ntmps135;go_wp2_with fail;go_ret;exact⟨by rw[HC.out];rfl,aB _ _⟩
  ·have t1:decide ((l.length:Int)<2)=false:=decide_eq_false (by omega);have t2:decide ((l.length:Int)>258)=true:=decide_eq_true (by omega);have t3:decide ((258:Int)<(l.length:Int))=true:=decide_eq_true (by omega);go_enter Tryz.func135,Tryz.ntmps135;go_wp2_with fail;go_ret;exact⟨by rw[HC.out];rfl,aB _ _⟩
 ·have t1:decide ((l.length:Int)<2)=false:=decide_eq_false (by omega);have t2:decide ((l.length:Int)>258)=false:=decide_eq_false (by omega);have t3:decide ((258:Int)<(l.length:Int))=false:=decide_eq_false (by omega);have hmin:=aPa _ l w hr0 (by omega);have hmax:=ZH _ l w hr0 (by omega);have hcnt:=aPe _ l w hr0;clear hr0;go_enter Tryz.func135,Tryz.ntmps135;go_wp2_with fail;refine hmin.mono ?_;rintro e w1 ⟨m,rfl,hm1,hm2,rfl⟩
  by_cases hm:m<1
  ·have u1:decide (m<1)=true:=decide_eq_true hm;obtain⟨k,hk⟩:=QB hm1;have HC:=hid (DG hk (by omega));clear hk hm2 hcnt hmax hmin;go_wp2_with fail;go_ret;exact⟨by rw[HC.out];rfl,aB _ _⟩
  ·have u1:decide (m<1)=false:=decide_eq_false hm;have HM:=hid hm2;clear hm2 hmin hm1;go_wp2_with fail;refine hmax.mono ?_;rintro e w2 ⟨x,rfl,hx1,hx2,rfl⟩
   by_cases hx:20<x
   ·have u2:decide (x>20)=true:=decide_eq_true hx;have u3:decide (20<x)=true:=decide_eq_true hx;obtain⟨k,hk⟩:=QB hx1;have HC:=hid (DG hk (by omega));clear hk hx2 hcnt hmax;go_wp2_with fail;go_ret;exact⟨by rw[HC.out];rfl,aB _ _⟩
   ·have u2:decide (x>20)=false:=decide_eq_false hx;have u3:decide (20<x)=false:=decide_eq_false hx;have hall:∀y∈l,1<=y/\y<=20:=fun y hy=>by
     have:=HM.out y hy;have:=hx2 y hy;omega
    have HALL:=hid hall;have HC:=hid (SU ⟨h2.1,h2.2,hall⟩);have hcnt:=hcnt hall h2.2;have HOV:=hid (fun n (hn:n<=20)=>aDn hall hn);have HFI:=hid (aDo hall);have HBD:=hid (fun n=>aDp (l:=l) (n:=n) (fun y hy=>(hall y hy).1));clear hall hx2 HM hmax;go_wp2_with fail;refine hcnt.mono ?_;rintro e w3 ⟨rfl,hb3⟩;go_wp2_with fail
    go_loopg [3,4,5,26] 21 (fun g s3 _s4 _s5 s26 wr=>∃(k:Nat) (X:Int),k<=21/\g=21-k/\s26=.int .i64 (k:Int)/\s3=.int .i64 X/\Hid (X=MJ l k)/\Hid (∀n,n<k->0<=pN l n)/\wr=w3)
    case atStart=>exact⟨0,1,by omega,rfl,rfl,rfl,hid rfl,hid (fun n hn=>by omega),rfl⟩
    case round=>
     obtain⟨k,X,hk,hg,rfl,rfl,HX,HN,rfl⟩:=hrel;have HG:=hid hg;clear hg
     by_cases hlt:k<21
     ·have v1:decide ((k:Int)<21)=true:=decide_eq_true (by omega);have ix:=aPd (fun n=>(bU l n:Int)) k hlt wr;have hcb:bU l k<=258:=by unfold bU;exact aW xR h2.2
      have hB:0<=X/\X<=1048576:=by
       rw[HX.out]
       cases k with
       |zero=>exact⟨show(0:Int)<=1 by decide,show(1:Int)<=1048576 by decide⟩
       |succ k=>
        refine⟨HN.out k (by omega),Int.le_trans (HBD.out k) ?_⟩;have:(2:Nat)^k<=2^20:=Nat.pow_le_pow_right (by decide) (by omega);have e:(2:Nat)^20=1048576:=by decide
        have:(((2:Nat)^k:Nat):Int)<=1048576:=by omega
        simpa using this
      have hY:=aPf l k;rw[<-HX.out] at hY;have hov:=HOV.out k (by omega);obtain⟨Y,hYe⟩:∃Y,Y=pN l k:=⟨_,rfl⟩;obtain⟨C,hCe⟩:∃C,C=bU l k:=⟨_,rfl⟩;rw[<-hYe] at hY hov;simp only[<-hCe] at ix;rw[<-hCe] at hY hcb;have HY:=hid hYe;clear hYe hCe
      by_cases hk0:k=0
      ·subst hk0;rw[if_pos rfl] at hY;rw[show((0:Nat):Int)=0 from rfl] at ix;have v2:decide ((0:Int)>0)=false:=by decide
       have v3:decide (((0:Nat):Int)>0)=false:=by decide
       have m4:X-(C:Int)=Y:=by omega
       have m5:aI.wrap Y=Y:=by rw[aM];omega
       by_cases hY0:Y<0
       ·have w1:decide (Y<0)=true:=decide_eq_true hY0;have HC2:=hid (show bL l=6 by rw[HC.out,if_pos (hov hY0)]);clear hov hY hB hcb;go_wp2_with fail;go_ret;exact⟨by rw[HC2.out];rfl,hb3⟩
       ·have w1:decide (Y<0)=false:=decide_eq_false hY0;clear hov hY hB hcb;go_wp2_with fail;have hg:=HG.out
        go_roundg (21-(0+1))
        case measure=>omega
        case rel=>exact⟨0+1,Y,by omega,rfl,by go_num,rfl,HY,hid (fun n hn=>by
         rcases bT n 0 with h|h
         ·exact HN.out n h
         ·rw[show n=0 by omega,<-HY.out];omega),rfl⟩
      ·rw[if_neg hk0] at hY;have v2:decide ((k:Int)>0)=true:=decide_eq_true (by omega);have v3:decide (0<k)=true:=decide_eq_true (by omega);have v4:0<k:=by omega
       obtain⟨D,hD⟩:∃D,D=2*X:=⟨_,rfl⟩;have m1:aI.wrap (X*2)=D:=by rw[aM];omega
       have m2:X*2=D:=by omega
       have m3:aI.wrap D=D:=by rw[aM];omega
       rw[<-hD] at hY;have m4:D-(C:Int)=Y:=by omega
       have m5:aI.wrap Y=Y:=by rw[aM];omega
       by_cases hY0:Y<0
       ·have w1:decide (Y<0)=true:=decide_eq_true hY0;have HC2:=hid (show bL l=6 by rw[HC.out,if_pos (hov hY0)]);clear hov hY hB hcb hD;go_wp2_with fail;go_ret;exact⟨by rw[HC2.out];rfl,hb3⟩
       ·have w1:decide (Y<0)=false:=decide_eq_false hY0;clear hov hY hB hcb hD;go_wp2_with fail;have hg:=HG.out
        go_roundg (21-(k+1))
        case measure=>omega
        case rel=>exact⟨k+1,Y,by omega,rfl,by go_num,rfl,HY,hid (fun n hn=>by
         rcases bT n k with h|h
         ·exact HN.out n h
         ·rw[show n=k by omega,<-HY.out];omega),rfl⟩
     ·have v1:decide ((k:Int)<21)=false:=decide_eq_false (by omega);have HC2:=hid (show bL l=0 by rw[HC.out,if_neg (by have:=HFI.out (fun n hn=>HN.out n (by omega));omega)]);go_wp2_with fail;go_ret;exact⟨by rw[HC2.out];rfl,hb3⟩
theorem ZL (n:Nat) (w:World) (h1:2<=n) (h2:n<=258):Calls Tryz.prog 110 #[.int .i64 (n:Int)] w fun e w'=>e=.returned (.bool true)/\w'=w:=by
 have t1:decide ((n:Int)>=2)=true:=decide_eq_true (by omega);have t2:decide ((2:Int)<=(n:Int))=true:=decide_eq_true (by omega);have t3:decide ((n:Int)<=258)=true:=decide_eq_true (by omega);go_enter Tryz.func110,Tryz.ntmps110;go_wp2;go_ret;exact⟨rfl,rfl⟩
theorem ZM (x:Int) (w:World):Calls Tryz.prog 112 #[.int .i64 x] w fun e w'=>e=.returned (.bool (decide (1<=x)&&decide (x<=20)))/\w'=w:=by
 by_cases h1:1<=x
 ·have t1:decide (x>=1)=true:=decide_eq_true h1;have t2:decide (1<=x)=true:=decide_eq_true h1
  by_cases h2:x<=20
  ·have t3:decide (x<=20)=true:=decide_eq_true h2;go_enter Tryz.func112,Tryz.ntmps112;go_wp2;go_ret;exact⟨by first|rfl|(simp[h1,h2]),rfl⟩
  ·have t3:decide (x<=20)=false:=decide_eq_false h2;go_enter Tryz.func112,Tryz.ntmps112;go_wp2;go_ret;exact⟨by first|rfl|(simp[h1,h2]),rfl⟩
 ·have t1:decide (x>=1)=false:=decide_eq_false h1;have t2:decide (1<=x)=false:=decide_eq_false h1;go_enter Tryz.func112,Tryz.ntmps112;go_wp2;go_ret;exact⟨by first|rfl|(simp[h1]),rfl⟩
theorem aPj (x:Int) (w:World):Calls Tryz.prog 111 #[.int .i64 x] w fun e w'=>e=.returned (.bool (!(decide (1<=x)&&decide (x<=20))))/\w'=w:=by
 have h:=ZM x;obtain⟨b,hb⟩:∃b,b=(decide (1<=x)&&decide (x<=20)):=⟨_,rfl⟩;rw[<-hb];rw[<-hb] at h;clear hb;go_enter Tryz.func111,Tryz.ntmps111;go_wp2_with fail;refine(h _).mono ?_;rintro e w' ⟨rfl,rfl⟩;go_wp2;go_ret;exact⟨rfl,rfl⟩
def qR (w:World) (b:Nat) (D:List Bool):Prop:=Arr w b 77 [.string (mkS (aD D)),.int .i64 (D.length:Int)]
theorem qR.set {w:World} {b:Nat} {D:List Bool} (h:qR w b D) (E:List Bool):qR ((w.setCell ⟨b,0,none⟩ (.string (mkS (aD E)))).setCell ⟨b,1,none⟩ (.int .i64 (E.length:Int))) b E:=(Arr.set h 0 _).set 1 _
theorem ZN (v:Value) (l:List Int) (w:World) (hr:RdI w v l) (hok:fY l):
  Calls Tryz.prog 74 #[v] w fun e w'=>e=.returned (.tuple #[eL (dW l),.int .i64 0])/\Below w.heap.size w w':=by
 obtain⟨hl1,hl2,hall⟩:=hok;have hcf:∀W,Below w.heap.size w W->Calls Tryz.prog 105 #[v,.func (.func 111) #[] #[]] W fun e w'=>e=.returned (.bool false)/\w'=W:=fun W hW=>
  (uN 111 #[] (fun x=> !(decide (1<=x)&&decide (x<=20))) v l W (hr.below hW) (enters_of Tryz.func111 (by kernel_rfl) rfl) (fun W _ x _=>aPj x W)).mono fun e w' ⟨h1,h2⟩=>by
  rw[oN (fun x hx=>by have:=hall x hx;simp;omega)] at h1;exact⟨h1,h2⟩
 have HDL:=hid (fun k=>CZ (l.take k) (l.getD 0 0) (by
  rw[aV,aN (show 0<l.length by omega)];exact(hall _ (gT _)).1) (by
  rw[aV,aN (show 0<l.length by omega)];exact(hall _ (gT _)).2) (fun x hx=>hall x (List.mem_of_mem_take hx)))
 have hgD:∀i,i<l.length->1<=l.getD i 0/\l.getD i 0<=20/\l[i]? =some (l.getD i 0):=fun i hi=>by
  rw[aV,aN hi];exact⟨(hall _ (gT hi)).1,(hall _ (gT hi)).2,rfl⟩
 have HGD:=hid hgD;clear hall;have hA0:=Arr.new w 77 [.string ⟨#[]⟩,.int .i64 0];have hs0:(w.alloc (.cells #[.string ⟨#[]⟩,.int .i64 0] 77)).heap.size=w.heap.size+1:=by simp
 have hb0:Below w.heap.size w (w.alloc (.cells #[.string ⟨#[]⟩,.int .i64 0] 77)):=bD (aB _ _) _;change Arr (w.alloc (.cells #[.string ⟨#[]⟩,.int .i64 0] 77)) _ _ _ at hA0;obtain⟨a,ca,rfl,hca,hma,hA⟩:=hr.open;unfold maxLen at hma;obtain⟨b1,o1,rfl,hb1,hc1⟩:=hA (by omega);clear hA hgD hr;go_enter Tryz.func74,Tryz.ntmps74;go_wp2_with fail;generalize w.alloc (.cells #[.string ⟨#[]⟩,.int .i64 0] 77)=w0 at*
 refine(ZL l.length _ hl1 hl2).mono ?_;rintro e w1 ⟨rfl,rfl⟩;go_wp2_with fail;refine(hcf _ hb0).mono ?_;rintro e w2 ⟨rfl,rfl⟩;obtain⟨x1,x2,hx⟩:=HGD.out 0 (by omega);have hc2:∀j x,l[j]? =some x->w2.cell? ⟨b1,o1+j,none⟩=some (.int .i64 x):=fun j x hj=>((lP hb0).1 b1 (o1+j) hb1).trans (hc1 j x hj)
 have c0:=hc2 0 _ hx;rw[pH] at c0;obtain⟨y,hy⟩:∃y:Nat,l.getD 0 0=(y:Int):=⟨(l.getD 0 0).toNat,by omega⟩;have HY:=hid hy;rw[hy] at c0 x1 x2;have y1:y<18446744073709551616:=by omega
 have m1:IntKind.u64.wrap (y:Int)=(y:Int):=by rw[IntKind.wrap_u64];omega
 have m2:(y:Int)%18446744073709551616=(y:Int):=by omega
 have z1:0<l.length:=by omega
 have z2:(0:Int)<(l.length:Int):=by omega
 have d0:=hA0.cell (i:=0) rfl;have d1:=hA0.cell (i:=1) rfl;clear hy hx hcf hc1;go_wp2_with fail;refine(uH [] y 5 _ y1 (by decide) (by decide)).mono ?_;rintro e w3 ⟨rfl,hb3⟩;unfold eL;rw[List.nil_append];have hA3:=hA0.below hb3 (by omega);have hB3:=hb0.trans (hb3.mono (by omega));have hc3:∀j x,l[j]? =some x->w3.cell? ⟨b1,o1+j,none⟩=some (.int .i64 x):=fun j x hj=>((lP hb3).1 b1 (o1+j) (by omega)).trans (hc2 j x hj)
 have hs3:=hb3.size;have e0:=hA3.cell (i:=0) rfl;have e1:=hA3.cell (i:=1) rfl;have f0:=hA3.free 0;have f1:=hA3.free 1;clear hA0 hb0 hc2 c0 d0 d1;obtain⟨D,hD⟩:∃D,D=aY y 5:=⟨_,rfl⟩;rw[<-hD];have HD:=hid hD;clear hD;go_wp2_with fail;have hW3:qR ((w3.setCell ⟨w.heap.size,0,none⟩ (.string (mkS (aD D)))).setCell ⟨w.heap.size,1,none⟩ (.int .i64 (D.length:Int))) w.heap.size D:=(hA3.set 0 _).set 1 _
 have hBW:Below w.heap.size w3 ((w3.setCell ⟨w.heap.size,0,none⟩ (.string (mkS (aD D)))).setCell ⟨w.heap.size,1,none⟩ (.int .i64 (D.length:Int))):=((aB w.heap.size w3).setCell (p:=⟨w.heap.size,0,none⟩) (aA _) _).setCell (p:=⟨w.heap.size,1,none⟩) (aA _) _;generalize (w3.setCell ⟨w.heap.size,0,none⟩ (.string (mkS (aD D)))).setCell ⟨w.heap.size,1,none⟩ (.int .i64 (D.length:Int))=w4 at*
 have HC3:=hid (fun j x hj=>(hBW.cell (p:=⟨b1,o1+j,none⟩) hb1).trans (hc3 j x hj));have hB4:=hB3.trans hBW;have hs4:=hBW.size;have hput:=fun(L:List Bool) (v n:Nat) W h1 h2 h3=>uH L v n W h1 h2 h3
 unfold eL at hput;clear e0 e1 f0 f1 hA3 hc3 hb3 hB3 hBW
 go_loopg [4,6,28] l.length (fun g s4 _s6 s28 wx=>∃(i:Nat) (p:Int),i<=l.length/\g=l.length-i/\s28=.int .i64 (i:Int)/\s4=.int .i64 p/\p=l.getD (i-1) 0/\qR wx w.heap.size (aY y 5++eI (l.getD 0 0) (l.take i))/\Below w.heap.size w4 wx)
 case atStart=>exact⟨0,(y:Int),aU _,rfl,rfl,rfl,HY.out.symm,by rw[<-HD.out];simpa [eI] using hW3,aB _ _⟩
 case round=>
  obtain⟨i,p,hi,hg,rfl,rfl,hpe,hbox,hbel⟩:=hrel;have HG2:=hid hg;clear hg hW3;have hsz:=hbel.size;have hdl:=HDL.out i;rw[aX,gU hi] at hdl;obtain⟨E,hE⟩:∃E,E=aY y 5++eI (l.getD 0 0) (l.take i):=⟨_,rfl⟩;have hEl:E.length<=5+39*i:=by rw[hE,aL,cY];omega
  rw[<-hE] at hbox;have HE:=hid hE;clear hE hdl
  by_cases hlt2:i<l.length
  ·have u2:decide ((i:Int)<(l.length:Int))=true:=decide_eq_true (by omega);obtain⟨x1',x2',hx⟩:=HGD.out i hlt2;obtain⟨p1,p2,hp⟩:=HGD.out (i-1) (by omega);have c1:=(hbel.cell (p:=⟨b1,o1+i,none⟩) hb1).trans (HC3.out i _ hx);have hdt:=TP hx;have HXD:=hid (show l.getD (i+1-1) 0=l.getD i 0 by rw[jZ]);obtain⟨x,hxe⟩:∃x,x=l.getD i 0:=⟨_,rfl⟩;rw[<-hxe] at x1' x2' c1 hdt HXD;rw[<-hpe] at p1 p2 hdt;obtain⟨A,hAe⟩:∃A,A=(x-p).toNat:=⟨_,rfl⟩;obtain⟨B,hBe⟩:∃B,B=(p-x).toNat:=⟨_,rfl⟩
   have hdo:jU p x=(bB A [true,false]).flatten++(bB B [true,true]).flatten++[false]:=by unfold jU;rw[hAe,hBe]
   rw[hdo] at hdt;have HDT:=hid (show aY y 5++eI (l.getD 0 0) (l.take (i+1))=E++((bB A [true,false]).flatten++(bB B [true,true]).flatten++[false]) by rw[hdt,HE.out];simp only[cF]);have HA:=hid hAe;have HBE:=hid hBe;have hA20:A<=20:=by omega
   have hB20:B<=20:=by omega
   clear hxe hpe hdt hx hp hAe hBe hdo;go_wp2_with fail
   go_loopg [4] A (fun g s4 wy=>∃c:Nat,c<=A/\g=A-c/\s4=.int .i64 (p+(c:Int))/\qR wy w.heap.size (E++(bB c [true,false]).flatten)/\Below w.heap.size w4 wy)
   case atStart=>exact⟨0,aU _,rfl,by rw[OF,Int.add_zero],by simpa using hbox,hbel⟩
   case round=>
    clear hbox;obtain⟨c,hcc,hg,rfl,hbox,hbel1⟩:=hrel;have HG3:=hid hg;clear hg;obtain⟨F,hF⟩:∃F,F=E++(bB c [true,false]).flatten:=⟨_,rfl⟩;have hFl:F.length<=20000:=by rw[hF,aL,yT];omega
    rw[<-hF] at hbox;have HF:=hid hF;clear hF;have hsz1:=hbel1.size;have d0:=Arr.cell hbox (i:=0) rfl;have d1:=Arr.cell hbox (i:=1) rfl
    by_cases hcx:c<A
    ·have u3:decide (p+(c:Int)<x)=true:=decide_eq_true (by have:=HA.out;omega);have m6:aI.wrap (p+(c:Int)+1)=p+(c:Int)+1:=by rw[aM];omega
     go_wp2_with fail;refine(hput F 2 2 _ (by decide) (by decide) (by omega)).mono ?_;rintro e w5 ⟨rfl,hb5⟩;have hbox5:qR w5 w.heap.size F:=Arr.below hbox hb5 (by omega);have hB5:=hbel1.trans (hb5.mono (by omega));obtain⟨N,hN⟩:∃N,N=F++aY 2 2:=⟨_,rfl⟩;rw[<-hN];have HN:=hid (show N=E++(bB (c+1) [true,false]).flatten by rw[hN,HF.out,yS,<-cF];rfl);have e0:=Arr.cell hbox5 (i:=0) rfl;have e1:=Arr.cell hbox5 (i:=1) rfl;have f0:=Arr.free hbox5 0;have f1:=Arr.free hbox5 1;clear hN hbox d0 d1;go_wp2_with fail;have hg3:=HG3.out
     go_roundg (A-(c+1))
     case measure=>omega
     case rel=>exact⟨c+1,by omega,rfl,congrArg _ (by push_cast;omega),by rw[<-HN.out];exact hbox5.set N,(hB5.setCell (p:=⟨w.heap.size,0,none⟩) (aA _) _).setCell (p:=⟨w.heap.size,1,none⟩) (aA _) _⟩
    ·have u3:decide (p+(c:Int)<x)=false:=decide_eq_false (by have:=HA.out;omega);obtain rfl:A=c:=by omega
     obtain⟨q,hq⟩:∃q:Int,q=p+(A:Int):=⟨_,rfl⟩;have HQ:=hid (show(B=0/\q=x)\/(A=0/\q=p/\(B:Int)=p-x) by have:=HA.out;have:=HBE.out;omega);have hqb:1<=q/\q<=20:=by have:=HQ.out;omega
     rw[<-hq] at u3 ⊢;clear hq d0 d1;go_wp2_with fail
     go_loopg [4] B (fun g s4 wy=>∃c:Nat,c<=B/\g=B-c/\s4=.int .i64 (q-(c:Int))/\qR wy w.heap.size (F++(bB c [true,true]).flatten)/\Below w.heap.size w4 wy)
     case atStart=>exact⟨0,aU _,rfl,by rw[OF,Int.sub_zero],by simpa using hbox,hbel1⟩
     case round=>
      clear hbox;obtain⟨c,hcc,hg,rfl,hbox,hbel2⟩:=hrel;have HG4:=hid hg;clear hg;obtain⟨H,hH⟩:∃H,H=F++(bB c [true,true]).flatten:=⟨_,rfl⟩;have hHl:H.length<=20100:=by rw[hH,aL,yT];omega
      rw[<-hH] at hbox;have HH:=hid hH;clear hH;have hsz2:=hbel2.size;have d0:=Arr.cell hbox (i:=0) rfl;have d1:=Arr.cell hbox (i:=1) rfl
      by_cases hcx2:c<B
      ·have v3:decide (q-(c:Int)>x)=true:=decide_eq_true (by have:=HQ.out;omega);have v4:decide (x<q-(c:Int))=true:=decide_eq_true (by have:=HQ.out;omega);have m6:aI.wrap (q-(c:Int)-1)=q-(c:Int)-1:=by rw[aM];omega
       go_wp2_with fail;refine(hput H 3 2 _ (by decide) (by decide) (by omega)).mono ?_;rintro e w5 ⟨rfl,hb5⟩;have hbox5:qR w5 w.heap.size H:=Arr.below hbox hb5 (by omega);have hB5:=hbel2.trans (hb5.mono (by omega));obtain⟨N,hN⟩:∃N,N=H++aY 3 2:=⟨_,rfl⟩;rw[<-hN];have HN:=hid (show N=F++(bB (c+1) [true,true]).flatten by rw[hN,HH.out,yS,<-cF];rfl);have e0:=Arr.cell hbox5 (i:=0) rfl;have e1:=Arr.cell hbox5 (i:=1) rfl;have f0:=Arr.free hbox5 0;have f1:=Arr.free hbox5 1;clear hN hbox d0 d1;go_wp2_with fail;have hg4:=HG4.out
       go_roundg (B-(c+1))
       case measure=>omega
       case rel=>exact⟨c+1,by omega,rfl,congrArg _ (by push_cast;omega),by rw[<-HN.out];exact hbox5.set N,(hB5.setCell (p:=⟨w.heap.size,0,none⟩) (aA _) _).setCell (p:=⟨w.heap.size,1,none⟩) (aA _) _⟩
      ·have v3:decide (q-(c:Int)>x)=false:=decide_eq_false (by have:=HQ.out;omega);have v4:decide (x<q-(c:Int))=false:=decide_eq_false (by have:=HQ.out;omega);obtain rfl:B=c:=by omega
       have HQ2:=hid (show q-(B:Int)=x by have:=HQ.out;have:=HA.out;omega);go_wp2_with fail;refine(hput H 0 1 _ (by decide) (by decide) (by omega)).mono ?_;rintro e w5 ⟨rfl,hb5⟩;have hbox5:qR w5 w.heap.size H:=Arr.below hbox hb5 (by omega);have hB5:=hbel2.trans (hb5.mono (by omega));obtain⟨N,hN⟩:∃N,N=H++aY 0 1:=⟨_,rfl⟩;rw[<-hN];have HN:=hid (show N=aY y 5++eI (l.getD 0 0) (l.take (i+1)) by
        rw[hN,HH.out,HF.out,HDT.out];simp only[cF];rfl)
       have e0:=Arr.cell hbox5 (i:=0) rfl;have e1:=Arr.cell hbox5 (i:=1) rfl;have f0:=Arr.free hbox5 0;have f1:=Arr.free hbox5 1;clear hN hbox d0 d1;go_wp2_with fail;have hg2:=HG2.out
       go_roundg (l.length-(i+1))
       case measure=>omega
       case rel=>exact⟨i+1,q-(B:Int),by omega,rfl,by go_num,rfl,by rw[HQ2.out,HXD.out],by rw[<-HN.out];exact hbox5.set N,(hB5.setCell (p:=⟨w.heap.size,0,none⟩) (aA _) _).setCell (p:=⟨w.heap.size,1,none⟩) (aA _) _⟩
  ·have u2:decide ((i:Int)<(l.length:Int))=false:=decide_eq_false (by omega);have hie:i=l.length:=by omega
   subst hie;have HF:=hid (show E=dW l by
    rw[HE.out,kE];unfold dW;rw[HY.out,eG])
   have d0:=Arr.cell hbox (i:=0) rfl;have d1:=Arr.cell hbox (i:=1) rfl;have f0:=Arr.free hbox 0;have f1:=Arr.free hbox 1;have hz:=hbox.set E;go_wp2_with fail;refine gJ (qH rfl _ _ w.heap.size _ _ (0,0) _ rfl hz Tryz.underlying77 rfl mF) rfl ?_;exact⟨by rw[<-HF.out];rfl,((hB4.trans hbel).setCell (p:=⟨w.heap.size,0,none⟩) (aA _) _).setCell (p:=⟨w.heap.size,1,none⟩) (aA _) _⟩
end
section
theorem aA7 (ws:List Int):∀t,t<ws.length->∀x,iJ ws t x=0\/((x:Int)<iJ ws t x/\iJ ws t x<((ws.length+t:Nat):Int))
 |0,_,x=>.inl rfl
 |t+1,h,x=>by
  have hg:=jT.all ws t (by omega);have hl:=pR ws t (by omega);obtain⟨a,b,s,hp,_,ea,eb,_,_,_⟩:=qL (ws.length+t) (bP ws t) (by omega);have ha:=hg.lt a (hp.mem_iff.1 (by simp)) _ (HT.root_mem _);have hb:=hg.lt b (hp.mem_iff.1 (by simp)) _ (HT.root_mem _)
  show(if x=(bM (bM (bP ws t)).2).1.2.root then _ else if x=(bM (bP ws t)).1.2.root then _ else iJ ws t x)=0\/_<(if x=(bM (bM (bP ws t)).2).1.2.root then _ else if x=(bM (bP ws t)).1.2.root then _ else iJ ws t x)/\(if x=(bM (bM (bP ws t)).2).1.2.root then _ else if x=(bM (bP ws t)).1.2.root then _ else iJ ws t x)<_;rw[ea,eb]
  by_cases h1:x=b.2.root
  ·rw[if_pos h1];right;omega
  ·rw[if_neg h1]
   by_cases h2:x=a.2.root
   ·rw[if_pos h2];right;omega
   ·rw[if_neg h2];rcases aA7 ws t (by omega) x with k|k
    ·exact .inl k
    ·right;omega
theorem aA8 (ws:List Int):∀t,t<ws.length->∀x,x<ws.length+t->(∃p∈bP ws t,p.2.root=x)\/iJ ws t x≠0
 |0,h,x,hx=>by
  obtain⟨p,hp,hl⟩:=(jT.all ws 0 h).leaves x (by omega);obtain⟨j,hj,rfl⟩:=bQ.start_mem hp;obtain rfl:=dC.1 hl;exact .inl ⟨_,hp,rfl⟩
 |t+1,h,x,hx=>by
  have hl:=pR ws t (by omega);obtain⟨a,b,s,hp,he,ea,eb,_,_,_⟩:=qL (ws.length+t) (bP ws t) (by omega);have hR:bP ws (t+1)=s++[(a.1+b.1,.node (ws.length+t) a.2 b.2)]:=he;have hU:iJ ws (t+1) x=if x=b.2.root then((ws.length+t:Nat):Int) else if x=a.2.root then((ws.length+t:Nat):Int) else iJ ws t x:=by rw[<-ea,<-eb];rfl
  rw[hR,hU]
  by_cases h0:x=ws.length+t
  ·exact .inl ⟨_,cU.2 (.inr (dC.2 rfl)),h0.symm⟩
  ·by_cases h1:x=b.2.root
   ·rw[if_pos h1];right;omega
   ·by_cases h2:x=a.2.root
    ·rw[if_neg h1,if_pos h2];right;omega
    ·rw[if_neg h1,if_neg h2];rcases aA8 ws t (by omega) x (by omega) with⟨p,hp2,hr⟩|k
     ·have:=hp.mem_iff.2 hp2;simp only[kD] at this;rcases this with rfl|rfl|q
      ·exact absurd hr.symm h2
      ·exact absurd hr.symm h1
      ·exact .inl ⟨p,cU.2 (.inl q),hr⟩
     ·exact .inr k
theorem aRp (ws:List Int) (h:2<=ws.length) (x:Nat) (hx:x<2*ws.length-2):∃u:Nat,iJ ws (ws.length-1) x=(u:Int)/\x<u/\u<=2*ws.length-2:=by
 obtain⟨p,hp,hr⟩:=CT ws h;rcases aA8 ws (ws.length-1) (by omega) x (by omega) with⟨q,hq,hqr⟩|k
 ·rw[hp] at hq;obtain rfl:=dC.1 hq;omega
 ·rcases aA7 ws (ws.length-1) (by omega) x with k2|⟨k2,k3⟩
  ·exact absurd k2 k
  ·exact⟨(iJ ws (ws.length-1) x).toNat,by omega,by omega,by omega⟩
theorem aRq {q q':List (Int×Int)} {r:bQ} (hq:nN q) (hp:q.Perm (oD r)) (h:r≠[]) (hs:r.Pairwise (fun p q=>p.2.root<q.2.root)) (hq':(q.getD 0 (0,0)::q').Perm q):
  q.getD 0 (0,0)=((bM r).1.1,((bM r).1.2.root:Int))/\q'.Perm (oD (bM r).2):=by
 have e:=aRg hq hp h hs;refine⟨e,?_⟩;rw[e] at hq';exact List.Perm.cons_inv ((hq'.trans hp).trans (aRh h).symm)
structure vD (N:Nat) (U:Nat->Int) (j:Nat) (D:Nat->Int):Prop where
 top:D (N-1)=0
 down:∀x,j<=x->x<N-1->D x=D (U x).toNat+1
 bd:∀x,j<=x->x<N->0<=D x/\D x<=((N-x:Nat):Int)
theorem vD.start (N:Nat) (U:Nat->Int):vD N U (N-1) (fun _=>0):=⟨rfl,fun x h1 h2=>by omega,fun x h1 h2=>by omega⟩
theorem vD.step {N:Nat} {U:Nat->Int} {j u:Nat} {D:Nat->Int} (h:vD N U (j+1) D) (hj:j+1<N) (hu:U j=(u:Int)) (h1:j<u) (h2:u<N) (hU:∀x,j<=x->x<N-1->j<(U x).toNat):vD N U j (fun d=>if d=j then D u+1 else D d):=by
 refine⟨?_,fun x h3 h4=>?_,fun x h3 h4=>?_⟩
 ·show(if N-1=j then _ else _)=_;rw[if_neg (by omega)];exact h.top
 ·show(if x=j then _ else _)=(if(U x).toNat=j then _ else _)+1;have hx:=hU x h3 h4;rw[if_neg (show ¬(U x).toNat=j by omega)]
  by_cases e:x=j
  ·subst e;rw[if_pos rfl,hu,eG]
  ·rw[if_neg e];exact h.down x (by omega) h4
 ·show 0<=(if x=j then _ else _)/\(if x=j then _ else _)<=_
  by_cases e:x=j
  ·subst e;rw[if_pos rfl];have:=h.bd u (by omega) h2;omega
  ·rw[if_neg e];exact h.bd x (by omega) h4
end
end Go.Proofs.YtpgmbhpbgkljdaaGreatDoor
