/-
  Texts put together (part 12): the walks and the plain laws on which the statement stands.
-/
import Derived.Test.YtpgmbhpbgkljdaaGreatDoorZ10
import Derived.Test.YtpgmbhpbgkljdaaGreatDoorZ11
set_option maxRecDepth 100000
set_option maxHeartbeats 12800000
open Decidable renaming not_not->dK
open Go renaming bodyPost_ret->gJ
open Go.IntKind renaming i64->aI,u32->rA,wrap_i64->aM,wrap_u32->vP
open Go.RowKit.Below renaming refl->aB
open Go.World renaming size_alloc->fV
open Int renaming toNat_natCast->eG
open List renaming append_assoc->cF,drop_eq_getElem_cons->oH,drop_of_length_le->qY,ext_getElem?->jA,getD_eq_getElem?_getD->aV,getElem?_append_left->gS,getElem?_concat_length->AQ,getElem?_eq_getElem->aN,getElem?_eq_none->dL,getElem?_eq_some_iff->eU,getElem_mem->gT,length_append->aL,length_drop->cI,length_map->bJ,length_singleton->fK,length_take->aX,map_congr_left->qW,map_map->xJ,mem_map->dU,mem_of_mem_drop->xU,mem_of_mem_take->nO,mem_range->jF,mem_singleton->dC,range->dG,replicate->bB,sum_cons->pV,take_add_one->cQ,take_length->kE,take_of_length_le->cS
open Nat renaming add_assoc->dZ,le_refl->aA,zero_le->aU
open Option.some renaming inj->bW
open Prod renaming ext->gK
namespace Go.Proofs.YtpgmbhpbgkljdaaGreatDoor
section
theorem KH:∀(t:HT) (d:Nat),d+t.high<=20->((t.deep d).map (fun q=>2^(20-q.2))).sum=2^(20-d)
 |.leaf _,d,_=>by simp[HT.deep]
 |.node _ l r,d,h=>by
  unfold HT.high at h;unfold HT.deep;rw[List.map_append,List.sum_append,KH l (d+1) (by omega),KH r (d+1) (by omega),show 20-d=(20-(d+1))+1 by omega,Nat.pow_succ];omega
theorem aIe {l m:List Nat} (h:l.Perm m):l.sum=m.sum:=by
 induction h with
 |nil=>rfl
 |cons x _ ih=>simp only[pV];omega
 |swap x y l=>simp only[pV];omega
 |trans _ _ h1 h2=>omega
theorem aIf (ws:List Int) (h:2<=ws.length) (h1:∀x∈ws,1<=x) (hs:ws.sum<28657):jR (kL ws)=1048576:=by
 obtain⟨p,hp,hr⟩:=CT ws h;have hg:=jT.all ws (ws.length-1) (by omega);have hd:=qM.all ws (ws.length-1) (by omega);obtain⟨he,hsum⟩:=rO.all ws h1 (ws.length-1) (by omega);rw[hp] at hg hd he hsum;have hp1:p∈[p]:=dC.2 rfl;have hw:=HT.wt_high p.2 (he.even p hp1);have hwt:=he.wt p hp1;have hsum':p.1=ws.sum:=by simpa using hsum
 have hh:p.2.high<=20:=by
  rcases Nat.lt_or_ge 20 p.2.high with k|k
  ·have:=RN (show 21<=p.2.high from k);have e:kM 21=28657:=by decide
   omega
  ·exact k
 have hnd:p.2.leaves.Nodup:=HT.leaves_nodup _ (by have:=hg.nodup;simpa using this);have hperm:p.2.leaves.Perm (dG ws.length):=by
  rw[List.perm_ext_iff_of_nodup hnd List.nodup_range];intro j;rw[jF];constructor
  ·intro hj;rw[<-HT.deep_map p.2 0] at hj;obtain⟨q,hq,rfl⟩:=dU.1 hj;exact(hd.2 p hp1 q hq).1
  ·intro hj;obtain⟨p',hp',hj'⟩:=hg.leaves j hj;obtain rfl:=dC.1 hp';exact hj'
 have hlen:(kL ws).length=ws.length:=rN _ _;have e1:(kL ws).map (fun x=>2^(20-x.toNat))=(dG ws.length).map (fun j=>2^(20-((kL ws).getD j 0).toNat)):=by
  apply jA;intro j
  by_cases hj:j<ws.length
  ·simp[hj,hlen]
  ·rw[dL (by simp;omega),dL (by simp;omega)]
 unfold jR;rw[e1,<-aIe (hperm.map _),<-HT.deep_map p.2 0,xJ];have e2:(p.2.deep 0).map ((fun j=>2^(20-((kL ws).getD j 0).toNat)) ∘ fun q=>q.1)=(p.2.deep 0).map (fun q=>2^(20-q.2)):=by
  apply qW;intro q hq;have:=(hd.2 p hp1 q hq).2;show 2^(20-((gO ws (ws.length-1)).getD q.1 0).toNat)=_;rw[this,eG]
 rw[e2,KH p.2 0 (by omega)]
theorem tB {m:List Int} {n which:Nat} (h2:2<=n) (h258:n<=258) (h:∀x∈m,0<=x/\x<(n:Int)) (hm:m.length<=20000):bL (dN m n which)=0:=by
 have hs:=wI m n which h m.length (aA _);have hl:=rP m n which m.length;have hmx:=DD (iK m n which) (fun x hx=>(hs.2.2 x hx).1);refine aDm (rQ h2 h258 h hm).1 (Nat.le_of_eq ?_);refine aIf _ (by rw[bJ];unfold iK;omega) (fun x hx=>?_) ?_
 ·obtain⟨y,_,rfl⟩:=dU.1 hx;omega
 ·unfold iK at hmx ⊢;omega
def mO (t0 t1 cs m:List Int):Nat->List Bool
 |0=>[]
 |k+1=>mO t0 t1 cs m k++aY (fO (if cs.getD (k/10) 0=0 then t0 else t1) (m.getD k 0).toNat) (bG (if cs.getD (k/10) 0=0 then t0 else t1) (m.getD k 0).toNat)
theorem XA (t0 t1 cs m:List Int) (i:Nat):∀j,j<=10->10*i+j<=m.length->mO t0 t1 cs m (10*i+j)=mO t0 t1 cs m (10*i)++eR (if cs.getD i 0=0 then t0 else t1) (((m.drop (10*i)).take 10).take j)
 |0,_,_=>by simp[eR]
 |j+1,h,hm=>by
  have e:((m.drop (10*i)).take 10).take (j+1)=((m.drop (10*i)).take 10).take j++[m.getD (10*i+j) 0]:=by
   rw[cQ]
   congr 1
   rw[List.getElem?_take,if_pos (by omega),List.getElem?_drop,aV,aN (by omega)];rfl
  rw[e,SI,<-cF,<-XA t0 t1 cs m i j (by omega) (by omega),<-dZ];show mO t0 t1 cs m (10*i+j)++_=_;rw[show(10*i+j)/10=i by omega]
theorem XB (t0 t1 cs m:List Int) (hcs:cs.length=(m.length+9)/10):∀i,i<=(m.length+9)/10->gP t0 t1 (cs.take i) ((cK m).take i)=mO t0 t1 cs m (min (10*i) m.length)
 |0,_=>by simp[gP,mO]
 |i+1,h=>by
  have e1:cs.take (i+1)=cs.take i++[cs.getD i 0]:=by
   rw[cQ,aV,aN (by omega)];rfl
  have e2:(cK m).take (i+1)=(cK m).take i++[(m.drop (10*i)).take 10]:=by
   rw[cQ,wH m i (by omega)];rfl
  rw[e1,e2,KL _ _ _ _ _ _ (by rw[aX,aX,iD];omega),XB t0 t1 cs m hcs i (by omega),show min (10*i) m.length=10*i by omega];have hg:=XA t0 t1 cs m i (min 10 (m.length-10*i)) (by omega) (by omega);rw[show min (10*(i+1)) m.length=10*i+min 10 (m.length-10*i) by omega,hg]
  congr 2
  rw[List.take_take]
  by_cases q:10<=m.length-10*i
  ·rw[show min (min 10 (m.length-10*i)) 10=10 by omega]
  ·rw[cS (by rw[cI];omega),cS (by rw[cI];omega)]
theorem XC (t0 t1 cs m:List Int) (hcs:cs.length=(m.length+9)/10):gP t0 t1 cs (cK m)=mO t0 t1 cs m m.length:=by
 have:=XB t0 t1 cs m hcs ((m.length+9)/10) (aA _);rw[cS (by omega),cS (by rw[iD];exact aA _),show min (10*((m.length+9)/10)) m.length=m.length by omega] at this;exact this
theorem XD (t0 t1 cs m:List Int) (k:Nat):∀j,∃r,mO t0 t1 cs m (k+j)=mO t0 t1 cs m k++r
 |0=>⟨[],by simp⟩
 |j+1=>by
  obtain⟨r,hr⟩:=XD t0 t1 cs m k j;refine⟨r++aY (fO (if cs.getD ((k+j)/10) 0=0 then t0 else t1) (m.getD (k+j) 0).toNat) (bG (if cs.getD ((k+j)/10) 0=0 then t0 else t1) (m.getD (k+j) 0).toNat),?_⟩;rw[<-dZ,<-cF,<-hr];rfl
theorem aMf {s:List UInt8} {a:Nat} {t0 t1 cs m:List Int} {n:Nat} (h0:bL t0=0) (h1:bL t1=0) (l0:t0.length=n) (l1:t1.length=n) (hcs:cs.length=(m.length+9)/10) (hc:∀x∈cs,x=0\/x=1)
  (hm:∀x∈m,0<=x/\x<(n:Int)) (hmp:0<m.length) (hlast:m[m.length-1]? =some ((n:Int)-1)) (hnot:∀x∈m.take (m.length-1),x<(n:Int)-1)
  (h:fH s a (gP t0 t1 cs (cK m))):∀k,k<=m.length->
   bH s (a:Int) [t0,t1] cs ((n:Int)-1) k=(m.take k,((a+(mO t0 t1 cs m k).length:Nat):Int),0,decide (k=m.length)):=by
 rw[XC t0 t1 cs m hcs] at h;intro k
 induction k with
 |zero=>
  intro _;unfold bH;rw[decide_eq_false (by omega)];simp[mO]
 |succ k ih=>
  intro hk;have ih:=ih (by omega);rw[decide_eq_false (by omega)] at ih;obtain⟨r,hr⟩:=XD t0 t1 cs m (k+1) (m.length-(k+1));rw[show k+1+(m.length-(k+1))=m.length by omega] at hr;rw[hr] at h;have hst:=(jN (jN h).1).2;have hx:=hm m[k] (gT (by omega));have ex:m.getD k 0=m[k]:=by rw[aV,aN (by omega)];rfl
  have ht:m.take (k+1)=m.take k++[m[k]]:=by rw[cQ,aN (by omega)];rfl
  have hcg:cs.getD (k/10) 0=0\/cs.getD (k/10) 0=1:=by
   rw[aV,aN (by omega)];exact hc _ (gT _)
  have htab:[t0,t1].getD (cs.getD (k/10) 0).toNat []=if cs.getD (k/10) 0=0 then t0 else t1:=by
   rcases hcg with q|q<;>rw[q]<;>rfl
  have hck:bL (if cs.getD (k/10) 0=0 then t0 else t1)=0:=by split;exact h0;exact h1
  have hlk:(if cs.getD (k/10) 0=0 then t0 else t1).length=n:=by split;exact l0;exact l1
  have hL:(mO t0 t1 cs m (k+1)).length=(mO t0 t1 cs m k).length+bG (if cs.getD (k/10) 0=0 then t0 else t1) (m.getD k 0).toNat:=by
   show(mO t0 t1 cs m k++aY _ _).length=_;rw[aL,cY]
  rw[hL];generalize (if cs.getD (k/10) 0=0 then t0 else t1)=tb at*
  rw[ex] at hst ⊢;have hsym:=aJj hck (i:=m[k].toNat) (by omega) hst;unfold bH;rw[ih];simp only
  rw[if_neg (by simp),htab,hsym];simp only
  rw[if_neg (by simp)];have ei:((m[k].toNat:Nat):Int)=m[k]:=by omega
  rw[ei,ht]
  by_cases hkl:k+1=m.length
  ·have hl:m[k]=(n:Int)-1:=by
    have:m[m.length-1]? =some m[k]:=by rw[show m.length-1=k by omega,aN (by omega)]
    rw[hlast] at this
    injection this with this
    exact this.symm
   rw[if_pos hl,if_neg (by omega),decide_eq_true hkl,dZ]
  ·have hl:m[k]<(n:Int)-1:=hnot _ (by
    refine List.mem_iff_getElem.2 ⟨k,by rw[aX];omega,?_⟩;rw[List.getElem_take])
   rw[if_neg (by omega),decide_eq_false hkl,dZ]
theorem XE {s:List UInt8} {at':Int} {t:List (List Int)} {cs:List Int} {fin:Int} {k:Nat} (h:(bH s at' t cs fin k).2.2.2=true):∀j,bH s at' t cs fin (k+j)=bH s at' t cs fin k
 |0=>rfl
 |j+1=>by
  rw[<-dZ];show(if(bH s at' t cs fin (k+j)).2.2.1≠0\/(bH s at' t cs fin (k+j)).2.2.2=true then _ else _)=_;rw[XE h j,if_pos (.inr h)]
theorem aMg (cs:List Int) (hc:∀x∈cs,x=0\/x=1):(∀x∈dO cs,0<=x/\x<2)/\(unL (cC 2) (dO cs)).map (fun b=>(b.toNat:Int))=cs:=by
 have hmem:∀b∈cs.map (fun c=>UInt8.ofNat c.toNat),b∈cC 2:=fun b hb=>by
  obtain⟨x,hx,rfl⟩:=dU.1 hb;rw[KA (by decide)];rcases hc x hx with rfl|rfl<;>decide
 constructor
 ·intro x hx;have:=vT _ _ hmem x hx;rw[oR] at this;exact this
 ·unfold dO;rw[PN _ _ hmem,xJ]
  conv=>rhs;rw[<-List.map_id cs]
  apply qW;intro x hx;rcases hc x hx with rfl|rfl<;>rfl
theorem aMh {s:List UInt8} {a n:Nat} {m:List Int} (h2:2<=n) (h258:n<=258) (hm:∀x∈m,0<=x/\x<(n:Int)) (hml:m.length<=20000) (hmp:0<m.length) (hlast:m[m.length-1]? =some ((n:Int)-1)) (hnot:∀x∈m.take (m.length-1),x<(n:Int)-1)
  (h:fH s a (rV m n)):cV s (a:Int) (n:Int)=(m,((a+(rV m n).length:Nat):Int),0):=by
 have hc:=DE m n;have hcl:=wJ m n;obtain⟨hp1,hp2⟩:=aMg (cT m n) hc;have k0:=tB h2 h258 hm hml (which:=0);have k1:=tB h2 h258 hm hml (which:=1);have o0:=rQ h2 h258 hm hml (which:=0);have o1:=rQ h2 h258 hm hml (which:=1);have hlen:(rV m n).length=3+15+(dE (dO (cT m n))).length+(dW (dN m n 0)).length+(dW (dN m n 1)).length+(gP (dN m n 0) (dN m n 1) (cT m n) (cK m)).length:=by
  unfold rV;simp only[aL,cY]
 rw[hlen];unfold rV at h;obtain⟨h,s6⟩:=jN h;obtain⟨h,s5⟩:=jN h;obtain⟨h,s4⟩:=jN h;obtain⟨h,s3⟩:=jN h;obtain⟨s1,s2⟩:=jN h;simp only[aL,cY] at s2 s3 s4 s5 s6;obtain⟨e1,v1⟩:=uX s1 (by decide);obtain⟨e2,v2⟩:=uX s2 (by rw[hcl];omega);have hplen:(dO (cT m n)).length=(cT m n).length:=by unfold dO;rw[rH,bJ]
 have e3:=aJi (tables:=2) hp1 s3 (dO (cT m n)).length (aA _);rw[kE,hplen] at e3;have e4:=UX o0.1 s4;have e5:=UX o1.1 s5;rw[o0.2] at e4;rw[o1.2] at e5;rw[show((a+3:Nat):Int)=(a:Int)+3 by omega] at e2 v2;have es:=aMf k0 k1 o0.2 o1.2 hcl hc hm hmp hlast hnot s6 m.length (aA _);rw[decide_eq_true rfl] at es;have es2:=XE (by rw[es]) (10*(cT m n).length-m.length);rw[show m.length+(10*(cT m n).length-m.length)=10*(cT m n).length by omega,es] at es2;generalize hcs:cT m n=cs at*
 generalize dN m n 0=t0 at*
 generalize dN m n 1=t1 at*
 unfold cV;rw[if_neg (by rw[e1];simp),v1,if_neg (by omega),if_neg (by rw[e2];simp),v2,if_neg (by omega)];have esel:dD s ((a:Int)+18) ((cs.length:Nat):Int) ((2:Nat):Int)=(cs,((a+18+(dE (dO cs)).length:Nat):Int),0):=by
  unfold dD;rw[if_neg (by omega),eG,show(a:Int)+18=((a+(3+15):Nat):Int) by omega];have:cO s ((2:Nat):Int) ((a+(3+15):Nat):Int) cs.length=(dO cs,_,0):=e3;rw[this];simp only
  rw[if_neg (by simp),eG,hp2]
 rw[esel];simp only
 rw[if_neg (by simp)];have etab:bF s ((a+18+(dE (dO cs)).length:Nat):Int) (n:Int) 2=([t0,t1],((a+18+(dE (dO cs)).length+(dW t0).length+(dW t1).length:Nat):Int),0):=by
  have ea:a+(3+15+(dE (dO cs)).length)=a+18+(dE (dO cs)).length:=by omega
  have eb:a+(3+15+(dE (dO cs)).length+(dW t0).length)=a+18+(dE (dO cs)).length+(dW t0).length:=by omega
  rw[ea] at e4;rw[eb] at e5;have f1:bF s ((a+18+(dE (dO cs)).length:Nat):Int) (n:Int) 1=([t0],((a+18+(dE (dO cs)).length+(dW t0).length:Nat):Int),0):=by
   simp only[bF,e4,k0,ne_eq,not_true,if_false,List.nil_append]
  unfold bF;rw[f1];simp only
  rw[if_neg (by simp),e5];simp only
  rw[if_neg (by simp),if_neg (by rw[k1];simp)];rfl
 rw[etab];simp only
 rw[if_neg (by simp)];unfold gX;have ec:a+18+(dE (dO cs)).length+(dW t0).length+(dW t1).length=a+(3+15+(dE (dO cs)).length+(dW t0).length+(dW t1).length):=by omega
 rw[ec,es2];simp only
 rw[if_neg (by simp),if_pos trivial,kE];rw[XC t0 t1 cs m hcl];refine gK rfl (gK ?_ rfl);show((a+(3+15+(dE (dO cs)).length+(dW t0).length+(dW t1).length)+(mO t0 t1 cs m m.length).length:Nat):Int)=_
 congr 1
 omega
end
section
open Go.RowKit
theorem aK6:∀(r:List Int) (k:Nat) (l:List Int),(∀x∈r,x=0)->cZ k (r++l)=cZ (k+r.length) l:=by
 intro r
 induction r with
 |nil=>intro k l _;rfl
 |cons x r ih=>
  intro k l h;rw[List.cons_append,cZ,if_pos (h x (by simp)),ih (k+1) l (fun y hy=>h y (by simp[hy])),List.length_cons]
  congr 1;omega
theorem WO {l:List Int} (h0:∀x∈l,0<=x):(eY 0 l=l.length->cZ 0 l=dig (eY 0 l))/\(∀x,l[eY 0 l]? =some x->cZ 0 l=dig (eY 0 l)++[x+1]++cZ 0 (l.drop (eY 0 l+1))):=by
 have hz:∀x∈l.take (eY 0 l),x=0:=fun x hx=>by
  have:=yM 0 l x hx;have:=h0 x (nO hx);omega
 have e:=aK6 (l.take (eY 0 l)) 0 (l.drop (eY 0 l)) hz;rw[List.take_append_drop,aX,Nat.min_eq_left (vX 0 l),Nat.zero_add] at e;refine⟨fun hl=>?_,fun x hx=>?_⟩
 ·rw[e,qY (by omega)];rfl
 ·obtain⟨hl,hx'⟩:=eU.1 hx;have:=vY 0 l hx;rw[e,oH hl,hx',cZ,if_neg (by omega)];simp
def aK7 (l:List Int) (b0:Nat) (w:World) (g:Nat) (a:Act) (wr:World):Prop:=
 ∃(rest pre:List Int) (off cap lb:Nat) (n:Int) (u1 u2 u3 u7 u8 u9 u10 u11 u12 u13 u14 u15 u16 u17 u18 u19 u20 u21 u22 u23 u24 u25 u26 u27 u28 u29 u30 u31 u32 u33 u34 u35 u36:Value),
  a={tmps:=#[.slice (some ⟨b0,off,none⟩) rest.length cap,u1,u2,u3,.pointer (some ⟨lb,0,none⟩),.func (.func 128) #[.pointer (some ⟨lb,0,none⟩)] #[],.int .i64 n,u7,u8,u9,u10,u11,u12,u13,u14,u15,u16,u17,u18,u19,u20,u21,u22,u23,u24,u25,u26,u27,u28,u29,u30,u31,u32,u33,u34,u35,u36],defers:=[]}/\
  rest.length<=cap/\cap<=maxLen/\g=rest.length/\qK wr lb pre/\Hid (pre++cZ 0 rest=cZ 0 l)/\pre.length+rest.length<=l.length/\
  w.heap.size<=lb/\Below w.heap.size w wr/\Hid (∀j x,rest[j]? =some x->w.cell? ⟨b0,off+j,none⟩=some (.int .i64 x))/\Hid (∀x∈rest,0<=x/\x<=1000000)
theorem aK8 (v:Value) (l:List Int) (w:World) (hr:RdI w v l) (hne:0<l.length) (hlen:l.length<=100000) (hv:∀x∈l,0<=x/\x<=1000000):
  Calls Tryz.prog 95 #[v] w fun e w'=>∃v',e=.returned (.tuple #[v',.int .i64 0])/\OwI w' w.heap.size v' (cZ 0 l)/\Below w.heap.size w w':=by
 have hb:∀W,Below w.heap.size w W->Calls Tryz.prog 126 #[v] W fun e w'=>e=.returned (.bool false)/\w'=W:=fun W hW=>(JI v l W (hr.below hW)).mono fun e w' ⟨h1,h2⟩=>by
  rw[oN (fun x hx=>decide_eq_false (by have:=hv x hx;omega))] at h1;exact⟨h1,h2⟩
 have hc:∀W,Below w.heap.size w W->Calls Tryz.prog 105 #[v,.func (.func 127) #[] #[]] W fun e w'=>e=.returned (.bool false)/\w'=W:=fun W hW=>
  (uN 127 #[] (fun x=>decide (1099511627776<x)) v l W (hr.below hW) (enters_of Tryz.func127 (by kernel_rfl) rfl) (fun W _ x _=>aF7 x W)).mono fun e w' ⟨h1,h2⟩=>by
  rw[oN (fun x hx=>decide_eq_false (by have:=hv x hx;omega))] at h1;exact⟨h1,h2⟩
 have HB:=hid hb;have HC:=hid hc;clear hb hc;obtain⟨a,ca,rfl,hca,hma,hA⟩:=hr.open;obtain⟨b0,o0,rfl,hb0,hc0⟩:=hA hne;have HV:=hid hv;have HA:=hid hc0;clear hr hA hv hc0;go_enter Tryz.func95,Tryz.ntmps95;go_wp2;refine aDb 0 (aK7 l b0 w) rfl ?_ ?_
 ·rintro g a wr ⟨rest,pre,off,cap,lb,n,u1,u2,u3,u7,u8,u9,u10,u11,u12,u13,u14,u15,u16,u17,u18,u19,u20,u21,u22,u23,u24,u25,u26,u27,u28,u29,u30,u31,u32,u33,u34,u35,u36,rfl,hkc,hcm,hg,hlay,HP,hpl,hlb,hbel,HCL,HR⟩;have HG:=hid hg;have hrd:RdI wr (.slice (some ⟨b0,off,none⟩) rest.length cap) rest:=
   ⟨_,_,rfl,hkc,hcm,.inr ⟨b0,off,rfl,Nat.lt_of_lt_of_le hb0 hbel.size,fun j hj=>by
    rw[bJ] at hj;rw[hbel.cell (p:=⟨b0,off+j,none⟩) hb0,HCL.out j _ (aN hj)];simp[List.getD,hj]⟩⟩
  have HRD:=hid hrd;have hle:=vX 0 rest;obtain⟨m,hm⟩:∃m,m=eY 0 rest:=⟨_,rfl⟩;obtain⟨z1,z2⟩:=WO (l:=rest) (fun x hx=>(HR.out x hx).1);rw[<-hm] at hle z1 z2;have HM:=hid hm;have Z1:=hid z1;have Z2:=hid z2;have hdl:=(CA m).1;unfold maxLen at hcm;clear hg hrd hm z1 z2;go_wp2_with fail;refine(RF _ rest 0 _ HRD.out).mono ?_;rintro e w1 ⟨rfl,h1⟩;rw[<-HM.out];have hlay1:=hlay.below h1;have hB1:=bV hbel h1;clear hlay hbel HRD h1;go_wp2_with fail;refine(aGb m _ (by omega)).mono ?_;rintro e w2 ⟨dv,rfl,hdo,h2⟩;have hlay2:=hlay1.below h2;have hB2:=bV hB1 h2
  have hsrc:=hdo.src;clear hlay1 hB1 hdo h2;go_wp2_with fail;refine(CP lb dv pre (dig m) _ hlay2 hsrc (by omega)).mono ?_;rintro e w3 ⟨rfl,hlay3,h3⟩;have hB3:=hB2.trans (h3.mono hlb);clear hlay2 hB2 hsrc h3
  by_cases hend:m=rest.length
  ·have e1:=hid (show pre++dig m=cZ 0 l by rw[<-HP.out,Z1.out hend]);obtain⟨fv,harr,hown⟩:=hlay3;rw[e1.out] at hown;have c1:=harr.cell (i:=0) rfl;have d1:decide (0<rest.length-m)=false:=decide_eq_false (by omega);have e0:rest.length-m=0:=by omega
   by_cases hcn:cap=m
   all_goals
    go_wp2_with fail;simp only[Exit.jump]
    go_ret2
    exact⟨_,rfl,Ow.base hown (by omega),hB3⟩
  ·have hml:m<rest.length:=by omega
   obtain⟨x,hx⟩:=dH hml;have e1:=hid (Z2.out x hx);have hxb:=HR.out x (List.mem_of_getElem? hx);have c1:w3.cell? ⟨b0,off+m,none⟩=some (.int .i64 x):=by
    rw[hB3.cell (p:=⟨b0,off+m,none⟩) hb0];exact HCL.out m x hx
   have d1:decide (0<rest.length-m)=true:=decide_eq_true (by omega);have d2:0<rest.length-m:=by omega
   have hcn:¬cap=m:=by omega
   have HE:=hid hend;clear hx hend;have hl:=hid (show rest.length-m-1=(rest.drop (m+1)).length by rw[cI];omega);have hnew:=hid (show(pre++dig m++[x+1])++cZ 0 (rest.drop (m+1))=cZ 0 l by rw[<-HP.out,e1.out];simp only[cF]);have hpl':=hid (show(pre++dig m++[x+1]).length+(rest.drop (m+1)).length<=l.length by simp only[aL,cI,fK];omega);have hR':Hid (∀x∈rest.drop (m+1),0<=x/\x<=1000000):=hid (fun y hy=>HR.out y (xU hy))
   by_cases hc1:cap-m=1
   all_goals
    go_wp2_with fail;refine(CP lb _ (pre++dig m) [x+1] _ (hlay3.below ((aB _ _).alloc (aA _) _)) (RG _ _ _) (by simp only[aL,fK];omega)).mono ?_;rintro e w4 ⟨rfl,hlay4,h4⟩;have hB4:=(bD hB3 _).trans (h4.mono hlb);go_wp2_with fail
    go_step3
    rw[hl.out]
   ·refine⟨rfl,(rest.drop (m+1)).length,by rw[HG.out,cI];omega,rest.drop (m+1),_,off+m,0,lb,_,_,_,_,_,_,_,_,_,_,_,_,_,_,_,_,_,_,_,_,_,_,_,_,_,_,_,_,_,_,_,_,_,_,rfl,by rw[cI];omega,by simp[maxLen],rfl,hlay4,hnew,hpl'.out,hlb,hB4,hid (fun j y hy=>?_),hR'⟩;rw[qY (by omega)] at hy;simp at hy
   ·refine⟨rfl,(rest.drop (m+1)).length,by rw[HG.out,cI];omega,rest.drop (m+1),_,off+m+1,cap-m-1,lb,_,_,_,_,_,_,_,_,_,_,_,_,_,_,_,_,_,_,_,_,_,_,_,_,_,_,_,_,_,_,_,_,_,_,rfl,by rw[cI];omega,by unfold maxLen;omega,rfl,hlay4,hnew,hpl'.out,hlb,hB4,hid (fun j y hy=>?_),hR'⟩;have:=RdI.dropS HCL.out (m+1) j y hy;rw[dZ off m 1];exact this
 ·intro hkey;go_wp2_with fail;refine(HB.out _ (aB _ _)).mono ?_;rintro e w1 ⟨rfl,rfl⟩;go_wp2_with fail;refine(HC.out _ (aB _ _)).mono ?_;rintro e w1 ⟨rfl,rfl⟩;go_wp2_with fail
  go_step3
  go_step
  go_step
  exact hkey.out l.length _ _ ⟨l,[],o0,ca,w1.heap.size,0,_,_,_,_,_,_,_,_,_,_,_,_,_,_,_,_,_,_,_,_,_,_,_,_,_,_,_,_,_,_,_,_,_,rfl,hca,hma,rfl,⟨.slice none 0 0,Arr.new w1 _ _,OwI.nil _ _⟩,hid rfl,by simp,aA _,(aB _ _).alloc (aA _) _,HA,HV⟩
theorem aLx (v:Value) (most:Int) (w:World) (hr:RdI w v []) (hm1: -9223372036854775808<=most) (hm2:most<=1000000):
  Calls Tryz.prog 218 #[v,.int .i64 most] w fun e w'=>∃v',e=.returned (.tuple #[v',.int .i64 (nZ [] most)])/\OwI w' w.heap.size v' (oX [] most)/\Below w.heap.size w w':=by
 have hb:Calls Tryz.prog 126 #[v] w fun e w'=>e=.returned (.bool false)/\w'=w:=(JI v [] w hr).mono fun e w' ⟨h1,h2⟩=>by
  rw[oN (fun x hx=>by simp at hx)] at h1;exact⟨h1,h2⟩
 obtain⟨a,ca,rfl,hca,hma,hA⟩:=hr.open;simp only[List.length_nil] at hca hA hb ⊢;go_enter Tryz.func218,Tryz.ntmps218;go_wp2_with fail;refine hb.mono ?_;rintro e w1 ⟨rfl,rfl⟩;go_wp2_with fail
 go_loopg [0,8,9,10] 0 (fun gh s0 _s8 _s9 _s10 wq=>gh=0/\s0=.slice a 0 ca/\wq=w1.alloc (.cells #[.slice none 0 0] 206))
 case atStart=>exact⟨rfl,rfl,rfl⟩
 case round=>
 obtain⟨hg,rfl,rfl⟩:=hrel;have hc:=bS w1 (.slice none 0 0) 206
 by_cases hm:most<0
 ·have t1:decide (most<0)=true:=decide_eq_true hm;have hE:nZ [] most=4:=(rW (by show ¬((([]:List Int).length:Nat):Int)<=most;simp;omega)).2;have hL:oX [] most=[]:=(rW (by show ¬((([]:List Int).length:Nat):Int)<=most;simp;omega)).1;go_wp2_with fail
  go_ret2
  exact⟨.slice none 0 0,by first|(rw[hE];rfl)|rfl,by first|(rw[hL];exact OwI.nil _ _)|exact OwI.nil _ _,(aB _ _).alloc (aA _) _⟩
 ·have t1:decide (most<0)=false:=decide_eq_false hm;have hE:nZ [] most=0:=(wO (by show((([]:List Int).length:Nat):Int)<=most;simp;omega)).2;have hL:oX [] most=[]:=(wO (by show((([]:List Int).length:Nat):Int)<=most;simp;omega)).1;go_wp2_with fail
  go_ret2
  exact⟨.slice none 0 0,by first|(rw[hE];rfl)|rfl,by first|(rw[hL];exact OwI.nil _ _)|exact OwI.nil _ _,(aB _ _).alloc (aA _) _⟩
theorem aLy (v:Value) (m:List Int) (most:Int) (w:World) (hr:RdI w v m) (hlen:m.length<=1000000) (hv:∀x∈m,0<=x/\x<=1000000) (hm1: -9223372036854775808<=most) (hm2:most<=1000000):
  Calls Tryz.prog 218 #[v,.int .i64 most] w fun e w'=>∃v',e=.returned (.tuple #[v',.int .i64 (nZ m most)])/\OwI w' w.heap.size v' (oX m most)/\Below w.heap.size w w':=by
 rcases Nat.eq_zero_or_pos m.length with h0|h0
 ·obtain rfl:=List.length_eq_zero_iff.1 h0;exact aLx v most w hr hm1 hm2
 ·exact aLp v m most w hr hlen hv hm1 hm2 h0
theorem wP (a:ByteArray) (o:Int) (y:Value) (_hy:y.oneCell'=true) (w:World) (ha:a.size<=140737488355328):
  Calls Tryz.prog 96 #[.agg #[.string a,.int .i64 o,y]] w fun e w'=>e=.returned (.int .i64 ((a.size:Int)+1))/\Below w.heap.size w w':=by
 have e1:aI.wrap ((a.size:Int)+1)=(a.size:Int)+1:=by rw[aM];omega
 go_enter Tryz.func96,Tryz.ntmps96;go_wp2_with fail;go_ret;exact⟨rfl,(aB _ _).alloc (aA _) _⟩
def oA (s:ByteArray) (o:Nat->Int):List Int:=cZ 0 (cM (bK s.data.toList) (dM s o s.size))++[((bK s.data.toList).length:Int)+1]
theorem EA:(Tryz.prog.info? 118).map (·.size)=some 3:=by kernel_rfl
def cW:ByteArray:={data:=#[]}
theorem rX (s:List UInt8):(bK s).length<=256:=by
 unfold bK jH;rw[bJ];have:=List.length_filter_le (dB s) (dG 256)
 simpa using this
theorem rY {s:ByteArray} (h:0<s.size):s.toList.isEmpty=false:=by
 rw[Lib.toList_data]
 cases e:s.data.toList with
 |nil=>
  have:s.data.toList.length=s.size:=by simp
  rw[e] at this;simp at this;omega
 |cons b l=>rfl
theorem aLz (w:World):
  Calls Tryz.prog 66 #[.string cW] w fun e w'=>e=.returned (.tuple #[.agg #[.string cW,.int .i64 0,.slice none 0 0],.int .i64 1])/\Below w.heap.size w w':=by
 unfold cW;have harr:=Arr.new w 118 [.string {data:=#[]},.int .i64 0,.slice none 0 0];have f0:=harr.cell (i:=0) rfl;have f1:=harr.cell (i:=1) rfl;have f2:=harr.cell (i:=2) rfl;have f3:=harr.free;go_enter Tryz.func66,Tryz.ntmps66;go_wp2_with fail;exact gJ (zI rfl _ _ w.heap.size _ _ (0,0) _ rfl harr Tryz.underlying118 rfl EA) rfl ⟨rfl,(aB _ _).alloc (aA _) _⟩
theorem aL0 (s:ByteArray) (w:World) (h0:0<s.size) (hs:s.size<=65536):
  Calls Tryz.prog 66 #[.string s] w fun e w'=>∃o v,Ord (bX s) s.size s.size o/\e=.returned (.tuple #[.agg #[.string (mkS (bK s.data.toList)),.int .i64 ((fD o s.size:Nat):Int),v],.int .i64 0])/\OwI w' w.heap.size v (oA s o)/\Below w.heap.size w w':=by
 have t0:=rY h0;have t1:decide ((65536:Int)<(s.size:Int))=false:=decide_eq_false (by omega);have t2:decide (65536<s.size)=false:=decide_eq_false (by omega);go_enter Tryz.func66,Tryz.ntmps66;go_wp2_with fail;refine(aG5 s _ (by omega)).mono ?_;rintro e w1 ⟨o,hO,rfl,hb1⟩;have hz1:=hb1.size;obtain⟨n,hn⟩:∃n,n=fD o s.size:=⟨_,rfl⟩;have hnl:=RQ o s.size;rw[<-hn] at hnl ⊢;have HN:=hid hn;clear hn;go_wp2_with fail;refine(KY s _ (by omega)).mono ?_;rintro e w2 ⟨rfl,hb2⟩;obtain⟨A,hA⟩:∃A,A=mkS (bK s.data.toList):=⟨_,rfl⟩
 obtain⟨L,hL⟩:∃L,L=mkS (dM s o s.size):=⟨_,rfl⟩;have hLl:L.data.toList=dM s o s.size:=by rw[hL];rfl
 have hAl:A.data.toList=bK s.data.toList:=by rw[hA];rfl
 have hLs:L.size=s.size:=by rw[hL,cP,sY]
 have hAs:A.size<=256:=by rw[hA,cP];exact rX _
 have hnd:A.data.toList.Nodup:=by rw[hAl];exact BS _
 have hsub:∀b∈L.data.toList,b∈A.data.toList:=fun b hb=>by
  rw[hAl,yC];rw[hLl] at hb;exact(LN s hO).mem_iff.1 hb
 have hml:(cM A.data.toList L.data.toList).length=s.size:=by rw[rH];simp[hLs]
 have hmr:∀x∈cM A.data.toList L.data.toList,0<=x/\x<=1000000:=fun x hx=>by
  have:=vT L.data.toList A.data.toList hsub x hx;have hl:A.data.toList.length=A.size:=by simp
  omega
 have hsym:oA s o=cZ 0 (cM A.data.toList L.data.toList)++[(A.size:Int)+1]:=by
  unfold oA;rw[<-hAl,<-hLl];simp
 have HSYM:=hid hsym;have HA:=hid hA;rw[<-hA,<-hL];have hz2:=hb2.size;have hFR:∀W,Calls Tryz.prog 94 #[.string A,.string L] W fun e w'=>∃v,e=.returned (.tuple #[v,.int .i64 0])/\OwI w' W.heap.size v (cM A.data.toList L.data.toList)/\Below W.heap.size W w':=fun W=>aK3 A L W (by omega) (by omega) hnd hsub
 have HFR:=hid hFR;obtain⟨M,hM⟩:∃M,M=cM A.data.toList L.data.toList:=⟨_,rfl⟩;rw[<-hM] at hml hmr HSYM HFR;have HMR:=hid hmr;clear hFR hnd hsub hL hA hLl hAl hLs hM hmr hsym;go_wp2_with fail;have hz0:w.heap.size+1<=w2.heap.size:=by simp at hz1;omega
 have harr:=Arr.new w 118 [.string {data:=#[]},.int .i64 0,.slice none 0 0];have hq:=Arr.new w2 118 [.string A,.int .i64 (n:Int),.slice none 0 0];have hbq:Below (w.heap.size+1) (w.alloc (.cells #[.string {data:=#[]},.int .i64 0,.slice none 0 0] 118)) (w2.alloc (.cells #[.string A,.int .i64 (n:Int),.slice none 0 0] 118)):=
  ((hb1.mono (by simp)).trans (hb2.mono (by simp at hz1;omega))).alloc hz0 _
 have hzq:(w2.alloc (.cells #[.string A,.int .i64 (n:Int),.slice none 0 0] 118)).heap.size=w2.heap.size+1:=by simp
 change Arr (w2.alloc (.cells #[.string A,.int .i64 (n:Int),.slice none 0 0] 118)) _ _ _ at hq;generalize w2.alloc (.cells #[.string A,.int .i64 (n:Int),.slice none 0 0] 118)=wq at*
 refine(HFR.out wq).mono ?_;rintro e w3 ⟨v3,rfl,hown3,hb3⟩;have hz3:=hb3.size;go_wp2_with fail;refine(aK8 v3 M w3 hown3.rd (by omega) (by omega) HMR.out).mono ?_;rintro e w4 ⟨v4,rfl,hown4,hb4⟩;have hz4:=hb4.size;have hq4:=(hq.below hb3 (by omega)).below hb4 (by omega);have q0:=hq4.cell (i:=0) rfl;have q1:=hq4.cell (i:=1) rfl;have q2:=hq4.cell (i:=2) rfl;have q3:=hq4.free;go_wp2_with fail;refine(wP A (n:Int) (.slice none 0 0) rfl w4 (by omega)).mono ?_;rintro e w5 ⟨rfl,hb5⟩;have hz5:=hb5.size;have hlen:=hid (IT M 0)
 have hown5:=(hown4.below hb5 (aA _)).base (B':=w3.heap.size) (aA _);have hz05:w.heap.size+1<=w5.heap.size:=by omega
 have hz03:w.heap.size+1<=w3.heap.size:=by omega
 have hb05:Below (w.heap.size+1) (w.alloc (.cells #[.string {data:=#[]},.int .i64 0,.slice none 0 0] 118)) w5:=((hbq.trans (hb3.mono (by omega))).trans (hb4.mono (by omega))).trans (hb5.mono (by omega));have ne1:w.heap.size≠w2.heap.size:=by omega
 have ne2:w2.heap.size≠w.heap.size:=by omega
 go_wp2_with (at_builtin;(refine eN rfl _ _ rfl w3.heap.size _ _ rfl (hown5.alloc _) w5.heap.size ((A.size:Int)+1) rfl ?_ ?_ ?_ ?_;(exact bS _ _ _);(have:=hlen.out.1;omega);(simp;omega);intro v6 w6 hown6 hb6 _;obtain⟨a6,c6,e6,_,_,_⟩:=hown6.rd.open;subst e6;have g0:=((hq4.below hb5 (by omega)).alloc _).below hb6 (by omega);have g1:=g0.cell (i:=0) rfl;have g2:=g0.cell (i:=1) rfl;have g3:=g0.cell (i:=2) rfl;have g4:=g0.free;have hz6:=hb6.size;simp only[fV] at hz6;have hbE:=(hb05.alloc hz05 _).trans (hb6.mono hz03);have p0:=harr.below hbE (by omega);have p1:=p0.cell (i:=0) rfl;have p2:=p0.cell (i:=1) rfl;have p3:=p0.cell (i:=2) rfl;have p4:=p0.free))
 rw[show(cZ 0 M++[(A.size:Int)+1]).length=(cZ 0 M).length+1 by simp] at hown6;generalize hv:Value.slice a6 ((cZ 0 M).length+1) c6=v6 at*
 have hF:Arr ((((w6.setCell ⟨w2.heap.size,2,none⟩ v6).setCell ⟨w.heap.size,0,none⟩ (.string A)).setCell ⟨w.heap.size,1,none⟩ (.int .i64 (n:Int))).setCell ⟨w.heap.size,2,none⟩ v6) w.heap.size 118 [.string A,.int .i64 (n:Int),v6]:=(((p0.other ⟨w2.heap.size,2,none⟩ ne2 v6).set 0 _).set 1 _).set 2 _;have ho1:=hown6.kept (nK (zH w6 (some w2.heap.size)) 2 v6) (fun b e=>by simp at e;omega);have ho2:=ho1.kept (nK (nK (nK (zH _ (some w.heap.size)) 0 (.string A)) 1 (.int .i64 (n:Int))) 2 v6) (fun b e=>by simp at e;omega)
 have hbF:=((((((aB w.heap.size w).alloc (aA _) _).trans (hbE.mono (by omega))).setCell (p:=⟨w2.heap.size,2,none⟩) (by show w.heap.size<=w2.heap.size;omega) v6).setCell (p:=⟨w.heap.size,0,none⟩) (aA _) (.string A)).setCell (p:=⟨w.heap.size,1,none⟩) (aA _) (.int .i64 (n:Int))).setCell (p:=⟨w.heap.size,2,none⟩) (aA _) v6;refine gJ (zI rfl _ _ w.heap.size _ _ (0,0) _ rfl hF Tryz.underlying118 rfl EA) rfl ⟨o,v6,hO,?_,?_,hbF⟩
 ·rw[<-HA.out,<-HN.out];rfl
 ·rw[HSYM.out];exact ho2.base (by omega)
end
section
open Go.RowKit Go Go.Shelf
theorem TC {l g:List Int} (h:bL l=0) (hg:∀x∈g,0<=x/\x<(l.length:Int)):nI l g=lT l g:=by
 unfold nI;rw[if_pos];unfold SE;rw[if_neg (fun k=>k h),aHm hg];rfl
theorem TD {l g:List Int} {k:Nat} {x:Int} (h:g[k]? =some x):lT l (g.take (k+1))=lT l (g.take k)+l.getD x.toNat 0:=by
 rw[cQ,h];exact SF _ _ _
theorem TE {m:List Int} {n wh k:Nat} {x:Int} (h:m[k]? =some x):dJ m n wh (k+1)=if k/10%2=wh then(dJ m n wh k).set x.toNat ((dJ m n wh k).getD x.toNat 0+1) else dJ m n wh k:=by
 have e:m.getD k 0=x:=by rw[aV,h];rfl
 show(if k/10%2=wh then(dJ m n wh k).set (m.getD k 0).toNat ((dJ m n wh k).getD (m.getD k 0).toNat 0+1) else dJ m n wh k)=_;rw[e]
theorem DK {m:List Int} {j:Nat} {g:List Int} (h:(cK m)[j]? =some g):(∀x∈g,x∈m)/\g.length<=10:=by
 have hj:=(eU.1 h).1;rw[iD] at hj;rw[wH m j hj] at h;obtain rfl:=bW h;exact⟨fun x hx=>xU (nO hx),by rw[aX];omega⟩
theorem tD {m:List Int} {n wh:Nat} (hm:m.length<=20000) (h:∀x∈m,0<=x/\x<(n:Int)):(iK m n wh).length=n/\(iK m n wh).sum<=20000/\∀x∈iK m n wh,0<=x/\x<=20000:=by
 obtain⟨h1,h2,h3⟩:=wI m n wh h m.length (aA _);unfold iK;exact⟨rP _ _ _ _,by omega,fun x hx=>by have:=h3 x hx;omega⟩
theorem LOK.two {w:World} {x y:Value} {a b:List Int} (hx:RdI w x a) (hy:RdI w y b):LOK w [x,y] [a,b]:=(LOK.nil w |>.snoc hx).snoc hy
def TH (w w':World) (m:List Int) (n:Nat) (e:Ending):Prop:=
 ∃v u,e=.returned (.tuple #[v,u,.int .i64 0])/\RdL w' v [dN m n 0,dN m n 1]/\OwI w' w.heap.size u (cT m n)/\Below w.heap.size w w'
theorem KR {s:List UInt8} {a c:Int} {k:Nat} (h:(bF s a c k).2.2=0):bF s a c (k+1)=
  if(eJ s (bF s a c k).2.1 c).2.2≠0 then((bF s a c k).1,(bF s a c k).2.1,(eJ s (bF s a c k).2.1 c).2.2)
  else if bL (eJ s (bF s a c k).2.1 c).1≠0 then((bF s a c k).1,(bF s a c k).2.1,bL (eJ s (bF s a c k).2.1 c).1)
  else((bF s a c k).1++[(eJ s (bF s a c k).2.1 c).1],(eJ s (bF s a c k).2.1 c).2.1,0):=by
 show(if(bF s a c k).2.2≠0 then bF s a c k else _)=_;rw[if_neg (fun q=>q h)]
theorem DP {s:List UInt8} {a c:Int} {k:Nat} (h:(bF s a c k).2.2≠0):∀j,(bF s a c (k+j)).2.2=(bF s a c k).2.2
 |0=>rfl
 |j+1=>by
  have ih:=DP h j;show(if(bF s a c (k+j)).2.2≠0 then bF s a c (k+j) else _).2.2=_;rw[if_pos (by rw[ih];exact h),ih]
theorem DQ {s:List UInt8} {a c:Int} (h0:0<=a):∀k,(bF s a c k).2.2=0->a<=(bF s a c k).2.1/\((bF s a c k).2.1=a\/(bF s a c k).2.1<=8*(s.length:Int))
 |0,_=>⟨Int.le_refl _,.inl rfl⟩
 |k+1,h=>by
  have hk:(bF s a c k).2.2=0:=by
   rcases Decidable.em ((bF s a c k).2.2=0) with q|q
   ·exact q
   ·have:=DP q 1;rw[h] at this;exact this.symm
  obtain⟨h1,h2⟩:=DQ (s:=s) (c:=c) h0 k hk;rw[KR hk] at h ⊢;split at h
  ·next q=>exact absurd h q
  ·next q=>
   rw[if_neg q];split at h
   ·next q2=>exact absurd h q2
   ·next q2=>
    rw[if_neg q2];have q:=dK.1 q;unfold eJ at q ⊢;split at q
    ·simp at q
    ·next k1=>
     rw[if_neg k1];simp only at q ⊢;split at q
     ·next k2=>exact absurd q k2
     ·next k2=>
      rw[if_neg k2];have:=yR s (bF s a c k).2.1 (by omega) c.toNat (dK.1 k2);show a<=(aZ s (bF s a c k).2.1 c.toNat).2.2.1/\((aZ s (bF s a c k).2.1 c.toNat).2.2.1=a\/(aZ s (bF s a c k).2.1 c.toNat).2.2.1<=_);omega
def fE (w:World) (B:Nat) (xs:List Value) (gs:List (List Int)):Prop:=xs.length=gs.length/\∀(j:Nat) (x:Value) (g:List Int),xs[j]? =some x->gs[j]? =some g->OwI w B x g
theorem fE.nil (w:World) (B:Nat):fE w B [] []:=⟨rfl,fun j x g h=>by simp at h⟩
theorem fE.map {w w':World} {B B':Nat} {xs:List Value} {gs:List (List Int)} (h:fE w B xs gs) (k:∀(x:Value) (g:List Int),OwI w B x g->OwI w' B' x g):fE w' B' xs gs:=⟨h.1,fun j x g hx hg=>k x g (h.2 j x g hx hg)⟩
theorem fE.below {w w':World} {B:Nat} {xs:List Value} {gs:List (List Int)} (h:fE w B xs gs) (hb:Below w.heap.size w w'):fE w' B xs gs:=h.map (fun _ _ k=>OwI.below k hb (aA _))
theorem fE.alloc {w:World} {B:Nat} {xs:List Value} {gs:List (List Int)} (h:fE w B xs gs) (o:Obj):fE (w.alloc o) B xs gs:=h.map (fun _ _ k=>OwI.alloc k o)
theorem fE.ok {w:World} {B:Nat} {xs:List Value} {gs:List (List Int)} (h:fE w B xs gs):LOK w xs gs:=⟨h.1,fun j x g hx hg=>OwI.rd (h.2 j x g hx hg)⟩
theorem fE.app {w w':World} {B B':Nat} {xs ys:List Value} {gs:List (List Int)} {v:Value} (h:fE w B xs gs) (ho:Ow w B' 39 v ys) (hg:w.grownBy w' v.ownBlock):fE w' B xs gs:=h.map (fun _ _ k=>Ow.kept k hg (qO k ho (by decide)))
theorem fE.snoc {w:World} {B:Nat} {xs:List Value} {gs:List (List Int)} (h:fE w B xs gs) {x:Value} {g:List Int} (hx:OwI w B x g):fE w B (xs++[x]) (gs++[g]):=by
 refine⟨by rw[aL,aL,h.1];rfl,fun j x' g' h1 h2=>?_⟩
 by_cases hj:j<xs.length
 ·rw[gS hj] at h1;rw[gS (by rw[<-h.1];exact hj)] at h2;exact h.2 j x' g' h1 h2
 ·have hjl:=(eU.1 h1).1;rw[aL,fK] at hjl;obtain rfl:j=xs.length:=by omega
  rw[AQ] at h1;rw[h.1,AQ] at h2;obtain rfl:=bW h1;obtain rfl:=bW h2;exact hx
theorem UJ {s:List UInt8} {a:Int} {t:List (List Int)} {ch:List Int} {fin:Int} {k:Nat} (h:(bH s a t ch fin k).2.2.1=0) (h2:(bH s a t ch fin k).2.2.2=false):bH s a t ch fin (k+1)=
  if(bZ (t.getD (ch.getD (k/10) 0).toNat []) s (bH s a t ch fin k).2.1).2.2≠0 then((bH s a t ch fin k).1,(bH s a t ch fin k).2.1,(bZ (t.getD (ch.getD (k/10) 0).toNat []) s (bH s a t ch fin k).2.1).2.2,false)
  else if(bZ (t.getD (ch.getD (k/10) 0).toNat []) s (bH s a t ch fin k).2.1).1=fin then
   if k/10+1<ch.length then((bH s a t ch fin k).1++[(bZ (t.getD (ch.getD (k/10) 0).toNat []) s (bH s a t ch fin k).2.1).1],(bZ (t.getD (ch.getD (k/10) 0).toNat []) s (bH s a t ch fin k).2.1).2.1,3,false)
   else((bH s a t ch fin k).1++[(bZ (t.getD (ch.getD (k/10) 0).toNat []) s (bH s a t ch fin k).2.1).1],(bZ (t.getD (ch.getD (k/10) 0).toNat []) s (bH s a t ch fin k).2.1).2.1,0,true)
  else((bH s a t ch fin k).1++[(bZ (t.getD (ch.getD (k/10) 0).toNat []) s (bH s a t ch fin k).2.1).1],(bZ (t.getD (ch.getD (k/10) 0).toNat []) s (bH s a t ch fin k).2.1).2.1,0,false):=by
 show(if(bH s a t ch fin k).2.2.1≠0\/(bH s a t ch fin k).2.2.2=true then bH s a t ch fin k else _)=_;rw[if_neg (by rw[h,h2];simp)]
theorem UK {s:List UInt8} {a:Int} {t:List (List Int)} {ch:List Int} {fin:Int} {k:Nat} (h:(bH s a t ch fin k).2.2.1≠0\/(bH s a t ch fin k).2.2.2=true):∀j,bH s a t ch fin (k+j)=bH s a t ch fin k
 |0=>rfl
 |j+1=>by
  have ih:=UK h j;show(if(bH s a t ch fin (k+j)).2.2.1≠0\/(bH s a t ch fin (k+j)).2.2.2=true then bH s a t ch fin (k+j) else _)=_;rw[ih,if_pos h]
theorem KS (s:List UInt8) (a:Int) (t:List (List Int)) (ch:List Int) (fin:Int):∀k,(bH s a t ch fin k).1.length<=k
 |0=>aA _
 |k+1=>by
  have ih:=KS s a t ch fin k;unfold bH;simp only
  split
  ·omega
  ·split
   ·show(bH s a t ch fin k).1.length<=_;omega
   ·split
    ·split
     ·rw[aL];simp;omega
     ·rw[aL];simp;omega
    ·rw[aL];simp;omega
theorem UL {s:List UInt8} {a:Int} {t:List (List Int)} {ch:List Int} {fin:Int} {k:Nat} {r:List Int} {p E:Int} {b:Bool} (hk:k<=10*ch.length) (h:bH s a t ch fin k=(r,p,E,b)) (hE:E≠0\/b=true):
  gX s a t ch fin=if E≠0 then([],0,E) else(r,p,0):=by
 have:=UK (s:=s) (a:=a) (t:=t) (ch:=ch) (fin:=fin) (k:=k) (by rw[h];exact hE) (10*ch.length-k);rw[show k+(10*ch.length-k)=10*ch.length by omega] at this;unfold gX;simp only[this,h];rcases hE with q|q
 ·rw[if_pos q,if_pos q]
 ·subst q;simp
theorem UM {l:List Int} {s:List UInt8} {a:Nat} (h:(bZ l s (a:Int)).2.2=0):(a:Int)<=(bZ l s (a:Int)).2.1/\(bZ l s (a:Int)).2.1<=8*(s.length:Int)/\0<=(bZ l s (a:Int)).1/\(bZ l s (a:Int)).1<(l.length:Int):=by
 have hc:bL l=0:=by
  unfold bZ at h;split at h
  ·next q=>exact absurd h q
  ·next q=>exact dK.1 q
 by_cases hex:∃i,i<l.length/\gZ l s a i
 ·obtain⟨i,hi,hf⟩:=hex;rw[uB hc hi hf];have:=hf.1;simp only
  omega
 ·exfalso;rw[uD hc (fun i hi hf=>hex ⟨i,hi,hf⟩)] at h;split at h<;>simp at h
theorem UN (s:List UInt8) (a c:Int):cV s a c=
  if aO s.length a 3≠0 then([],0,aO s.length a 3)
  else if aE s a 3<2\/6<aE s a 3 then([],0,3)
  else if aO s.length (a+3) 15≠0 then([],0,aO s.length (a+3) 15)
  else if aE s (a+3) 15=0 then([],0,3)
  else if(dD s (a+18) (aE s (a+3) 15) (aE s a 3)).2.2≠0 then([],0,(dD s (a+18) (aE s (a+3) 15) (aE s a 3)).2.2)
  else if(bF s (dD s (a+18) (aE s (a+3) 15) (aE s a 3)).2.1 c (aE s a 3)).2.2≠0 then([],0,(bF s (dD s (a+18) (aE s (a+3) 15) (aE s a 3)).2.1 c (aE s a 3)).2.2)
  else gX s (bF s (dD s (a+18) (aE s (a+3) 15) (aE s a 3)).2.1 c (aE s a 3)).2.1 (bF s (dD s (a+18) (aE s (a+3) 15) (aE s a 3)).2.1 c (aE s a 3)).1 (dD s (a+18) (aE s (a+3) 15) (aE s a 3)).1 (c-1):=rfl
theorem UO {s:List UInt8} {a n t:Nat} (ht1:2<=t) (ht2:t<=6) (hn:n<=1048576) (h:(dD s (a:Int) (n:Int) (t:Int)).2.2=0):
  (dD s (a:Int) (n:Int) (t:Int)).1.length=n/\(∀x∈(dD s (a:Int) (n:Int) (t:Int)).1,0<=x/\x<(t:Int))/\(a:Int)<=(dD s (a:Int) (n:Int) (t:Int)).2.1/\((dD s (a:Int) (n:Int) (t:Int)).2.1=(a:Int)\/(dD s (a:Int) (n:Int) (t:Int)).2.1<=8*(s.length:Int)):=by
 rw[DO s a n t ht1 ht2 hn] at h ⊢;split at h
 ·next q=>exact absurd h q
 ·next q=>
  rw[if_neg q];obtain⟨h1,h2,h3,h4⟩:=wG s (t:Int) (a:Int) (by omega) (by omega) n (dK.1 q);refine⟨by rw[bJ,oO];exact h1,fun x hx=>?_,h3,h4⟩;obtain⟨b,hb,rfl⟩:=dU.1 hx;have:=(KA ht2 b).1 (IQ _ _ (fun y hy=>by rw[oR];exact h2 y hy) b hb);omega
theorem aQy (k:Nat) (x:BitVec 32):jL (k+1) x=if(jL k x).msb then(jL k x)<<<1^^^79764919#32 else(jL k x)<<<1:=rfl
theorem aAr (a:BitVec 32):bits .xor .u32 rA.max (a.toNat:Int)=((~~~ a).toNat:Int):=by
 have h:=DW (0xffffffff#32) a;have e:(((0xffffffff#32:BitVec 32).toNat:Nat):Int)=rA.max:=by decide
 rw[e] at h;rw[h];have:(0xffffffff#32)^^^a= ~~~ a:=by
  have:=BitVec.allOnes_xor (x:=a);exact this
 rw[this]
theorem aQz (i:Nat) (hi:i<256) (w:World):
  Calls Tryz.prog 86 #[.int .i64 (i:Int)] w fun e w'=>e=.returned (.int .u32 ((kN i).toNat:Int))/\w'=w:=by
 have e0:=aKo i hi;have m0:rA.wrap (i:Int)=(i:Int):=by rw[vP];omega
 have m0':(i:Int)%4294967296=(i:Int):=by omega
 obtain⟨x0,hx0⟩:∃x0,x0=BitVec.ofNat 32 i<<<24:=⟨_,rfl⟩;obtain⟨X0,hX0⟩:∃X0,X0=x0.toNat:=⟨_,rfl⟩;rw[<-hx0,<-hX0] at e0;have e0':(i:Int)*16777216%4294967296=(X0:Int):=by rw[<-e0,vP]
 have HT:=hid (show kN i=jL 8 x0 by rw[hx0];rfl);have HX0:=hid hX0;clear hX0 hx0;go_enter Tryz.func86,Tryz.ntmps86;go_wp2_with fail
 go_loopg [3,7] 8 (fun g s3 s7 wr=>∃j X:Nat,j<=8/\g=8-j/\s7=.int .i64 (j:Int)/\s3=.int .u32 (X:Int)/\Hid (X=(jL j x0).toNat)/\wr=w)
 case atStart=>exact⟨0,X0,by omega,rfl,rfl,rfl,HX0,rfl⟩
 case round=>
  obtain⟨j,X,hj,hg,rfl,rfl,HX,rfl⟩:=hrel;have HG:=hid hg;clear hg e0 e0' m0 m0'
  by_cases hlt:j<8
  ·have t1:decide ((j:Int)<8)=true:=decide_eq_true (by omega);obtain⟨x,hx⟩:∃x,x=jL j x0:=⟨_,rfl⟩;have hX:=HX.out;rw[<-hx] at hX;have hsucc:=aQy j x0;rw[<-hx] at hsucc;have e1:=aKq x;have e2:=WC x;obtain⟨y,hy⟩:∃y,y=x<<<1:=⟨_,rfl⟩;obtain⟨Y,hY⟩:∃Y,Y=y.toNat:=⟨_,rfl⟩;have e3:=WE y;obtain⟨z,hz⟩:∃z,z=y^^^79764919#32:=⟨_,rfl⟩;obtain⟨Z,hZ⟩:∃Z,Z=z.toNat:=⟨_,rfl⟩;rw[<-hX] at e1;rw[<-hX,<-hy,<-hY] at e2;rw[<-hY,<-hz,<-hZ] at e3;rw[<-hy,<-hz] at hsucc;have e2':(X:Int)*2%4294967296=(Y:Int):=by rw[<-e2,vP]
   have HY:=hid hY;have HZ:=hid hZ
   by_cases hm:x.msb=true
   ·rw[if_pos hm] at e1;rw[if_pos hm] at hsucc;have HS:=hid hsucc;clear hx hX hy hY hz hZ hsucc hm;go_wp2_with fail;have hg:=HG.out
    go_roundg (8-(j+1))
    case measure=>omega
    case rel=>exact⟨j+1,Z,by omega,rfl,by go_num,rfl,hid (by rw[HS.out];exact HZ.out),rfl⟩
   ·rw[if_neg hm] at e1;rw[if_neg hm] at hsucc;have HS:=hid hsucc;clear hx hX hy hY hz hZ hsucc hm e3;go_wp2_with fail;have hg:=HG.out
    go_roundg (8-(j+1))
    case measure=>omega
    case rel=>exact⟨j+1,Y,by omega,rfl,by go_num,rfl,hid (by rw[HS.out];exact HY.out),rfl⟩
  ·have t1:decide ((j:Int)<8)=false:=decide_eq_false (by omega);have ej:j=8:=by omega
   subst ej;go_wp2_with fail;go_ret;exact⟨fX (by rw[HT.out,<-HX.out]),rfl⟩
def fT (f:Nat->Nat):List Value:=(dG 256).map fun c=>.int .u32 (f c:Int)
theorem EZ (f:Nat->Nat) (c:Nat) (h:c<256):(fT f)[c]? =some (.int .u32 (f c:Int)):=by simp[fT,h]
theorem aQ0 (f f':Nat->Nat) (c:Nat) (v:Nat) (h:∀d,f' d=if d=c then v else f d):(fT f).set c (.int .u32 (v:Int))=fT f':=by
 apply jA;intro j
 by_cases hj:j<256
 ·by_cases e:c=j
  ·subst e;simp[fT,hj,h]
  ·rw[List.getElem?_set_ne e,EZ f j hj,EZ f' j hj,h,if_neg (fun h=>e h.symm)]
 ·rw[dL (by simp[fT];omega),dL (by simp[fT];omega)]
theorem aAs:Tryz.zeroCells144=(fT (fun _=>0)).toArray:=by kernel_rfl
theorem aQ1 (f:Nat->Nat):(fT f).toArray.size=256:=by simp[fT]
theorem aAt (f:Nat->Nat):(Tryz.prog.info? 144).map (·.size)=some (fT f).toArray.size:=by rw[aQ1];kernel_rfl
theorem aAu:Tryz.prog.underlying 144=some (.array 256 34):=by kernel_rfl
theorem aAv {w:World} {b:Nat} {e:TypeId} {l:List Value} (h:Arr w b e l) (hl:l.length=256) (f:Nat->Nat):
  (storeCells ⟨b,0,none⟩ (fT f)).run Tryz.prog w=.ok () (w.setRow b (fT f).toArray):=by
 have h1:(fT f).length=256:=by simp[fT]
 have h2:=run_storeCells_from (P:=Tryz.prog) b e (fT f) 0 l.toArray w h (by simp[hl,h1]) (fun v hv=>by obtain⟨c,_,rfl⟩:=dU.1 hv;rfl);rw[h2]
 congr 2
def qS (k c:Nat):Nat:=if c<k then(kN c).toNat else 0
theorem aQ2 (k c:Nat):qS (k+1) c=if c=k then(kN k).toNat else qS k c:=by
 unfold qS
 by_cases h:c=k
 ·subst h;simp
 ·rw[if_neg h]
  by_cases h2:c<k
  ·rw[if_pos h2,if_pos (by omega)]
  ·rw[if_neg h2,if_neg (by omega)]
theorem aQ3 (w:World):
  Calls Tryz.prog 85 #[.func (.func 86) #[] #[]] w fun e w'=>e=.returned (.agg (fT (fun c=>(kN c).toNat)).toArray)/\Below w.heap.size w w':=by
 go_enter Tryz.func85,Tryz.ntmps85;go_wp2_with fail
 go_loopg [3,4] 256 (fun gh _s3 s4 wr=>∃k:Nat,k<=256/\gh=256-k/\s4=.int .i64 k/\Arr wr w.heap.size 144 (fT (qS k))/\Below w.heap.size w wr)
 case atStart=>
  refine⟨0,aU _,rfl,rfl,?_,(aB _ _).alloc (aA _) _⟩;rw[aAs,show qS 0=fun _=>0 from by funext c;simp[qS]];exact Arr.new w _ _
 case round=>
 obtain⟨k,hk,hg,rfl,harr,hbel⟩:=hrel;have HG:=hid hg;clear hg
 by_cases hlt:k<256
 ·have t1:decide ((k:Int)<256)=true:=decide_eq_true (by omega);have c1:=harr.cell (EZ (qS k) k hlt);have f1:=harr.free k;go_wp2_with fail;refine(aQz k hlt _).mono ?_;rintro e w1 ⟨rfl,rfl⟩;have hk2:(k:Int)<256:=by omega
  go_wp2_with fail;have hg:=HG.out
  go_roundg (256-(k+1))
  case measure=>omega
  case rel=>
   refine⟨k+1,by omega,rfl,by go_num,?_,hbel.setCell (p:=⟨w.heap.size,k,none⟩) (aA _) _⟩;have:=harr.set k (.int .u32 ((kN k).toNat:Int));rwa[aQ0 _ (qS (k+1)) _ _ (aQ2 k)] at this
 ·have hke:k=256:=by omega
  subst hke;have t1:decide ((256:Int)<256)=false:=by decide
  have hfin:fT (qS 256)=fT (fun c=>(kN c).toNat):=by
   unfold fT;apply qW;intro c hc;rw[jF] at hc;unfold qS;rw[if_pos hc]
  rw[hfin] at harr;clear hfin;go_wp2_with fail;refine wp_load_row 144 (.tmp 2) rfl w.heap.size rfl _ _ (0,0) (.array 256 34) harr aAu rfl (aAt _) ?_;have hst:=aAv harr (by simp[fT]) (fun c=>(kN c).toNat);go_wp2_with fail;have harr2:Arr (wr.setRow w.heap.size (fT (fun c=>(kN c).toNat)).toArray) w.heap.size 144 (fT (fun c=>(kN c).toNat)):=setRow_heap wr w.heap.size _ _ 144 (0,0) harr;refine gJ (results_cell_row rfl _ _ w.heap.size _ _ (0,0) (.array 256 34) rfl harr2 aAu rfl (aAt _)) rfl ?_;exact⟨rfl,zB hbel _ (aA _) _⟩
theorem aQ4 (c:BitVec 32) (s:ByteArray) (w:World) (hs:s.size<=140737488355328):
  Calls Tryz.prog 51 #[.int .u32 (c.toNat:Int),.string s] w fun e w'=>e=.returned (.int .u32 ((~~~ kQ (~~~ c) s.data.toList).toNat:Int))/\Below w.heap.size w w':=by
 have HL:=hid (show s.data.toList.length=s.size by simp);have x1:=aAr c;obtain⟨C,hC⟩:∃C,C=c.toNat:=⟨_,rfl⟩;obtain⟨D,hD⟩:∃D,D=(~~~ c).toNat:=⟨_,rfl⟩;rw[<-hC] at x1 ⊢;rw[<-hD] at x1;have HD:=hid hD;obtain⟨cc,hcc⟩:∃cc,cc= ~~~ c:=⟨_,rfl⟩;rw[<-hcc] at HD ⊢;clear hC hD hcc;go_enter Tryz.func51,Tryz.ntmps51;go_wp2_with fail;refine(aQ3 _).mono ?_;rintro e w1 ⟨rfl,hb1⟩;have ha:Arr (w1.alloc (.cells Tryz.zeroCells144 144)) w1.heap.size 144 (fT (fun _=>0)):=by rw[aAs];exact Arr.new w1 _ _
 have hst:=aAv ha (by simp[fT]) (fun c=>(kN c).toNat);have ha2:Arr ((w1.alloc (.cells Tryz.zeroCells144 144)).setRow w1.heap.size (fT (fun c=>(kN c).toNat)).toArray) w1.heap.size 144 (fT (fun c=>(kN c).toNat)):=setRow_heap (w1.alloc (.cells Tryz.zeroCells144 144)) w1.heap.size _ _ 144 (0,0) ha;have hb2:Below w.heap.size w ((w1.alloc (.cells Tryz.zeroCells144 144)).setRow w1.heap.size (fT (fun c=>(kN c).toNat)).toArray):=zB (hb1.alloc hb1.size _) _ hb1.size _;go_wp2_with fail
 generalize (w1.alloc (.cells Tryz.zeroCells144 144)).setRow w1.heap.size (fT (fun c=>(kN c).toNat)).toArray=w2 at*
 have HG0:=hid (fun c (hc:c<256)=>ha2.cell (EZ (fun c=>(kN c).toNat) c hc));clear hst ha ha2;go_wp2_with fail
 go_loopg [0,6,12] s.size (fun g s0 _s6 s12 wr=>∃k X:Nat,k<=s.size/\g=s.size-k/\s12=.int .i64 (k:Int)/\s0=.int .u32 (X:Int)/\Hid (X=(kQ cc (s.data.toList.take k)).toNat)/\wr=w2)
 case atStart=>exact⟨0,D,aU _,rfl,rfl,rfl,HD,rfl⟩
 case round=>
  obtain⟨k,X,hk,hg,rfl,rfl,HX,rfl⟩:=hrel;have HG:=hid hg;clear hg x1
  by_cases hlt:k<s.size
  ·have t1:decide ((k:Int)<(s.size:Int))=true:=decide_eq_true (by omega);have hb:=s[k].toNat_lt;have HS:=hid (WF cc s.data.toList k s[k] (eW s k hlt));obtain⟨x,hx⟩:∃x,x=kQ cc (s.data.toList.take k):=⟨_,rfl⟩;rw[<-hx] at HX HS;have hX:=HX.out;have hstep:=aIv x s[k].toNat hb;have e1:=aKn x;have e2:=aKp x;have hq256:(x>>>24).toNat<256:=by
    have:(x>>>24).toNat=x.toNat/16777216:=by simp[Nat.shiftRight_eq_div_pow]
    have:=x.isLt;omega
   obtain⟨y,hy⟩:∃y,y=x<<<8:=⟨_,rfl⟩;obtain⟨Y,hY⟩:∃Y,Y=y.toNat:=⟨_,rfl⟩;obtain⟨Q,hQ⟩:∃Q,Q=(x>>>24).toNat:=⟨_,rfl⟩;rw[<-hX] at e1 e2;rw[<-hy,<-hY] at e1;rw[<-hQ] at e2 hq256;rw[<-hy,<-hQ] at hstep;have e3:(Q:Int)%256=(Q:Int):=by omega
   have e6:(X:Int)/16777216=(Q:Int):=by omega
   clear e2;have e4:=u8_xor_nat Q s[k].toNat hq256 hb;obtain⟨R,hR⟩:∃R,R=Q^^^s[k].toNat:=⟨_,rfl⟩;have hR256:R<256:=by rw[hR];exact Nat.xor_lt_two_pow (n:=8) hq256 hb
   rw[<-hR] at e4 hstep;have c1:=HG0.out R hR256;have hR2:(R:Int)<256:=by omega
   obtain⟨t,ht⟩:∃t,t=kN R:=⟨_,rfl⟩;have e5:=DW y t;rw[<-ht] at c1 hstep;obtain⟨T,hT⟩:∃T,T=t.toNat:=⟨_,rfl⟩;obtain⟨z,hz⟩:∃z,z=y^^^t:=⟨_,rfl⟩;obtain⟨Z,hZ⟩:∃Z,Z=z.toNat:=⟨_,rfl⟩;rw[<-hT] at c1;rw[<-hY,<-hT,<-hz,<-hZ] at e5;have HZ:=hid (show Z=(kQ cc (s.data.toList.take (k+1))).toNat by rw[HS.out,hstep,hZ,hz]);have e1':(X:Int)*256%4294967296=(Y:Int):=by rw[<-e1,vP]
   clear hx hX hstep hy hY hQ hR ht hT hz hZ HS;go_wp2_with fail;have hg:=HG.out
   go_roundg (s.size-(k+1))
   case measure=>omega
   case rel=>exact⟨k+1,Z,by omega,rfl,by go_num,rfl,HZ,rfl⟩
  ·have t1:decide ((k:Int)<(s.size:Int))=false:=decide_eq_false (by omega);obtain⟨x,hx⟩:∃x,x=kQ cc (s.data.toList.take k):=⟨_,rfl⟩;have hx2:=HX.out;rw[<-hx] at hx2;have x2:=aAr x;rw[<-hx2] at x2;obtain⟨Z,hZ⟩:∃Z,Z=(~~~ x).toNat:=⟨_,rfl⟩;rw[<-hZ] at x2;have HF:=hid (show((Z:Nat):Int)=((~~~ kQ cc s.data.toList).toNat:Int) by rw[hZ,hx,cS (by rw[HL.out];omega)]);clear hx hx2 hZ;go_wp2_with fail;go_ret;exact⟨fX HF.out,hb2⟩
theorem FA (s:ByteArray) (w:World) (hs:s.size<=140737488355328):
  Calls Tryz.prog 24 #[.string s] w fun e w'=>e=.returned (.int .u32 ((fG s.data.toList).toNat:Int))/\Below w.heap.size w w':=by
 have h0:=aQ4 (0#32) s w hs;have e0:(((0#32:BitVec 32).toNat:Nat):Int)=0:=rfl;have e1:(~~~ kQ (~~~ (0#32)) s.data.toList)=fG s.data.toList:=rfl;rw[e0,e1] at h0;go_enter Tryz.func24,Tryz.ntmps24;go_wp2_with fail;refine h0.mono ?_;rintro e w1 ⟨rfl,hb⟩;go_wp2_with fail;go_ret;exact⟨rfl,hb⟩
theorem Bld.drew {w:World} {B b:Nat} {l:List UInt8} (h:Bld w B b l):Bld w.drew B b l:=h
theorem Bld.drewN {w:World} {B b:Nat} {l:List UInt8} (h:Bld w B b l) (n:Nat):Bld (w.drewN n) B b l:=h
theorem aAo (b mb:Nat) (c:UInt8) (n M:Nat) (X:List UInt8) (w:World) (h:Bld w b b X) (hm:w.cell? ⟨mb,0,none⟩=some (.int .i64 (M:Int))) (hmb:mb<b) (hbw:b<w.heap.size) (hM:M<=1000000) (hX:X.length<=M+1) (hn:n<=255):
  Calls Tryz.prog 204 #[.int .u8 (c.toNat:Int),.int .i64 (n:Int),.pointer (some ⟨b,0,none⟩),.pointer (some ⟨mb,0,none⟩)] w fun e w'=>e=.returned (.tuple #[])/\Bld w' b b ((X++bB n c).take (M+1))/\Below b w w':=by
 go_enter Tryz.func204,Tryz.ntmps204;go_wp2_with fail
 go_loopg [7] n (fun g s7 wr=>∃(k:Nat) (Y:List UInt8),k<=n/\g=n-k/\s7=.int .i64 (k:Int)/\Hid (Y=(X++bB k c).take (M+1))/\Bld wr b b Y/\Below b w wr)
 case atStart=>exact⟨0,X,aU _,rfl,rfl,hid (by rw[List.replicate_zero,List.append_nil,cS hX]),h,aB _ _⟩
 case round=>
  obtain⟨k,Y,hk,hg,rfl,HY,hB,hbel⟩:=hrel;have HG:=hid hg;clear hg
  by_cases hlt:k<n
  ·have t1:decide ((k:Int)<(n:Int))=true:=decide_eq_true (by omega);have c1:=(hbel.cell (p:=⟨mb,0,none⟩) hmb).trans hm;have hmx:max (M:Int) 0=(M:Int):=by omega
   have hBd:=hB.drew;have hsz:=hbel.size;go_wp2_with fail
   by_cases hful:M<Y.length
   ·have t2:decide ((M:Int)<(Y.length:Int))=true:=decide_eq_true (by omega);have t3:decide ((Y.length:Int)>(M:Int))=true:=decide_eq_true (by omega)
    go_region_with (go_at_call 205;refine(EW b b Y _ (by assumption)).mono ?_;rintro e w1 ⟨rfl,rfl⟩)
    all_goals
     go_wp2_with fail
     first|go_end0|refine gJ (results_none rfl _ _ _) rfl ?_
     exact⟨rfl,by rw[aKd hk HY.out hful];exact hB,hbel.drew⟩
   ·have t2:decide ((M:Int)<(Y.length:Int))=false:=decide_eq_false (by omega);have t3:decide ((Y.length:Int)>(M:Int))=false:=decide_eq_false (by omega);have hcall:=aAm b b Y c wr.drew hBd (by omega) (by show b<=wr.heap.size;omega)
    go_region_with (go_at_call 205;refine(EW b b Y _ (by assumption)).mono ?_;rintro e w1 ⟨rfl,rfl⟩)
    all_goals
     go_wp2_with fail;refine hcall.mono ?_;rintro e w2 ⟨rfl,h2,b2,_⟩;go_wp2_with fail;have hg:=HG.out
     go_roundg (n-(k+1))
     case measure=>omega
     case rel=>exact⟨k+1,Y++[c],by omega,rfl,by go_num,hid (aKe HY.out (by omega)),h2,hbel.drew.trans b2⟩
  ·have t1:decide ((k:Int)<(n:Int))=false:=decide_eq_false (by omega);have hke:k=n:=by omega
   subst hke;go_wp2_with fail
   go_end0
   exact⟨rfl,by rw[<-HY.out];exact hB,hbel⟩
theorem aAp (w:World):Bld (w.alloc (.cells #[.pointer none,.slice none 0 0] 88)) w.heap.size w.heap.size []:=Lib.IsBuilderF.of (Lib.fresh_isBuilder 88 5 w)
theorem aQv (s:ByteArray) (M:Nat) (w:World) (hs:s.size<=1000000) (hM:M<=1000000):
  Calls Tryz.prog 177 #[.string s,.int .i64 (M:Int)] w fun e w'=>e=.returned (.tuple #[.string (mkS (fR s.data.toList M).1),.int .i64 (fR s.data.toList M).2])/\Below w.heap.size w w':=by
 have HL:=hid (show s.data.toList.length=s.size by simp);have hmf:∀(fn:Fn) (first cap:Array Value) (w:World),(Instr.makeFunc fn first cap).run Tryz.prog w=.ok (.func fn first cap) w:=fun _ _ _ _=>rfl
 have hE:∀args W,(callFunc 204 args).run Tryz.prog W=.ok (.enter 204 args) W:=enters_of Tryz.func204 (by kernel_rfl) rfl;go_enter Tryz.func177,Tryz.ntmps177;go_wp2_with fail;have hB0:=aAp (w.alloc (.cells #[.int .i64 (M:Int)] 3));rw[fV] at hB0;have hm0:((w.alloc (.cells #[.int .i64 (M:Int)] 3)).alloc (.cells #[.pointer none,.slice none 0 0] 88)).cell? ⟨w.heap.size,0,none⟩=some (.int .i64 (M:Int)):=((Arr.new w 3 [.int .i64 (M:Int)]).alloc _).cell (i:=0) rfl
 have hs0:((w.alloc (.cells #[.int .i64 (M:Int)] 3)).alloc (.cells #[.pointer none,.slice none 0 0] 88)).heap.size=w.heap.size+1+1:=by simp
 have hb0:Below w.heap.size w ((w.alloc (.cells #[.int .i64 (M:Int)] 3)).alloc (.cells #[.pointer none,.slice none 0 0] 88)):=((aB _ w).alloc (aA _) _).alloc (by simp) _;generalize (w.alloc (.cells #[.int .i64 (M:Int)] 3)).alloc (.cells #[.pointer none,.slice none 0 0] 88)=w0 at*
 go_loopg [8,9,10,14] s.size (fun g s8 s9 _s10 s14 wr=>∃(k r:Nat) (c:UInt8) (o:List UInt8),k<=s.size/\g=s.size-k/\s14=.int .i64 (k:Int)/\s8=.int .i64 (r:Int)/\s9=.int .u8 (c.toNat:Int)/\r<=4/\Hid (dT s.data.toList=(unS r c (s.data.toList.drop k)).map (o++·))/\Bld wr (w.heap.size+1) (w.heap.size+1) (o.take (M+1))/\Below (w.heap.size+1) w0 wr)
 case atStart=>exact⟨0,0,0,[],aU _,rfl,rfl,rfl,rfl,by omega,hid (aJ6 _),hB0,aB _ _⟩
 case round=>
  obtain⟨k,r,c,o,hk,hg,rfl,rfl,rfl,hr4,HO,hB,hbel⟩:=hrel;have HG:=hid hg;clear hg;have hm1:=(hbel.cell (p:=⟨w.heap.size,0,none⟩) (by show w.heap.size<w.heap.size+1;omega)).trans hm0;have hsz:=hbel.size;have hXl:(o.take (M+1)).length<=M+1:=by rw[aX];omega
  by_cases hlt:k<s.size
  ·have t1:decide ((k:Int)<(s.size:Int))=true:=decide_eq_true (by omega);have hb:=s[k].toNat_lt;have hdk:s.data.toList.drop k=s[k]::s.data.toList.drop (k+1):=by
    obtain⟨h1,h2⟩:=eU.1 (eW s k hlt);rw[oH h1,h2]
   have HO1:=HO.out;rw[hdk] at HO1
   by_cases h4:r=4
   ·subst h4;have t2:decide (((4:Nat):Int)=4)=true:=by decide
    have HS:=hid (aJ7 HO1);have hcall:=fun(n:Nat) hn=>aAo (w.heap.size+1) w.heap.size c n M (o.take (M+1)) wr hB hm1 (by omega) (by omega) hM hXl hn
    have hcall1:=hcall s[k].toNat (by omega);rw[DU] at hcall1;clear hcall hdk HO1;go_wp2_with fail;refine hcall1.mono ?_;rintro e w2 ⟨rfl,h2,b2⟩;go_wp2_with fail;have hg:=HG.out
    go_roundg (s.size-(k+1))
    case measure=>omega
    case rel=>exact⟨k+1,0,c,_,by omega,rfl,by go_num,rfl,rfl,by omega,HS,h2,hbel.trans b2⟩
   ·have t2:decide ((r:Int)=4)=false:=decide_eq_false (by omega);have t2':((r:Int)==4)=false:=by rw[beq_eq_false_iff_ne];omega
    have hcall:=fun(d:UInt8)=>aAo (w.heap.size+1) w.heap.size d 1 M (o.take (M+1)) wr hB hm1 (by omega) (by omega) hM hXl (by omega)
    by_cases h0:0<r
    ·have t3:decide ((0:Int)<(r:Int))=true:=decide_eq_true (by omega);have t3':decide ((r:Int)>0)=true:=decide_eq_true (by omega)
     by_cases hc:s[k]=c
     ·have t4:((s[k].toNat:Int)==(c.toNat:Int))=true:=by rw[hc];simp
      have t4':decide ((s[k].toNat:Int)=(c.toNat:Int))=true:=decide_eq_true (by rw[hc]);rw[hc] at HO1;have HS:=hid (aJ8 HO1 h0 h4);have hcall1:=hcall c;rw[DU] at hcall1;have m1:aI.wrap ((r:Int)+1)=((r+1:Nat):Int):=by rw[aM];omega
      clear hcall hdk HO1 hc;go_wp2_with fail;refine hcall1.mono ?_;rintro e w2 ⟨rfl,h2,b2⟩;go_wp2_with fail;have hg:=HG.out
      go_roundg (s.size-(k+1))
      case measure=>omega
      case rel=>exact⟨k+1,r+1,c,_,by omega,rfl,by go_num,by go_num,rfl,by omega,HS,h2,hbel.trans b2⟩
     ·have hne:(s[k].toNat:Int)≠(c.toNat:Int):=fun e=>hc (UInt8.toNat_inj.1 (by omega))
      have t4:((s[k].toNat:Int)==(c.toNat:Int))=false:=by rw[beq_eq_false_iff_ne];exact hne
      have t4':decide ((s[k].toNat:Int)=(c.toNat:Int))=false:=decide_eq_false hne;have HS:=hid (VY HO1 h4 (by rintro⟨_,h⟩;exact hc h));have hcall1:=hcall s[k];rw[DU] at hcall1;clear hcall hdk HO1 hc hne;go_wp2_with fail;refine hcall1.mono ?_;rintro e w2 ⟨rfl,h2,b2⟩;go_wp2_with fail;have hg:=HG.out
      go_roundg (s.size-(k+1))
      case measure=>omega
      case rel=>exact⟨k+1,1,s[k],_,by omega,rfl,by go_num,rfl,rfl,by omega,HS,h2,hbel.trans b2⟩
    ·have t3:decide ((0:Int)<(r:Int))=false:=decide_eq_false (by omega);have t3':decide ((r:Int)>0)=false:=decide_eq_false (by omega);have HS:=hid (VY HO1 h4 (by rintro⟨h,_⟩;exact h0 h));have hcall1:=hcall s[k];rw[DU] at hcall1;clear hcall hdk HO1;go_wp2_with fail;refine hcall1.mono ?_;rintro e w2 ⟨rfl,h2,b2⟩;go_wp2_with fail;have hg:=HG.out
     go_roundg (s.size-(k+1))
     case measure=>omega
     case rel=>exact⟨k+1,1,s[k],_,by omega,rfl,by go_num,rfl,rfl,by omega,HS,h2,hbel.trans b2⟩
  ·have t1:decide ((k:Int)<(s.size:Int))=false:=decide_eq_false (by omega);have hend:=HO.out;rw[List.drop_eq_nil_of_le (by rw[HL.out];omega)] at hend;have hend:=aJ9 hend
   by_cases h4:r=4
   ·subst h4;have t2:decide (((4:Nat):Int)=4)=true:=by decide
    rw[if_pos rfl] at hend;have HE:=hid (VZ (most:=(M:Int)) hend);clear hend;go_wp2_with fail
    go_ret2
    exact⟨by rw[HE.out];rfl,hb0.trans (hbel.mono (by omega))⟩
   ·have t2:decide ((r:Int)=4)=false:=decide_eq_false (by omega);have t2':((r:Int)==4)=false:=by rw[beq_eq_false_iff_ne];omega
    rw[if_neg h4] at hend;have hE2:=LI (most:=(M:Int)) hend;clear hend;have hBN:∀n,Bld (wr.drewN n) (w.heap.size+1) (w.heap.size+1) (o.take (M+1)):=fun n=>hB.drewN n
    by_cases hlong:M<o.length
    ·rw[if_pos (by omega)] at hE2;have HE:=hid hE2;clear hE2;have hlen:(o.take (M+1)).length=M+1:=by rw[aX];omega
     have t5:decide ((M:Int)<((M+1:Nat):Int))=true:=decide_eq_true (by omega);have t6:decide (((M+1:Nat):Int)>(M:Int))=true:=decide_eq_true (by omega);have hBd:=hB.drew;have HLn:=hid hlen;clear hlen;go_wp2_with fail
     go_region_with (go_at_call 205;refine(EW (w.heap.size+1) (w.heap.size+1) (o.take (M+1)) _ (by assumption)).mono ?_;rintro e w1 ⟨rfl,rfl⟩;rw[HLn.out])
     all_goals
      go_wp2_with fail
      go_ret2
      exact⟨by rw[HE.out];rfl,hb0.trans ((hbel.mono (by omega)).drew)⟩
    ·rw[if_neg (by omega)] at hE2;have HE:=hid hE2;clear hE2;rw[cS (by omega)] at hB hBN;have t5:decide ((M:Int)<(o.length:Int))=false:=decide_eq_false (by omega);have t6:decide ((o.length:Int)>(M:Int))=false:=decide_eq_false (by omega);have hBd:=hB.drew;have hcall:=aAn (w.heap.size+1) (w.heap.size+1) o wr.drew hBd (by show w.heap.size+1<=wr.heap.size;omega);go_wp2_with fail
     go_region_with (go_at_call 205;refine(EW (w.heap.size+1) (w.heap.size+1) o _ (by assumption)).mono ?_;rintro e w1 ⟨rfl,rfl⟩)
     all_goals
      go_wp2_with fail;refine hcall.mono ?_;rintro e w2 ⟨rfl,_,b2,_⟩;go_wp2_with fail
      go_ret2
      exact⟨by rw[HE.out];rfl,hb0.trans (((hbel.drew).trans b2).mono (by omega))⟩
end
end Go.Proofs.YtpgmbhpbgkljdaaGreatDoor
