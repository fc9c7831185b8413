/-
  Texts put together (part 7): the walks and the plain laws on which the statement stands.
-/
import Derived.WalkMore
import Derived.BigRegion
import Derived.Test.YtmcogmmncfihhaaGreatDoorZ6
set_option maxRecDepth 100000
set_option maxHeartbeats 12800000
set_option linter.unusedVariables false
set_option linter.unusedSimpArgs false
open Go renaming Program->gD,bodyPost_ret->gJ,run_underlying->sI
open Go.Addr renaming add->iN
open Go.Instr renaming index->tV
open Go.IntKind renaming i64->aI,wrap_i64->aM
open Go.RowKit.Below renaming refl->aB
open Go.Value renaming int->bO
open Go.World renaming size_alloc->fV
open Go.World.ownsRow renaming alloc->aBy,kept->NH,lt->aT4
open Int renaming natCast_zero->OF,toNat_natCast->eG
open List renaming append_assoc->cF,countP_le_length->xR,flatten_append->AM,flatten_cons->AS,getD_eq_getElem?_getD->aV,getElem?_append_left->gS,getElem?_eq_getElem->aN,getElem?_eq_some_iff->eU,getElem?_map->dY,getElem_mem->gT,length_append->aL,length_cons->cR,length_map->bJ,length_nil->cX,length_replicate->vO,length_take->aX,mem_append->cU,mem_cons_of_mem->jD,mem_cons_self->lY,mem_map->dU,mem_of_getElem?->cH,mem_of_mem_take->nO,replicate->bB,replicate_succ'->AI,take_add_one->cQ,take_length->kE,take_of_length_le->cS
open Nat renaming add_assoc->dZ,add_zero->pH,le_refl->aA,le_trans->aW,lt_or_ge->bT,min_eq_left->gU,succ_mul->aUe,zero_add->iZ,zero_le->aU
open Option.some renaming inj->bW
namespace Go.Proofs.YtmcogmmncfihhaaGreatDoor
open Go.RowKit Go Go.Shelf
abbrev aUh:=List (List Value)
def aUq (k:Nat) (l:aUh):Prop:=∀q∈l,q.length=k/\∀u∈q,u.oneCell'=true
theorem aUq.app {k:Nat} {l m:aUh} (h:aUq k l) (g:aUq k m):aUq k (l++m):=fun q hq=>(cU.1 hq).elim (h q) (g q)
theorem aUq.one {k:Nat} {q:List Value} (h:q.length=k) (g:∀u∈q,u.oneCell'=true):aUq k [q]:=fun x hx=>by obtain rfl:=List.mem_singleton.1 hx;exact⟨h,g⟩
theorem aVf {k:Nat}:∀{l:aUh},aUq k l->l.flatten.length=l.length*k
 |[],_=>by simp
 |x::l,h=>by
  rw[AS,aL,aVf (l:=l) (fun q hq=>h q (jD _ hq)),(h x (lY ..)).1,cR,aUe,Nat.add_comm]
theorem aVg {k:Nat}:∀{l:aUh},aUq k l->∀(j i:Nat) (q:List Value) (u:Value),l[j]? =some q->q[i]? =some u->l.flatten[j*k+i]? =some u
 |[],_,j,i,q,u,h,_=>by simp at h
 |x::l,hw,0,i,q,u,h,hu=>by
  obtain rfl:x=q:=by simpa using h
  have hi:=(eU.1 hu).1;rw[AS,Nat.zero_mul,iZ,gS hi];exact hu
 |x::l,hw,j+1,i,q,u,h,hu=>by
  have ih:=aVg (fun q hq=>hw q (jD _ hq)) j i q u (by simpa using h) hu;have hx:=(hw x (lY ..)).1;rw[AS,List.getElem?_append_right (by rw[hx,aUe];omega),hx,show(j+1)*k+i-k=j*k+i by rw[aUe];omega];exact ih
theorem aWn {k:Nat} {l:aUh} (h:aUq k l):∀u∈l.flatten,u.oneCell'=true:=fun u hu=>by
 obtain⟨q,hq,hu⟩:=List.mem_flatten.1 hu;exact(h q hq).2 u hu
structure ElR (P:gD) (t e k bytes:Nat) (z:Value):Prop where
 under:P.underlying t=some (.slice e)
 info:∃i,P.info? e=some i/\i.zero=some z/\i.size=k/\i.bytes=bytes
 cells:z.cells.size=k
 pos:1<=bytes
 some':1<=k
theorem ElR.mk' {P:gD} {t e k bytes:Nat} {z:Value} (h:(P.info? e).map (fun i=>(i.zero,i.size,i.bytes))=some (some z,k,bytes)) (hu:P.underlying t=some (.slice e)) (hc:z.cells.size=k) (hb:1<=bytes) (hk:1<=k):ElR P t e k bytes z:=by
 obtain⟨i0,hi,hz0,hz1,hz2⟩:=info_parts h;exact⟨hu,⟨i0,hi,hz0,hz1,hz2⟩,hc,hb,hk⟩
def RdR (w:World) (v:Value) (l:aUh):Prop:=Rd w v l.length l.flatten
theorem RdR.below {w w':World} {v:Value} {l:aUh} (h:RdR w v l) (hb:Below w.heap.size w w'):RdR w' v l:=Rd.below h hb
def OwR (w:World) (B e k:Nat) (v:Value) (l:aUh):Prop:=w.ownsRow B e k v l.length l.flatten
theorem OwR.nil (w:World) (B e k:Nat):OwR w B e k (.slice none 0 0) []:=World.ownsRow_nil _ _ _ _
theorem OwR.alloc {w:World} {B e k:Nat} {v:Value} {l:aUh} (h:OwR w B e k v l) (o:Obj):OwR (w.alloc o) B e k v l:=aBy h o
theorem OwR.below {w w':World} {B C e k:Nat} {v:Value} {l:aUh} (h:OwR w B e k v l) (hb:Below C w w') (hC:w.heap.size<=C):OwR w' B e k v l:=GZ h hb hC
theorem OwR.base {w:World} {B B' e k:Nat} {v:Value} {l:aUh} (h:OwR w B e k v l) (hb:B'<=B):OwR w B' e k v l:=IA h hb
theorem OwR.kept {w w':World} {B e k:Nat} {v:Value} {l:aUh} {row:Option Nat} (h:OwR w B e k v l) (hg:w.grownBy w' row) (hne:v.ownBlock=none\/v.ownBlock≠row):OwR w' B e k v l:=NH h hg hne
theorem OwR.lt {w:World} {B e k:Nat} {v:Value} {l:aUh} (h:OwR w B e k v l):∀g,v.ownBlock=some g->B<=g/\g<w.heap.size:=aT4 h
theorem OwR.rd {w:World} {B e k:Nat} {v:Value} {l:aUh} (h:OwR w B e k v l):RdR w v l:=Rd.of_own h
theorem RdR.open {w:World} {v:Value} {l:aUh} {k:Nat} (h:RdR w v l) (hw:aUq k l) (hk:1<=k):∃a cap,v=.slice a l.length cap/\l.length<=cap/\cap<=maxLen/\
  (0<l.length->∃b off,a=some ⟨b,off,none⟩/\b<w.heap.size/\∀j q i u,l[j]? =some q->q[i]? =some u->w.cell? ⟨b,off+(j*k+i),none⟩=some u):=by
 obtain⟨a,cap,rfl,h1,h2,h3⟩:=h;refine⟨a,cap,rfl,h1,h2,fun hne=>?_⟩;have hfl:=aVf hw;rcases h3 with h3|⟨b,off,rfl,hlt,hc⟩
 ·rw[h3,cX] at hfl;have:=Nat.mul_pos hne hk;omega
 ·refine⟨b,off,rfl,hlt,fun j q i u hq hu=>?_⟩;have hf:=aVg hw j i q u hq hu;obtain⟨hj,hx⟩:=eU.1 hf;rw[hc _ hj,aV,hf];rfl
theorem RdR.one {w:World} {g e:Nat} {q:List Value} (h:Arr w g e q):RdR w (.slice (some ⟨g,0,none⟩) 1 1) [q]:=by
 refine⟨_,1,rfl,aA _,by simp[maxLen],.inr ⟨g,0,rfl,h.lt,fun j hj=>?_⟩⟩;rw[AS,List.flatten_nil,List.append_nil] at hj ⊢;rw[iZ,h.cell (i:=j) (aN hj),aV,aN hj];rfl
section
variable {P:gD} {t e k bytes:Nat} {z:Value}
theorem aVt (E:ElR P t e k bytes z) {w:World} (ty:TypeId) (base:Nat) (v:Value) (l:aUh) (hown:OwR w base e k v l) (sv:Value) (m:aUh) (hsrc:RdR w sv m) (h1:aUq k m) (hm:0<m.length) (hroom:(l.length+m.length)*bytes<=140737488355328) (hbase:base<=w.heap.size):
  ∃v' w',(Builtin.append_ #[t,t] ty #[v,sv]).run P w=.ok v' w'/\OwR w' base e k v' (l++m)/\Below base w w'/\w.grownBy w' v.ownBlock:=by
 obtain⟨i,hi,hz,h2,h3⟩:=E.info;obtain⟨a,cap,rfl,hc1,hc2,h⟩:=hsrc.open h1 E.some';obtain⟨b,off,rfl,hlt,hc⟩:=h hm;have hpos:=E.pos;have hk:=E.some';have hn:l.length+m.length<=140737488355328:=aW (Nat.le_mul_of_pos_right _ hpos) hroom;have hfl:=aVf h1;obtain⟨v',w',q1,q2,q3,_⟩:=run_append_own (P:=P) w base t ty e i z k bytes E.under hi hz h2 h3 E.cells hk v l.length _ hown ⟨b,off,none⟩ m.length cap m.flatten hfl (fun j u hu=>by
   have hj:=(eU.1 hu).1;rw[hfl] at hj;have hjk:j/k<m.length:=(Nat.div_lt_iff_lt_mul hk).2 hj;have hq:m[j/k]? =some m[j/k]:=aN hjk;have hql:=(h1 _ (gT hjk)).1;have hlt2:=Nat.mod_lt j hk;have hqi:m[j/k][j%k]? =some (m[j/k][j%k]'(by rw[hql];exact hlt2)):=aN _;have hg:=aVg h1 _ _ _ _ hq hqi;have hd:j/k*k+j%k=j:=Nat.div_add_mod' j k;have hcc:=hc _ _ _ _ hq hqi;rw[hd] at hg hcc;rw[hg] at hu;rw[<-bW hu];have e:(⟨b,off,none⟩:Addr).add j=⟨b,off+j,none⟩:=by unfold iN;split<;>simp_all
   rw[e];exact hcc) (aWn h1) (by simp only[maxLen];omega) hroom hbase
 refine⟨v',w',q1,?_,rC hown q3 hbase,q3⟩;unfold OwR;rw[AM,aL];exact q2
end
theorem aU4 (d:Nat) (h:d<=9223372036854775807):aI.wrap (d:Int)=(d:Int):=by rw[aM];omega
def LF (x:Ent):List Value:=[.int .i64 x.a,.int .i64 x.r,.int .i64 x.f,.int .i64 x.n,.int .u32 x.y]
theorem aVn (l:List Ent):aUq 5 (l.map LF):=fun q hq=>by
 obtain⟨p,_,rfl⟩:=dU.1 hq;exact⟨rfl,fun u hu=>by unfold LF at hu;simp only[List.mem_cons,List.not_mem_nil,or_false] at hu;rcases hu with rfl|rfl|rfl|rfl|rfl<;>rfl⟩
theorem aWp {w:World} {v:Value} {l:List Ent} (h:RdR w v (l.map LF)):∃a cap,v=.slice a l.length cap/\l.length<=cap/\cap<=maxLen/\
  (0<l.length->∃b off,a=some ⟨b,off,none⟩/\b<w.heap.size/\∀j p,l[j]? =some p->w.cell? ⟨b,off+j*5,none⟩=some (.int .i64 p.a)/\w.cell? ⟨b,off+j*5+1,none⟩=some (.int .i64 p.r)/\w.cell? ⟨b,off+j*5+2,none⟩=some (.int .i64 p.f)/\w.cell? ⟨b,off+j*5+3,none⟩=some (.int .i64 p.n)/\w.cell? ⟨b,off+j*5+4,none⟩=some (.int .u32 p.y)):=by
 obtain⟨a,cap,hv,h1,h2,h3⟩:=h.open (aVn l) (by decide);rw[bJ] at hv h1 h3;refine⟨a,cap,hv,h1,h2,fun hl=>?_⟩;obtain⟨b,off,ha,hb,hc⟩:=h3 hl;refine⟨b,off,ha,hb,fun j p hj=>?_⟩;have e:(l.map LF)[j]? =some (LF p):=by rw[dY,hj];rfl
 have c:=fun i u hi=>hc j (LF p) i u e hi
 refine⟨c 0 _ rfl,?_,?_,?_,?_⟩
 ·rw[dZ];exact c 1 _ rfl
 ·rw[dZ];exact c 2 _ rfl
 ·rw[dZ];exact c 3 _ rfl
 ·rw[dZ];exact c 4 _ rfl
theorem aX7 (v:Value) (l:List Ent) (w:World) (hr:RdR w v (l.map LF)) (hl:l.length<=1000000):
  Calls Tryz.prog 25 #[v] w fun e w'=>e=.returned (.bool (decide (aU1 l)))/\Below w.heap.size w w':=by
 obtain⟨a,ca,rfl,hca,hma,hA⟩:=aWp hr;unfold maxLen at hma;obtain⟨R,hR⟩:∃R:Bool,R=decide (aU1 l):=⟨_,rfl⟩;rw[<-hR];have HR:=hid hR;clear hR hr;go_enter Tryz.func25,Tryz.ntmps25;go_wp2_with fail
 go_step3
 go_wp2_with fail
 go_step3
 go_wp2_with fail
 go_loopg [3,4,5,7,10,14] l.length (fun g s3 s4 s5 _s7 s10 _s14 wr=>∃(k:Nat) (fr lo:Int),k<=l.length/\g=l.length-k/\s10=.int .i64 (k:Int)/\s3=.int .i64 fr/\s4=.int .i64 lo/\s5=.bool true/\(0<=fr/\fr<=18720*(k:Int))/\Hid (aU1 l↔aU0 fr lo (l.drop k))/\Below w.heap.size w wr)
 case atStart=>exact⟨0,0,31,aU _,rfl,rfl,rfl,rfl,rfl,⟨by decide,by decide⟩,hid (Iff.refl _),aB _ _⟩
 case round=>
  obtain⟨k,fr,lo,hk,hg,rfl,rfl,rfl,rfl,hfr,HI,hbel⟩:=hrel;have HG:=hid hg;have hsz:=hbel.size;clear hg
  by_cases hlt:k<l.length
  ·have t1:decide ((k:Int)<(l.length:Int))=true:=decide_eq_true (by omega);obtain⟨b,off,rfl,hb,hc⟩:=hA (by omega);obtain⟨x,hx⟩:∃x,l[k]? =some x:=⟨_,aN hlt⟩;have HD:=hid (show aU1 l↔x.ok fr lo/\aU0 (x.f+x.n) x.a (l.drop (k+1)) by
    have e:l[k]=x:=by rw[aN hlt] at hx;exact bW hx
    rw[HI.out,List.drop_eq_getElem_cons hlt,e];exact Iff.rfl)
   obtain⟨x0,x1,x2,x3,x4⟩:=hc k x hx;clear hc hx hA HI;obtain⟨xa,xr,xf,xn,xy⟩:=x;have c0:=(hbel.cell (p:=⟨b,off+k*5,none⟩) hb).trans x0;have c1:=(hbel.cell (p:=⟨b,off+k*5+1,none⟩) hb).trans x1;have c2:=(hbel.cell (p:=⟨b,off+k*5+2,none⟩) hb).trans x2;have c3:=(hbel.cell (p:=⟨b,off+k*5+3,none⟩) hb).trans x3;have c4:=(hbel.cell (p:=⟨b,off+k*5+4,none⟩) hb).trans x4;dsimp only at c0 c1 c2 c3 c4;have hbA:=fun o=>hbel.alloc hsz o
   clear x0 x1 x2 x3 x4
   by_cases q1:xf=fr
   rotate_left
   ·obtain rfl:R=false:=by rw[HR.out];exact decide_eq_false (fun h=>q1 (HD.out.1 h).1.1)
    have u1:(xf != fr)=true:=bne_iff_ne.2 q1;go_wp2_with fail;go_ret;exact⟨rfl,hbA _⟩
   obtain rfl:=q1
   by_cases q2:xn<1
   ·obtain rfl:R=false:=by rw[HR.out];exact decide_eq_false (fun h=>absurd (HD.out.1 h).1.2.1 (by show ¬1<=xn;omega))
    have u1:decide (xn<1)=true:=decide_eq_true q2;go_wp2_with fail;go_ret;exact⟨rfl,hbA _⟩
   have u2:decide (xn<1)=false:=decide_eq_false q2
   by_cases q3:18720<xn
   ·obtain rfl:R=false:=by rw[HR.out];exact decide_eq_false (fun h=>absurd (HD.out.1 h).1.2.2.1 (by show ¬xn<=18720;omega))
    have u1:decide (xn>18720)=true:=decide_eq_true q3;have u1':decide (18720<xn)=true:=decide_eq_true q3;go_wp2_with fail;go_ret;exact⟨rfl,hbA _⟩
   have u3:decide (xn>18720)=false:=decide_eq_false q3;have u3':decide (18720<xn)=false:=decide_eq_false q3
   by_cases q4:xr<40
   ·obtain rfl:R=false:=by rw[HR.out];exact decide_eq_false (fun h=>absurd (HD.out.1 h).1.2.2.2.1 (by show ¬40<=xr;omega))
    have u1:decide (xr<40)=true:=decide_eq_true q4;go_wp2_with fail;go_ret;exact⟨rfl,hbA _⟩
   have u4:decide (xr<40)=false:=decide_eq_false q4
   by_cases q5:360<xr
   ·obtain rfl:R=false:=by rw[HR.out];exact decide_eq_false (fun h=>absurd (HD.out.1 h).1.2.2.2.2.1 (by show ¬xr<=360;omega))
    have u1:decide (xr>360)=true:=decide_eq_true q5;have u1':decide (360<xr)=true:=decide_eq_true q5;go_wp2_with fail;go_ret;exact⟨rfl,hbA _⟩
   have u5:decide (xr>360)=false:=decide_eq_false q5;have u5':decide (360<xr)=false:=decide_eq_false q5;obtain⟨Z,hZ⟩:∃Z,Z=xr.tmod 40:=⟨_,rfl⟩;have hZ2:Z=xr%40:=by rw[hZ];exact Int.tmod_eq_emod_of_nonneg (by omega)
   have mZ:aI.wrap Z=Z:=by rw[aM];omega
   have hZ':=hZ.symm;have HZ:=hid hZ2;clear hZ hZ2
   by_cases q6:Z=0
   rotate_left
   ·obtain rfl:R=false:=by rw[HR.out];exact decide_eq_false (fun h=>q6 (by rw[HZ.out];exact(HD.out.1 h).1.2.2.2.2.2.1))
    have u1:(Z != 0)=true:=bne_iff_ne.2 q6;go_wp2_with fail;go_ret;exact⟨rfl,hbA _⟩
   subst q6
   by_cases q7:xa<=lo
   ·obtain rfl:R=false:=by rw[HR.out];exact decide_eq_false (fun h=>absurd (HD.out.1 h).1.2.2.2.2.2.2 (by show ¬lo<xa;omega))
    have u1:decide (xa<=lo)=true:=decide_eq_true q7;go_wp2_with fail;go_ret;exact⟨rfl,hbA _⟩
   have u7:decide (xa<=lo)=false:=decide_eq_false q7;have HD2:=hid (show aU1 l↔aU0 (xf+xn) xa (l.drop (k+1)) from⟨fun h=>(HD.out.1 h).2,fun h=>HD.out.2 ⟨⟨rfl,by show 1<=xn;omega,by show xn<=18720;omega,by show 40<=xr;omega,by show xr<=360;omega,by show xr%40=0;exact HZ.out.symm,by show lo<xa;omega⟩,h⟩⟩);obtain⟨F,hF⟩:∃F,F=xf+xn:=⟨_,rfl⟩;have mF:aI.wrap (xf+xn)=F:=by rw[<-hF,aM];omega
   have hFb:0<=F/\F<=18720*((k:Int)+1):=by omega
   have hF':=hF.symm;rw[<-hF] at HD2;clear hF HZ HD;go_wp2_with fail
   go_quiet (fail)
   go_wp2_with fail;have hg:=HG.out
   go_roundg (l.length-(k+1))
   case measure=>omega
   case rel=>exact⟨k+1,F,xa,by omega,rfl,by go_num,rfl,rfl,rfl,⟨hFb.1,by push_cast;exact hFb.2⟩,HD2,below_drewN (hbA _) _⟩
  ·have t1:decide ((k:Int)<(l.length:Int))=false:=decide_eq_false (by omega);obtain rfl:R=true:=by
    rw[HR.out];refine decide_eq_true (HI.out.2 ?_);rw[List.drop_of_length_le (by omega)]
    trivial
   go_wp2_with fail;rw[Exit.noGoto_ret];go_ret;exact⟨rfl,hbel⟩
theorem TN (t:Nat) (w:World) (ht1:2<=t) (ht2:t<=6):
  Calls Tryz.prog 76 #[.int .i64 (t:Int)] w fun e w'=>e=.returned (.string (mkS (cC t)))/\w'=w:=by
 obtain rfl|rfl|rfl|rfl|rfl:t=2\/t=3\/t=4\/t=5\/t=6:=by omega
 all_goals
  go_enter Tryz.func76,Tryz.ntmps76;go_wp2_with fail;go_ret;exact⟨by kernel_rfl,rfl⟩
theorem yS (c:Nat) (u:List Bool):(bB (c+1) u).flatten=(bB c u).flatten++u:=by
 rw[AI,AM];simp
theorem yT (c:Nat) (x y:Bool):((bB c [x,y]).flatten).length=2*c:=by
 induction c with
 |zero=>rfl
 |succ c ih=>rw[yS,aL,ih];simp;omega
theorem aIm {l:List Int} {i:Nat} (h:i<l.length):(l.take i).getLastD (l.getD 0 0)=l.getD (i-1) 0:=by
 cases i with
 |zero=>simp
 |succ i=>
  have hx:l[i]? =some l[i]:=aN (by omega);have e:l.take (i+1)=l.take i++[l[i]]:=by rw[cQ,hx];rfl
  rw[e,Nat.add_sub_cancel,aV,aV,hx,List.getLastD_eq_getLast?,List.getLast?_concat];rfl
theorem TP {l:List Int} {i:Nat} {x:Int} (h:l[i]? =some x):eI (l.getD 0 0) (l.take (i+1))=eI (l.getD 0 0) (l.take i)++jU (l.getD (i-1) 0) x:=by
 have hi:=(eU.1 h).1;rw[cQ,h];show eI _ (_++[x])=_;rw[CY,aIm hi]
theorem aIn (w:World) (x:Int):RdI (w.alloc (.cells #[.int .i64 x] 3)) (.slice (some ⟨w.heap.size,0,none⟩) 1 1) [x]:=xY w 3 [.int .i64 x] 1 rfl (by decide)
theorem TQ (w:World) (x y:Int):RdI (w.alloc (.cells #[.int .i64 x,.int .i64 y] 3)) (.slice (some ⟨w.heap.size,0,none⟩) 2 2) [x,y]:=xY w 3 [.int .i64 x,.int .i64 y] 2 rfl (by decide)
theorem TR (v:Value) (l:List Int) (w:World) (hr:RdI w v l) (hok:fY l):
  Calls Tryz.prog 58 #[v] w fun e w'=>e=.returned (.tuple #[eL (dW l),.int .i64 0])/\Below w.heap.size w w':=by
 obtain⟨hl1,hl2,hall⟩:=hok;have HB:=hid hall;have HDL:=hid (fun k=>CZ (l.take k) (l.getD 0 0) (by
  rw[aV,aN (show 0<l.length by omega)];exact(hall _ (gT _)).1) (by
  rw[aV,aN (show 0<l.length by omega)];exact(hall _ (gT _)).2) (fun x hx=>hall x (nO hx)))
 have hgD:∀i,i<l.length->1<=l.getD i 0/\l.getD i 0<=20/\l[i]? =some (l.getD i 0):=fun i hi=>by
  rw[aV,aN hi];exact⟨(hall _ (gT hi)).1,(hall _ (gT hi)).2,rfl⟩
 have HGD:=hid hgD;clear hall;have t1:decide ((l.length:Int)<2)=false:=decide_eq_false (by omega);have t2:decide ((l.length:Int)>258)=false:=decide_eq_false (by omega);have t3:decide ((258:Int)<(l.length:Int))=false:=decide_eq_false (by omega);have hA0:=Arr.new w 82 [.string ⟨#[]⟩,.int .i64 0];have hs0:(w.alloc (.cells #[.string ⟨#[]⟩,.int .i64 0] 82)).heap.size=w.heap.size+1:=by simp
 have hb0:Below w.heap.size w (w.alloc (.cells #[.string ⟨#[]⟩,.int .i64 0] 82)):=bD (aB _ _) _;change Arr (w.alloc (.cells #[.string ⟨#[]⟩,.int .i64 0] 82)) _ _ _ at hA0;have hr1:=hr.below hb0;obtain⟨a,ca,rfl,hca,hma,hA⟩:=hr1.open;unfold maxLen at hma;clear hr hr1 hgD;obtain⟨b1,o1,rfl,hb1,hc1⟩:=hA (by omega);clear hA;go_enter Tryz.func58,Tryz.ntmps58;go_wp2_with fail;generalize w.alloc (.cells #[.string ⟨#[]⟩,.int .i64 0] 82)=w0 at*
 go_loopg [4] l.length (fun g s4 wr=>∃k:Nat,k<=l.length/\g=l.length-k/\s4=.int .i64 (k:Int)/\wr=w0)
 case atStart=>exact⟨0,aU _,rfl,rfl,rfl⟩
 case round=>
  obtain⟨k,hk,hg,rfl,rfl⟩:=hrel;have HG:=hid hg;clear hg
  by_cases hlt:k<l.length
  ·have u1:decide ((k:Int)<(l.length:Int))=true:=decide_eq_true (by omega);obtain⟨x1,x2,hx⟩:=HGD.out k hlt;have c1:=hc1 k _ hx;obtain⟨x,hxe⟩:∃x,x=l.getD k 0:=⟨_,rfl⟩;rw[<-hxe] at x1 x2 c1;have v1:decide (x<1)=false:=decide_eq_false (by omega);have v2:decide (x>20)=false:=decide_eq_false (by omega);have v3:decide (20<x)=false:=decide_eq_false (by omega);clear hxe hx hc1;go_wp2_with fail;have hg:=HG.out
   go_roundg (l.length-(k+1))
   case measure=>omega
   case rel=>exact⟨k+1,by omega,rfl,by go_num,rfl⟩
  ·have u1:decide ((k:Int)<(l.length:Int))=false:=decide_eq_false (by omega);obtain⟨x1,x2,hx⟩:=HGD.out 0 (by omega);have c0:=hc1 0 _ hx;rw[pH] at c0;obtain⟨y,hy⟩:∃y:Nat,l.getD 0 0=(y:Int):=⟨(l.getD 0 0).toNat,by omega⟩;have HY:=hid hy;rw[hy] at c0 x1 x2;have y1:y<18446744073709551616:=by omega
   have m1:IntKind.u64.wrap (y:Int)=(y:Int):=by rw[IntKind.wrap_u64];omega
   have m2:(y:Int)%18446744073709551616=(y:Int):=by omega
   have z1:0<l.length:=by omega
   have z2:(0:Int)<(l.length:Int):=by omega
   clear hy hx hk;go_wp2_with fail;refine(uF y 5 _ y1 (by decide)).mono ?_;rintro e w1 ⟨u5,rfl,ho5,hb5⟩;have hs5:=hb5.size;have hA1:=hA0.below hb5 (by omega);have hB1:=hb0.trans (hb5.mono (by omega));have hc2:∀j x,l[j]? =some x->w1.cell? ⟨b1,o1+j,none⟩=some (.int .i64 x):=fun j x hj=>((lP hb5).1 b1 (o1+j) hb1).trans (hc1 j x hj)
   have HC2:=hid hc2;clear hc1 hc2 c0 hA0 hb0;rw[hs0] at ho5 hb1 hs5;go_wp2_with fail
   go_loopg [5,6,7,8,9] l.length (fun g s5 s6 _s7 _s8 _s9 wx=>∃i:Nat,i<=l.length/\g=l.length-i/\s6=.int .i64 (i:Int)/\OwI wx (w.heap.size+1) s5 (bI (aY y 5++eI (l.getD 0 0) (l.take i)))/\Below (w.heap.size+1) w1 wx)
   case atStart=>exact⟨0,aU _,rfl,rfl,by simpa [eI] using ho5,aB _ _⟩
   case round=>
    obtain⟨i,hi,hg,rfl,ho,hbel⟩:=hrel;have HG2:=hid hg;clear hg ho5 HG;have hsz:=hbel.size;have hdl:=HDL.out i;rw[aX,gU hi] at hdl;obtain⟨D,hD⟩:∃D,D=aY y 5++eI (l.getD 0 0) (l.take i):=⟨_,rfl⟩;have hDl:D.length<=5+39*i:=by rw[hD,aL,cY];omega
    rw[<-hD] at ho;have HD:=hid hD;clear hD hdl
    by_cases hlt2:i<l.length
    ·have u2:decide ((i:Int)<(l.length:Int))=true:=decide_eq_true (by omega);obtain⟨x1',x2',hx⟩:=HGD.out i hlt2;obtain⟨p1,p2,hp⟩:=HGD.out (i-1) (by omega);have c1:=(hbel.cell (p:=⟨b1,o1+i,none⟩) hb1).trans (HC2.out i _ hx);obtain⟨M,hM⟩:∃M:Nat,M=i-1:=⟨_,rfl⟩;have c3:=(hbel.cell (p:=⟨b1,o1+(i-1),none⟩) hb1).trans (HC2.out (i-1) _ hp);have hdt:=TP hx;obtain⟨x,hxe⟩:∃x,x=l.getD i 0:=⟨_,rfl⟩;obtain⟨p,hpe⟩:∃p,p=l.getD (i-1) 0:=⟨_,rfl⟩;rw[<-hxe] at x1' x2' c1 hdt;rw[<-hpe] at p1 p2 c3 hdt;rw[<-hM] at c3
     have HDT:=hid (show aY y 5++eI (l.getD 0 0) (l.take (i+1))=D++((bB (x-p).toNat [true,false]).flatten++(bB (p-x).toNat [true,true]).flatten++[false]) by rw[hdt,HD.out,cF];rfl);obtain⟨A,hAe⟩:∃A,A=(x-p).toNat:=⟨_,rfl⟩;obtain⟨B,hBe⟩:∃B,B=(p-x).toNat:=⟨_,rfl⟩;rw[<-hAe,<-hBe] at HDT;have HA:=hid hAe;have HBE:=hid hBe;have hA40:A<=20:=by omega
     have hB40:B<=20:=by omega
     have m3:max (aI.wrap ((i:Int)-1)) 0=(M:Int):=by rw[aM];omega
     have m4:max ((i:Int)-1) 0=(M:Int):=by omega
     have m5:aI.wrap ((i:Int)-1)=(i:Int)-1:=by rw[aM];omega
     have q1:(M:Int)<(l.length:Int):=by omega
     have q2:M<l.length:=by omega
     rw[<-hxe] at hx;have HX:=hid hx;clear hM hxe hpe hdt hx hp hAe hBe;go_wp2_with fail
     go_loopg [5,8] A (fun g s5 s8 wy=>∃c:Nat,c<=A/\g=A-c/\s8=.int .i64 (p+(c:Int))/\OwI wy (w.heap.size+1) s5 (bI (D++(bB c [true,false]).flatten))/\Below (w.heap.size+1) w1 wy)
     case atStart=>exact⟨0,aU _,rfl,by rw[OF,Int.add_zero],by simpa using ho,hbel⟩
     case round=>
      clear ho c1 c3;obtain⟨c,hcc,hg,rfl,ho,hbel1⟩:=hrel;have HG3:=hid hg;clear hg;have hsz1:=hbel1.size;have c1:=(hbel1.cell (p:=⟨b1,o1+i,none⟩) hb1).trans (HC2.out i _ HX.out);have hol:(bI (D++(bB c [true,false]).flatten)).length<=20000:=by rw[cN,aL,yT];omega
      by_cases hcx:c<A
      ·have u3:decide (p+(c:Int)<x)=true:=decide_eq_true (by have:=HA.out;omega);have m6:aI.wrap (p+(c:Int)+1)=p+(c:Int)+1:=by rw[aM];omega
       go_wp2_with (at_builtin;refine kG rfl _ _ rfl (w.heap.size+1) _ _ [1,0] rfl (OwI.alloc ho _) _ rfl (TQ wr 1 0) (by decide) ?_ ?_ ?_;(simp only[cR,cX];omega);(simp;omega);intro v3 w3 r1 r2 r3 r4);have hg3:=HG3.out
       go_roundg (A-(c+1))
       case measure=>omega
       case rel=>exact⟨c+1,by omega,rfl,congrArg _ (by push_cast;omega),by rw[yS,<-cF,gB];exact r1,(hbel1.alloc (by omega) _).trans r2⟩
      ·have u3:decide (p+(c:Int)<x)=false:=decide_eq_false (by have:=HA.out;omega);obtain rfl:A=c:=by omega
       obtain⟨E,hE⟩:∃E,E=D++(bB A [true,false]).flatten:=⟨_,rfl⟩;have hEl:E.length<=5+39*i+40:=by rw[hE,aL,yT];omega
       rw[<-hE] at ho;have HE:=hid hE;clear hE hol;go_wp2_with fail
       go_loopg [5,9] B (fun g s5 s9 wy=>∃c:Nat,c<=B/\g=B-c/\s9=.int .i64 (p-(c:Int))/\OwI wy (w.heap.size+1) s5 (bI (E++(bB c [true,true]).flatten))/\Below (w.heap.size+1) w1 wy)
       case atStart=>exact⟨0,aU _,rfl,by rw[OF,Int.sub_zero],by simpa using ho,hbel1⟩
       case round=>
        clear ho c1;obtain⟨c,hcc,hg,rfl,ho,hbel2⟩:=hrel;have HG4:=hid hg;clear hg;have hsz2:=hbel2.size;have c1:=(hbel2.cell (p:=⟨b1,o1+i,none⟩) hb1).trans (HC2.out i _ HX.out);have hol:(bI (E++(bB c [true,true]).flatten)).length<=20000:=by rw[cN,aL,yT];omega
        by_cases hcx:c<B
        ·have v3:decide (p-(c:Int)>x)=true:=decide_eq_true (by have:=HBE.out;omega);have v4:decide (x<p-(c:Int))=true:=decide_eq_true (by have:=HBE.out;omega);have m6:aI.wrap (p-(c:Int)-1)=p-(c:Int)-1:=by rw[aM];omega
         go_wp2_with (at_builtin;refine kG rfl _ _ rfl (w.heap.size+1) _ _ [1,1] rfl (OwI.alloc ho _) _ rfl (TQ wr 1 1) (by decide) ?_ ?_ ?_;(simp only[cR,cX];omega);(simp;omega);intro v3 w3 r1 r2 r3 r4);have hg4:=HG4.out
         go_roundg (B-(c+1))
         case measure=>omega
         case rel=>exact⟨c+1,by omega,rfl,congrArg _ (by push_cast;omega),by rw[yS,<-cF,gB];exact r1,(hbel2.alloc (by omega) _).trans r2⟩
        ·have v3:decide (p-(c:Int)>x)=false:=decide_eq_false (by have:=HBE.out;omega);have v4:decide (x<p-(c:Int))=false:=decide_eq_false (by have:=HBE.out;omega);obtain rfl:B=c:=by omega
         have HT:=hid (show bI (E++(bB B [true,true]).flatten)++[0]=bI (aY y 5++eI (l.getD 0 0) (l.take (i+1))) by
          rw[HDT.out,HE.out,gB,gB,gB,gB,gB];simp only[cF];rfl)
         go_wp2_with (at_builtin;(refine kG rfl _ _ rfl (w.heap.size+1) _ _ [0] rfl (OwI.alloc ho _) _ rfl (aIn wr 0) (by decide) ?_ ?_ ?_;(simp only[cR,cX];omega);(simp;omega);intro v3 w3 r1 r2 r3 r4));have hg2:=HG2.out
         go_roundg (l.length-(i+1))
         case measure=>omega
         case rel=>exact⟨i+1,by omega,rfl,by go_num,by rw[<-HT.out];exact r1,(hbel2.alloc (by omega) _).trans r2⟩
    ·have u2:decide ((i:Int)<(l.length:Int))=false:=decide_eq_false (by omega);have hie:i=l.length:=by omega
     subst hie;have HF:=hid (show D=dW l by
      rw[HD.out,kE];unfold dW;rw[HY.out,eG])
     go_wp2_with fail;refine(uG _ D _ (OwI.rd ho) (by omega)).mono ?_;rintro e w6 ⟨rfl,hb6⟩;have hA6:=(hA1.below hbel (by omega)).below hb6 (by omega);have hB6:Below w.heap.size w w6:=(hB1.trans (hbel.mono (by omega))).trans (hb6.mono (by omega));have d0:=hA6.cell (i:=0) rfl;have d1:=hA6.cell (i:=1) rfl;have f0:=hA6.free 0;have f1:=hA6.free 1;clear hA1 hb6 ho hbel hB1;go_wp2_with fail
     have z0:Arr ((w6.setCell ⟨w.heap.size,0,none⟩ (.string (mkS (aD D)))).setCell ⟨w.heap.size,1,none⟩ (.int .i64 (D.length:Int))) w.heap.size 82 [.string (mkS (aD D)),.int .i64 (D.length:Int)]:=(hA6.set 0 _).set 1 _;refine gJ (qH rfl _ _ w.heap.size _ _ (0,0) _ rfl z0 Tryz.underlying82 rfl mF) rfl ?_;exact⟨by rw[<-HF.out];rfl,(hB6.setCell (p:=⟨w.heap.size,0,none⟩) (aA _) _).setCell (p:=⟨w.heap.size,1,none⟩) (aA _) _⟩
def dV (c:Int):UInt8:=UInt8.ofNat c.toNat
theorem KM (l:List Int):dO l=cM (cC 2) (l.map dV):=rfl
theorem DN {l:List Int} (h:∀x∈l,x=0\/x=1):∀b∈l.map dV,b∈cC 2:=fun b hb=>by
 obtain⟨x,hx,rfl⟩:=dU.1 hb;rcases h x hx with rfl|rfl<;>decide
theorem uU (l:List Int):(dO l).length=l.length:=by rw[KM,rH,bJ]
theorem yW {l:List Int} (h:∀x∈l,x=0\/x=1):∀x∈dO l,0<=x/\x<2:=fun x hx=>vT _ _ (DN h) x (by rw[KM] at hx;exact hx)
theorem aI2 {l:List Int} {k:Nat} {x:Int} (h:l[k]? =some x):dE (l.take (k+1))=dE (l.take k)++(bB x.toNat true++[false]):=by
 rw[cQ,h];exact KB _ _
theorem wL:∀(l:List Int) (B:Nat),(∀x∈l,0<=x/\x<(B:Int))->(dE l).length<=B*l.length
 |[],B,_=>by simp[dE]
 |x::l,B,h=>by
  have ih:=wL l B (fun y hy=>h y (jD _ hy));have hx:=h x (lY ..);have e:dE (x::l)=(bB x.toNat true++[false])++dE l:=rfl;rw[e,aL,aL,vO];simp only[cR,cX,Nat.mul_add,Nat.mul_one];omega
theorem aI3 (v:Value) (l:List Int) (w:World) (hr:RdI w v l) (hl:l.length<=20000) (hx:∀x∈l,x=0\/x=1):
  Calls Tryz.prog 57 #[v,.int .i64 2] w fun e w'=>e=.returned (.tuple #[eL (dE (dO l)),.int .i64 0])/\Below w.heap.size w w':=by
 have HX:=hid hx;have HPB:=hid (yW hx);have HPM:=hid (DN hx);have HPL:=hid (uU l);clear hx;have hA0:=Arr.new w 82 [.string ⟨#[]⟩,.int .i64 0];have hs0:(w.alloc (.cells #[.string ⟨#[]⟩,.int .i64 0] 82)).heap.size=w.heap.size+1:=by simp
 have hb0:Below w.heap.size w (w.alloc (.cells #[.string ⟨#[]⟩,.int .i64 0] 82)):=bD (aB _ _) _;change Arr (w.alloc (.cells #[.string ⟨#[]⟩,.int .i64 0] 82)) _ _ _ at hA0;have hr1:=hr.below hb0;obtain⟨a,ca,rfl,hca,hma,hA⟩:=hr1.open;unfold maxLen at hma;clear hr hr1;go_enter Tryz.func57,Tryz.ntmps57;go_wp2_with fail;generalize w.alloc (.cells #[.string ⟨#[]⟩,.int .i64 0] 82)=w0 at*
 go_loopg [6,7] l.length (fun g s6 s7 wr=>∃(k:Nat) (v6:Value),k<=l.length/\g=l.length-k/\v6=s6/\s7=.int .i64 (k:Int)/\OwB wr (w.heap.size+1) v6 ((l.take k).map dV)/\Below (w.heap.size+1) w0 wr)
 case atStart=>exact⟨0,_,aU _,rfl,rfl,rfl,Ow.nil _ _ _,aB _ _⟩
 case round=>
  obtain⟨k,v6,hk,hg,rfl,rfl,ho,hbel⟩:=hrel;have HG:=hid hg;clear hg;have hsz:=hbel.size;have hlen:((l.take k).map dV).length=k:=by rw[bJ,aX];omega
  by_cases hlt:k<l.length
  ·have u1:decide ((k:Int)<(l.length:Int))=true:=decide_eq_true (by omega);obtain⟨b1,o1,rfl,hb1,hc1⟩:=hA (by omega);obtain⟨x,hx⟩:=dH hlt;have c1:=(hbel.cell (p:=⟨b1,o1+k,none⟩) (by show b1<w.heap.size+1;omega)).trans (hc1 k x hx);have hxx:=HX.out x (cH hx);have HT:=hid (show(l.take (k+1)).map dV=(l.take k).map dV++[dV x] by rw[cQ,hx,List.map_append];rfl);have e1:((dV x).toNat:Int)=x:=by rcases hxx with rfl|rfl<;>rfl
   have v1:decide (x<0)=false:=decide_eq_false (by omega);have v2:decide (x>=2)=false:=decide_eq_false (by omega);have v3:decide (2<=x)=false:=decide_eq_false (by omega);have m1:IntKind.u8.wrap x=x:=by rw[IntKind.wrap_u8];omega
   have m2:x%256=x:=by omega
   have e2:=hid e1;clear hc1 hA hx hxx e1;go_wp2_with (at_builtin;refine IX rfl _ _ rfl (w.heap.size+1) _ _ rfl (Ow.alloc ho _) wr.heap.size (dV x) rfl ?_ ?_ ?_ ?_;(rw[e2.out];exact bS _ _ _);(omega);(simp;omega);intro v' w3 r1 r2 r3);have hg:=HG.out
   go_roundg (l.length-(k+1))
   case measure=>omega
   case rel=>exact⟨k+1,_,by omega,rfl,rfl,by go_num,by rw[HT.out];exact r1,(hbel.alloc (by omega) _).trans r2⟩
  ·have u1:decide ((k:Int)<(l.length:Int))=false:=decide_eq_false (by omega);have hke:k=l.length:=by omega
   subst hke;rw[cS (aA _)] at ho hlen;obtain⟨D,hD⟩:∃D,D=l.map dV:=⟨_,rfl⟩;rw[<-hD] at ho hlen HPM;have HD:=hid hD;clear hD hA;have hcv:(convert 47 9 v6).run Tryz.prog wr=.ok (.string (mkS D)) wr:=lQ ho.rd;have hcv2:(convert 47 9 v6).run Tryz.prog wr.drew=.ok (.string (mkS D)) wr.drew:=lQ (w:=wr.drew) (OwB.rd (w:=wr.drew) ho);have hal:∀W,Calls Tryz.prog 76 #[.int .i64 2] W fun e w'=>e=.returned (.string (mkS (cC 2)))/\w'=W:=fun W=>TN 2 W (by decide) (by decide)
   have hfr:=fun W=>TL (mkS (cC 2)) (mkS D) W (by simp[cC]) (by rw[cP];omega) (by decide) HPM.out
   have HEQ:=hid (show cM (mkS (cC 2)).data.toList (mkS D).data.toList=dO l by rw[fW,fW,HD.out];rfl);rw[HEQ.out] at hfr;go_upto_region 10 with fail
   go_cut [8,9] (fun c8 _c9 wx=>∃v8,v8=c8/\OwI wx wr.heap.size v8 (dO l)/\Below wr.heap.size wr wx)
   case first=>
    go_region_with (first|(go_at_call 76;refine(hal _).mono ?_;rintro e w3 ⟨rfl,rfl⟩)|(go_at_call 69;refine(hfr _).mono ?_;rintro e w3 ⟨v8,rfl,ho8,hb8⟩))
    all_goals
     go_wp2_with fail;go_meet;exact⟨v8,rfl,ho8,(aB wr.heap.size wr).drew.trans hb8⟩
   case rest=>
    obtain⟨v8,rfl,ho8,hb8⟩:=hcut;have hA1:=(hA0.below hbel (by omega)).below hb8 (by omega);have hB1:Below w.heap.size w wc:=(hb0.trans (hbel.mono (by omega))).trans (hb8.mono (by omega));have hszc:=hb8.size;obtain⟨P,hP⟩:∃P,P=dO l:=⟨_,rfl⟩;rw[<-hP] at HPB HPL ho8;have HP:=hid hP;have hPl:P.length<=20000:=by have:=HPL.out;omega
    obtain⟨a8,c8,rfl,hn8,hm8,hA8⟩:=(OwI.rd ho8).open;unfold maxLen at hm8;obtain⟨Bc,hBc⟩:∃Bc,Bc=wc.heap.size:=⟨_,rfl⟩;rw[<-hBc] at hszc hA8;clear hP hbel hb8 ho hA0 hb0 hcv hcv2 hal hfr ho8;go_wp2_with fail
    go_loopg [10,11,12] P.length (fun g s10 s11 _s12 wx=>∃i:Nat,i<=P.length/\g=P.length-i/\s11=.int .i64 (i:Int)/\OwI wx Bc s10 (bI (dE (P.take i)))/\Below Bc wc wx/\Bc<=wx.heap.size)
    case atStart=>exact⟨0,aU _,rfl,rfl,by simp only[List.take_zero];exact OwI.nil _ _,aB _ _,by omega⟩
    case round=>
     obtain⟨i,hi,hg,rfl,ho,hbx,hszx⟩:=hrel;have HG2:=hid hg;clear hg HG;have hDl:=wL (P.take i) 2 (fun x hx=>HPB.out x (nO hx));rw[aX,gU hi] at hDl;obtain⟨D2,hD2⟩:∃D2,D2=dE (P.take i):=⟨_,rfl⟩;rw[<-hD2] at ho hDl;have HD2:=hid hD2;clear hD2
     by_cases hlt2:i<P.length
     ·have u2:decide ((i:Int)<(P.length:Int))=true:=decide_eq_true (by omega);obtain⟨b8,o8,rfl,hb8,hc8⟩:=hA8 (by omega);obtain⟨x,hx⟩:=dH hlt2;have c1:=(hbx.cell (p:=⟨b8,o8+i,none⟩) hb8).trans (hc8 i x hx);have hxb:=HPB.out x (cH hx);have HT:=hid (show dE (P.take (i+1))=D2++(bB x.toNat true++[false]) by rw[HD2.out];exact aI2 hx);obtain⟨X,rfl⟩:∃X:Nat,x=(X:Int):=⟨x.toNat,by omega⟩;rw[eG] at HT;have hX2:X<2:=by omega
      have HC8:=hid (fun wz (h:Below Bc wc wz)=>(h.cell (p:=⟨b8,o8+i,none⟩) hb8).trans (hc8 i _ hx));clear hc8 hA8 hx hxb;go_wp2_with fail
      go_loopg [10,12] X (fun g s10 s12 wy=>∃c:Nat,c<=X/\g=X-c/\s12=.int .i64 (c:Int)/\OwI wy Bc s10 (bI (D2++bB c true))/\Below Bc wc wy/\Bc<=wy.heap.size)
      case atStart=>exact⟨0,aU _,rfl,rfl,by simpa using ho,hbx,hszx⟩
      case round=>
       clear ho c1 hbx hszx;obtain⟨c,hcc,hg,rfl,ho,hby,hszy⟩:=hrel;have HG3:=hid hg;clear hg;have c1:=HC8.out _ hby;have hol:(bI (D2++bB c true)).length<=50000:=by rw[cN,aL,vO];omega
       by_cases hcx:c<X
       ·have u3:decide ((c:Int)<(X:Int))=true:=decide_eq_true (by omega);go_wp2_with (at_builtin;refine eN rfl _ _ rfl Bc _ _ rfl (OwI.alloc ho _) _ 1 rfl (bS _ _ _) ?_ ?_ ?_;(omega);(simp;omega);intro v3 w3 r1 r2 r3);have hg3:=HG3.out
        go_roundg (X-(c+1))
        case measure=>omega
        case rel=>
         refine⟨c+1,by omega,rfl,by go_num,?_,(hby.alloc (by omega) _).trans r2,?_⟩
         ·rw[AI,<-cF,gB];exact r1
         ·have:=r2.size;simp only[fV] at this;omega
       ·have u3:decide ((c:Int)<(X:Int))=false:=decide_eq_false (by omega);obtain rfl:c=X:=by omega
        go_wp2_with (at_builtin;refine eN rfl _ _ rfl Bc _ _ rfl (OwI.alloc ho _) _ 0 rfl (bS _ _ _) ?_ ?_ ?_;(omega);(simp;omega);intro v3 w3 r1 r2 r3);have hg2:=HG2.out
        go_roundg (P.length-(i+1))
        case measure=>omega
        case rel=>
         refine⟨i+1,by omega,rfl,by go_num,?_,(hby.alloc (by omega) _).trans r2,?_⟩
         ·rw[HT.out,<-cF,gB];exact r1
         ·have:=r2.size;simp only[fV] at this;omega
     ·have u2:decide ((i:Int)<(P.length:Int))=false:=decide_eq_false (by omega);have hie:i=P.length:=by omega
      subst hie;have HF:=hid (show D2=dE (dO l) by rw[HD2.out,kE,HP.out]);have hA2:=hA1.below hbx (by omega);have hB2:Below w.heap.size w wr:=hB1.trans (hbx.mono (by omega));clear hA1 hB1 hA8;go_wp2_with fail;refine(uG _ D2 _ (OwI.rd ho) (by omega)).mono ?_;rintro e w6 ⟨rfl,hb6⟩;have hA6:=hA2.below hb6 (by omega);have hB6:Below w.heap.size w w6:=hB2.trans (hb6.mono (by omega));have d0:=hA6.cell (i:=0) rfl;have d1:=hA6.cell (i:=1) rfl;have f0:=hA6.free 0;have f1:=hA6.free 1;clear hb6 ho hA2 hB2;go_wp2_with fail
      have z0:Arr ((w6.setCell ⟨w.heap.size,0,none⟩ (.string (mkS (aD D2)))).setCell ⟨w.heap.size,1,none⟩ (.int .i64 (D2.length:Int))) w.heap.size 82 [.string (mkS (aD D2)),.int .i64 (D2.length:Int)]:=(hA6.set 0 _).set 1 _;refine gJ (qH rfl _ _ w.heap.size _ _ (0,0) _ rfl z0 Tryz.underlying82 rfl mF) rfl ?_;exact⟨by rw[<-HF.out];rfl,(hB6.setCell (p:=⟨w.heap.size,0,none⟩) (aA _) _).setCell (p:=⟨w.heap.size,1,none⟩) (aA _) _⟩
theorem UB {s:List UInt8} {t a:Int} {k:Nat} (h:(cO s t a k).2.2=0):cO s t a (k+1)=
  if(gV s t (cO s t a k).2.1 0).2.2≠0 then((cO s t a k).1,(cO s t a k).2.1,(gV s t (cO s t a k).2.1 0).2.2)
  else((cO s t a k).1++[(gV s t (cO s t a k).2.1 0).1],(gV s t (cO s t a k).2.1 0).2.1,0):=by
 show(if(cO s t a k).2.2≠0 then cO s t a k else _)=_;rw[if_neg (fun q=>q h)]
theorem UC {s:List UInt8} {t a:Int} {k:Nat} (h:(cO s t a k).2.2≠0):∀j,(cO s t a (k+j)).2.2=(cO s t a k).2.2
 |0=>rfl
 |j+1=>by
  have ih:=UC h j;show(if(cO s t a (k+j)).2.2≠0 then cO s t a (k+j) else _).2.2=_;rw[if_pos (by rw[ih];exact h),ih]
theorem DO (s:List UInt8) (a n t:Nat) (ht1:2<=t) (ht2:t<=6) (hn:n<=1048576):dD s (a:Int) (n:Int) (t:Int)=
  if(cO s (t:Int) (a:Int) n).2.2≠0 then([],0,(cO s (t:Int) (a:Int) n).2.2) else((unL (cC t) (cO s (t:Int) (a:Int) n).1).map (fun b=>(b.toNat:Int)),(cO s (t:Int) (a:Int) n).2.1,0):=by
 unfold dD;rw[if_neg (by omega)];simp only[eG]
theorem UD {s:List UInt8} {a n t k:Nat} (ht1:2<=t) (ht2:t<=6) (hn:n<=1048576) (hk:k<=n) (h:(cO s (t:Int) (a:Int) k).2.2≠0):dD s (a:Int) (n:Int) (t:Int)=([],0,(cO s (t:Int) (a:Int) k).2.2):=by
 have:=UC h (n-k);rw[show k+(n-k)=n by omega] at this;rw[DO s a n t ht1 ht2 hn,this,if_pos h]
def yX (w w':World) (s:List UInt8) (a n t:Nat) (e:Ending):Prop:=
 ∃v,e=.returned (.tuple #[v,.int .i64 (dD s (a:Int) (n:Int) (t:Int)).2.1,.int .i64 (dD s (a:Int) (n:Int) (t:Int)).2.2])/\OwI w' w.heap.size v (dD s (a:Int) (n:Int) (t:Int)).1/\Below w.heap.size w w'
theorem KN {w w':World} {s:List UInt8} {a n t:Nat} {E:Int} (h:dD s (a:Int) (n:Int) (t:Int)=([],0,E)) (hb:Below w.heap.size w w'):yX w w' s a n t (.returned (.tuple #[.slice none 0 0,.int .i64 0,.int .i64 E])):=by
 refine⟨.slice none 0 0,?_,?_,hb⟩
 ·rw[h]
 ·rw[h];exact OwI.nil _ _
def iX (X:List Int) (n:Int):List Value:=X.map (bO .i64)++[.int .i64 n]
def EN (X:List Int) (i:Nat):List Int:=(X.drop i).take 1++X.take i++X.drop (i+1)
def wZ:List Value->Nat->List Value->List Value
 |l,_,[]=>l
 |l,o,v::r=>wZ (l.set o v) (o+1) r
theorem Arr.setCells {b:Nat} {e:TypeId}:∀(cs:List Value) (o:Nat) (w:World) (l:List Value),Arr w b e l->Arr (w.setCells b o cs) b e (wZ l o cs)
 |[],_,_,_,h=>h
 |v::cs,o,w,l,h=>Arr.setCells cs (o+1) (w.setCell ⟨b,o,none⟩ v) (l.set o v) (h.set o v)
theorem YZ:∀(cs:List Value) (o:Nat) (l:List Value),(wZ l o cs).length=l.length
 |[],_,_=>rfl
 |v::cs,o,l=>by
  show(wZ (l.set o v) (o+1) cs).length=_;rw[YZ cs,List.length_set]
theorem ZA (b:Nat):∀(cs:List Value) (o:Nat) (w:World),w.grownBy (w.setCells b o cs) (some b)
 |[],_,_=>⟨rfl,rfl,rfl,aA _,fun _ _ _=>rfl⟩
 |v::cs,o,w=>dS (eM w b o v) (ZA b cs (o+1) (w.setCell ⟨b,o,none⟩ v))
theorem aOw (X:List Int) (hX:X.length=6) (n:Int) (i:Nat) (hi:i<6):(wZ (iX X n) 1 ((X.take i).map (bO .i64))).set 0 (.int .i64 (X.getD i 0))=iX (EN X i) n:=by
 match X,hX with
 |[x0,x1,x2,x3,x4,x5],_=>
  obtain rfl|rfl|rfl|rfl|rfl|rfl:i=0\/i=1\/i=2\/i=3\/i=4\/i=5:=by omega
  all_goals rfl
theorem EO {X:List Int} {n:Int} {j:Nat} (h:j<X.length):(iX X n)[j]? =some (.int .i64 (X.getD j 0)):=by
 unfold iX;rw[gS (by rw[bJ];exact h),dY,aV,aN h];rfl
theorem aOx:(Tryz.prog.info? 3).map (·.size)=some 1:=by kernel_rfl
theorem aOy (b o j:Nat):(⟨b,o,none⟩:Addr).add j=⟨b,o+j,none⟩:=by unfold iN;split<;>simp_all
theorem ZB (b:Nat) (X:List Int) (n:Int) (i:Nat) (hX:X.length=6) (hi:i<6) (W:World) (hA:Arr W b 232 (iX X n)):
  Calls Tryz.prog 138 #[.pointer (some ⟨b,0,none⟩),.int .i64 (i:Int)] W fun e w'=>
   e=.returned (.int .i64 (X.getD i 0))/\Arr w' b 232 (iX (EN X i) n)/\W.grownBy w' (some b):=by
 have c1:=hA.cell (EO (n:=n) (show i<X.length by omega));have HP:=hid (aOw X hX n i hi);have hA':Arr W.drew b 232 (iX X n):=hA;have hcs:((X.take i).map (bO .i64)).length=i:=by rw[bJ,aX];omega
 have hcp:=run_copy_cells (P:=Tryz.prog) W.drew 57 57 3 3 b 1 5 5 ⟨b,0,none⟩ i 6 ((X.take i).map (bO .i64)) Tryz.underlying57 aOx (by rw[hcs];exact(gU (by omega)).symm)
  (fun j v hv=>by
   rw[aOy,iZ];have hj:=(eU.1 hv).1;rw[hcs] at hj;rw[dY,List.getElem?_take_of_lt hj,aN (show j<X.length by omega)] at hv;rw[hA'.cell (EO (n:=n) (show j<X.length by omega)),aV,aN (show j<X.length by omega)];exact hv)
  (fun j hj=>by
   rw[hcs] at hj;have hl:(iX X n).length=7:=by unfold iX;rw[aL,bJ,hX];rfl
   rw[hA'.cell (aN (show 1+j<(iX X n).length by omega))];rfl)
  (fun j _=>hA'.free (1+j)) (fun v hv=>by obtain⟨y,_,rfl⟩:=dU.1 hv;rfl)
 rw[hcs] at hcp;have t1:(0:Int)<=(i:Int):=by omega
 have t2:(i:Int)<=6:=by omega
 have t3:(i:Int)<6:=by omega
 have hA2:=hA'.setCells ((X.take i).map (bO .i64)) 1;have hg2:W.grownBy (W.drew.setCells b 1 ((X.take i).map (bO .i64))) (some b):=dS (show W.grownBy W.drew (some b) from⟨rfl,rfl,rfl,aA _,fun _ _ _=>rfl⟩) (ZA b _ 1 W.drew);obtain⟨cs,hcse⟩:∃cs,cs=(X.take i).map (bO .i64):=⟨_,rfl⟩;rw[<-hcse] at hcp hA2 hg2 HP;obtain⟨x,hx⟩:∃x,x=X.getD i 0:=⟨_,rfl⟩;rw[<-hx] at c1 HP ⊢;clear hcs hcse hx hA' hA;go_enter Tryz.func138,Tryz.ntmps138;go_wp2_with fail
 go_region
 generalize W.drew.setCells b 1 cs=W2 at*
 obtain⟨v0,hv0⟩:∃v0,(wZ (iX X n) 1 cs)[0]? =some v0:=⟨_,aN (by rw[YZ];unfold iX;rw[aL,bJ,hX];simp)⟩;have d0:=hA2.cell hv0;have f0:=hA2.free 0;clear hv0 hcp c1;go_wp2_with fail;go_ret;refine⟨rfl,?_,dS hg2 (eM _ _ _ _)⟩;have:=hA2.set 0 (.int .i64 x);rw[HP.out] at this;exact this
theorem ZC (t:Nat) (w:World) (h1:2<=t) (h2:t<=6):Calls Tryz.prog 136 #[.int .i64 (t:Int)] w fun e w'=>e=.returned (.bool true)/\w'=w:=by
 have u1:decide ((t:Int)>=2)=true:=decide_eq_true (by omega);have u2:decide (2<=(t:Int))=true:=decide_eq_true (by omega);have u3:decide ((t:Int)<=6)=true:=decide_eq_true (by omega);go_enter Tryz.func136,Tryz.ntmps136;go_wp2_with fail;go_ret;exact⟨rfl,rfl⟩
def ZD:List Int:=[0,1,2,3,4,5]
def ofI (k:Nat):List Int:=(List.range 6).map (fun j=>if j<k then(j:Int) else 0)
theorem aOz (k:Nat) (n:Int) (h:k<6):(iX (ofI k) n).set k (.int .i64 (k:Int))=iX (ofI (k+1)) n:=by
 obtain rfl|rfl|rfl|rfl|rfl|rfl:k=0\/k=1\/k=2\/k=3\/k=4\/k=5:=by omega
 all_goals rfl
theorem aO0 (k:Nat):(ofI k).length=6:=by simp[ofI]
theorem ZE (n:Int) (w:World):Calls Tryz.prog 137 #[.int .i64 n] w fun e w'=>e=.returned (.pointer (some ⟨w.heap.size,0,none⟩))/\Arr w' w.heap.size 232 (iX ZD n)/\Below w.heap.size w w'/\w.heap.size<w'.heap.size:=by
 go_enter Tryz.func137,Tryz.ntmps137;go_wp2_with fail;have hA:=Arr.new w 232 (iX (ofI 0) n);have hb:=bD (aB w.heap.size w) (.cells (iX (ofI 0) n).toArray 232);have hz:w.heap.size<(w.alloc (.cells (iX (ofI 0) n).toArray 232)).heap.size:=by simp
 change Arr (w.alloc (.cells #[.int .i64 0,.int .i64 0,.int .i64 0,.int .i64 0,.int .i64 0,.int .i64 0,.int .i64 n] 232)) _ _ _ at hA;change Below w.heap.size w (w.alloc (.cells #[.int .i64 0,.int .i64 0,.int .i64 0,.int .i64 0,.int .i64 0,.int .i64 0,.int .i64 n] 232)) at hb;change w.heap.size<(w.alloc (.cells #[.int .i64 0,.int .i64 0,.int .i64 0,.int .i64 0,.int .i64 0,.int .i64 0,.int .i64 n] 232)).heap.size at hz;generalize w.alloc (.cells #[.int .i64 0,.int .i64 0,.int .i64 0,.int .i64 0,.int .i64 0,.int .i64 0,.int .i64 n] 232)=w1 at*
 go_loopg [4,8] 6 (fun g _s4 s8 wr=>∃k:Nat,k<=6/\g=6-k/\s8=.int .i64 (k:Int)/\Arr wr w.heap.size 232 (iX (ofI k) n)/\Below w.heap.size w wr/\w.heap.size<wr.heap.size)
 case atStart=>exact⟨0,aU _,rfl,rfl,hA,hb,hz⟩
 case round=>
  clear hA hb hz;obtain⟨k,hk,hg,rfl,hA,hb,hz⟩:=hrel;have HG:=hid hg;clear hg
  by_cases hlt:k<6
  ·have u1:decide ((k:Int)<6)=true:=decide_eq_true (by omega);have u2:(k:Int)<6:=by omega
   have d:=hA.cell (EO (n:=n) (show k<(ofI k).length by rw[aO0];exact hlt));have f:=hA.free k;have hs:=hA.set k (.int .i64 (k:Int));rw[aOz k n hlt] at hs;go_wp2_with fail;have hg:=HG.out
   go_roundg (6-(k+1))
   case measure=>omega
   case rel=>exact⟨k+1,by omega,rfl,by go_num,hs,hb.setCell (p:=⟨w.heap.size,k,none⟩) (aA _) _,by rw[World.size_setCell];exact hz⟩
  ·have u1:decide ((k:Int)<6)=false:=decide_eq_false (by omega);obtain rfl:k=6:=by omega
   go_wp2_with fail;go_ret;exact⟨rfl,hA,hb,hz⟩
theorem KP {l:List Int} {s:List UInt8} {a i:Nat} (h:aO s.length (a:Int) (bG l i)=0):gZ l s a i↔aE s (a:Int) (bG l i)=fO l i:=by
 have h1:=fQ h;unfold gZ aE;rw[if_pos h,eG];exact⟨fun q=>q.2,fun q=>⟨by omega,q⟩⟩
theorem EQ {l:List Int} {k:Nat} {x y:Int} (h:l[k]? =some x) (hy:y∈l.take (k+1)):y∈l.take k\/y=x:=by
 rw[cQ,h] at hy;rcases cU.1 hy with hy|hy
 ·exact .inl hy
 ·simp at hy;exact .inr hy
theorem aPa (v:Value) (l:List Int) (w:World) (hr:RdI w v l) (h1:1<=l.length):
  Calls Tryz.prog 144 #[v] w fun e w'=>∃m,e=.returned (.int .i64 m)/\m∈l/\(∀x∈l,m<=x)/\w'=w:=by
 obtain⟨a,ca,rfl,hca,hma,hA⟩:=hr.open;unfold maxLen at hma;clear hr;obtain⟨b1,o1,rfl,hb1,hc1⟩:=hA (by omega);obtain⟨x0,hx0⟩:=dH h1;have c0:=hc1 0 x0 hx0;rw[pH] at c0;have HX0:=hid hx0;have t0:decide ((l.length:Int)<1)=false:=decide_eq_false (by omega);have t0':(0:Int)<(l.length:Int):=by omega
 have t0'':0<l.length:=by omega
 clear hx0 hA;go_enter Tryz.func144,Tryz.ntmps144;go_wp2_with fail
 go_loopg [3,4] (l.length-1) (fun g s3 s4 wr=>∃(k:Nat) (M:Int),1<=k/\k<=l.length/\g=l.length-k/\s4=.int .i64 (k:Int)/\s3=.int .i64 M/\Hid (M∈l/\∀x∈l.take k,M<=x)/\wr=w)
 case atStart=>exact⟨1,x0,by omega,h1,rfl,rfl,rfl,hid ⟨cH HX0.out,fun y hy=>by
  rcases EQ (k:=0) HX0.out hy with q|q
  ·simp at q
  ·omega⟩,rfl⟩
 case round=>
  obtain⟨k,M,hk1,hk,hg,rfl,rfl,HM,rfl⟩:=hrel;have HG:=hid hg;clear hg
  by_cases hlt:k<l.length
  ·have t1:decide ((k:Int)<(l.length:Int))=true:=decide_eq_true (by omega);obtain⟨x,hx⟩:=dH hlt;have c1:=hc1 k x hx;have HX:=hid hx;clear hc1 hx;go_wp2_with fail;have hg:=HG.out
   go_roundg (l.length-(k+1))
   case measure=>omega
   case rel=>exact⟨k+1,min M x,by omega,by omega,rfl,by go_num,rfl,hid ⟨by
    rcases Int.min_def M x▸(by split<;>simp:(if M<=x then M else x)=M\/(if M<=x then M else x)=x) with q|q
    ·rw[q];exact HM.out.1
    ·rw[q];exact cH HX.out,fun y hy=>by
    rcases EQ HX.out hy with q|q
    ·have:=HM.out.2 y q;omega
    ·omega⟩,rfl⟩
  ·have t1:decide ((k:Int)<(l.length:Int))=false:=decide_eq_false (by omega);have HF:=hid (show ∀x∈l,M<=x from fun x hx=>HM.out.2 x (by rw[cS (by omega)];exact hx));go_wp2_with fail;go_ret;exact⟨M,rfl,HM.out.1,HF.out,rfl⟩
theorem ZH (v:Value) (l:List Int) (w:World) (hr:RdI w v l) (h1:1<=l.length):
  Calls Tryz.prog 145 #[v] w fun e w'=>∃m,e=.returned (.int .i64 m)/\m∈l/\(∀x∈l,x<=m)/\w'=w:=by
 obtain⟨a,ca,rfl,hca,hma,hA⟩:=hr.open;unfold maxLen at hma;clear hr;obtain⟨b1,o1,rfl,hb1,hc1⟩:=hA (by omega);obtain⟨x0,hx0⟩:=dH h1;have c0:=hc1 0 x0 hx0;rw[pH] at c0;have HX0:=hid hx0;have t0:decide ((l.length:Int)<1)=false:=decide_eq_false (by omega);have t0':(0:Int)<(l.length:Int):=by omega
 have t0'':0<l.length:=by omega
 clear hx0 hA;go_enter Tryz.func145,Tryz.ntmps145;go_wp2_with fail
 go_loopg [3,4] (l.length-1) (fun g s3 s4 wr=>∃(k:Nat) (M:Int),1<=k/\k<=l.length/\g=l.length-k/\s4=.int .i64 (k:Int)/\s3=.int .i64 M/\Hid (M∈l/\∀x∈l.take k,x<=M)/\wr=w)
 case atStart=>exact⟨1,x0,by omega,h1,rfl,rfl,rfl,hid ⟨cH HX0.out,fun y hy=>by
  rcases EQ (k:=0) HX0.out hy with q|q
  ·simp at q
  ·omega⟩,rfl⟩
 case round=>
  obtain⟨k,M,hk1,hk,hg,rfl,rfl,HM,rfl⟩:=hrel;have HG:=hid hg;clear hg
  by_cases hlt:k<l.length
  ·have t1:decide ((k:Int)<(l.length:Int))=true:=decide_eq_true (by omega);obtain⟨x,hx⟩:=dH hlt;have c1:=hc1 k x hx;have HX:=hid hx;clear hc1 hx;go_wp2_with fail;have hg:=HG.out
   go_roundg (l.length-(k+1))
   case measure=>omega
   case rel=>exact⟨k+1,max M x,by omega,by omega,rfl,by go_num,rfl,hid ⟨by
    rcases Int.max_def M x▸(by split<;>simp:(if M<=x then x else M)=M\/(if M<=x then x else M)=x) with q|q
    ·rw[q];exact HM.out.1
    ·rw[q];exact cH HX.out,fun y hy=>by
    rcases EQ HX.out hy with q|q
    ·have:=HM.out.2 y q;omega
    ·omega⟩,rfl⟩
  ·have t1:decide ((k:Int)<(l.length:Int))=false:=decide_eq_false (by omega);have HF:=hid (show ∀x∈l,x<=M from fun x hx=>HM.out.2 x (by rw[cS (by omega)];exact hx));go_wp2_with fail;go_ret;exact⟨M,rfl,HM.out.1,HF.out,rfl⟩
theorem aPb (n:Nat) (f:Nat->Int):(tab n f).toArray.size=n:=by simp[tab]
theorem ZI (f:Nat->Int):(Tryz.prog.info? 238).map (·.size)=some (tab 21 f).toArray.size:=by rw[aPb];kernel_rfl
theorem MI:Tryz.prog.underlying 238=some (.array 21 3):=by kernel_rfl
theorem aPc {w:World} {b:Nat} {e:TypeId} {l:List Value} (n:Nat) (h:Arr w b e l) (hl:l.length=n) (f:Nat->Int):
  (storeCells ⟨b,0,none⟩ (tab n f)).run Tryz.prog w=.ok () (w.setRow b (tab n f).toArray):=by
 have h1:(tab n f).length=n:=by simp[tab]
 have h2:=run_storeCells_from (P:=Tryz.prog) b e (tab n f) 0 l.toArray w h (by simp[hl,h1]) (fun v hv=>by obtain⟨c,_,rfl⟩:=dU.1 hv;rfl);rw[h2]
 congr 2
theorem aPd (f:Nat->Int) (k:Nat) (hk:k<21) (w:World):(tV 238 (.agg (tab 21 f).toArray) (.int .i64 (k:Int))).run Tryz.prog w=.ok (.int .i64 (f k)) w:=by
 have h:(tab 21 f)[k]? =some (.int .i64 (f k)):=iS 21 f k hk;have hk2:(k:Int)<21:=by omega
 simp[tV,sI MI,asIntOf,hk,part,isAgg,sI Tryz.underlying3,h,Result.andThen]
theorem aPe (v:Value) (l:List Int) (w:World) (hr:RdI w v l) (hl:∀x∈l,1<=x/\x<=20) (hn:l.length<=258):
  Calls Tryz.prog 146 #[v] w fun e w'=>e=.returned (.agg (tab 21 (fun n=>(bU l n:Int))).toArray)/\Below w.heap.size w w':=by
 obtain⟨a,ca,rfl,hca,hma,hA⟩:=hr.open;unfold maxLen at hma;clear hr;have HL:=hid hl;clear hl;go_enter Tryz.func146,Tryz.ntmps146;go_wp2_with fail
 go_loopg [4,7] l.length (fun g _s4 s7 wr=>∃k:Nat,k<=l.length/\g=l.length-k/\s7=.int .i64 (k:Int)/\Arr wr w.heap.size 238 (tab 21 (fun n=>(bU (l.take k) n:Int)))/\Below w.heap.size w wr)
 case atStart=>
  refine⟨0,aU _,rfl,rfl,?_,(aB _ _).alloc (aA _) _⟩;exact Arr.new w _ (tab 21 (fun _=>0))
 case round=>
  obtain⟨k,hk,hg,rfl,harr,hbel⟩:=hrel;have HG:=hid hg;clear hg
  by_cases hlt:k<l.length
  ·have t1:decide ((k:Int)<(l.length:Int))=true:=decide_eq_true (by omega);obtain⟨b1,o1,rfl,hb1,hc1⟩:=hA (by omega);obtain⟨x,hx⟩:=dH hlt;have c1:=((lP hbel).1 b1 (o1+k) hb1).trans (hc1 k _ hx);have hxb:=HL.out x (cH hx);obtain⟨y,rfl⟩:∃y:Nat,x=(y:Int):=⟨x.toNat,by omega⟩;have hy:y<21:=by omega
   have hy':(y:Int)<21:=by omega
   have d1:=harr.cell (iS 21 _ y hy);have f1:=harr.free y;have hS:=fun n=>BN hlt n
   have hgD:l.getD k 0=(y:Int):=by rw[aV,hx];rfl
   rw[hgD] at hS;have hcb:bU (l.take k) y<=258:=by unfold bU;exact aW xR (by rw[aX];omega)
   obtain⟨C,hC⟩:∃C,C=bU (l.take k) y:=⟨_,rfl⟩;rw[<-hC] at d1 hcb;have m1:aI.wrap ((C:Int)+1)=(C:Int)+1:=by rw[aM];omega
   have HT:=hid (qD 21 (fun n=>(bU (l.take k) n:Int)) (fun n=>(bU (l.take (k+1)) n:Int)) y ((C:Int)+1) (fun d hd=>by
    show((bU (l.take (k+1)) d:Nat):Int)=_;rw[hS d]
    by_cases e:d=y
    ·subst e;rw[if_pos (by simp),if_pos rfl,<-hC];omega
    ·rw[if_neg (by simp;omega),if_neg e];omega))
   clear hC hS hgD hx hc1 hA hxb;go_wp2_with fail;have hg:=HG.out
   go_roundg (l.length-(k+1))
   case measure=>omega
   case rel=>
    refine⟨k+1,by omega,rfl,by go_num,?_,hbel.setCell (p:=⟨w.heap.size,y,none⟩) (aA _) _⟩;rw[<-HT.out];exact harr.set y _
  ·have t1:decide ((k:Int)<(l.length:Int))=false:=decide_eq_false (by omega);have hke:k=l.length:=by omega
   subst hke;rw[kE] at harr;have hst:=aPc 21 harr (by simp[tab]) (fun n=>(bU l n:Int));go_upto_region 6 with fail;go_wp2_with (refine wpList_load_row rfl 238 (.tmp 2) rfl w.heap.size rfl _ _ (0,0) (.array 21 3) harr MI rfl (ZI _) ?_);have harr2:Arr (wr.setRow w.heap.size (tab 21 (fun n=>(bU l n:Int))).toArray) w.heap.size 238 (tab 21 (fun n=>(bU l n:Int))):=setRow_heap wr w.heap.size _ _ 238 (0,0) harr;refine gJ (results_cell_row rfl _ _ w.heap.size _ _ (0,0) (.array 21 3) rfl harr2 MI rfl (ZI _)) rfl ?_
   exact⟨rfl,zB hbel _ (aA _) _⟩
def MJ (l:List Int):Nat->Int
 |0=>1
 |n+1=>pN l n
theorem aPf (l:List Int) (k:Nat):pN l k=(if k=0 then MJ l k else 2*MJ l k)-(bU l k:Int):=by
 cases k with
 |zero=>rfl
 |succ k=>rfl
theorem zS (v:Value) (l:List Int) (w:World) (hr:RdI w v l):
  Calls Tryz.prog 121 #[v] w fun e w'=>e=.returned (.int .i64 (bL l))/\Below w.heap.size w w':=by
 have hr0:=hr;obtain⟨a,ca,rfl,hca,hma,hA⟩:=hr.open;unfold maxLen at hma;clear hr hA
 by_cases h2:2<=l.length/\l.length<=258
 rotate_left
 ·have HC:=hid (ST h2)
  by_cases h3:l.length<2
  ·have t1:decide ((l.length:Int)<2)=true:=decide_eq_true (by omega);go_enter Tryz.func121,Tryz.ntmps121;go_wp2_with fail;go_ret;exact⟨by rw[HC.out];rfl,aB _ _⟩
  ·have t1:decide ((l.length:Int)<2)=false:=decide_eq_false (by omega);have t2:decide ((l.length:Int)>258)=true:=decide_eq_true (by omega);have t3:decide ((258:Int)<(l.length:Int))=true:=decide_eq_true (by omega);go_enter Tryz.func121,Tryz.ntmps121;go_wp2_with fail;go_ret;exact⟨by rw[HC.out];rfl,aB _ _⟩
 ·have t1:decide ((l.length:Int)<2)=false:=decide_eq_false (by omega);have t2:decide ((l.length:Int)>258)=false:=decide_eq_false (by omega);have t3:decide ((258:Int)<(l.length:Int))=false:=decide_eq_false (by omega);have hmin:=aPa _ l w hr0 (by omega);have hmax:=ZH _ l w hr0 (by omega);have hcnt:=aPe _ l w hr0;clear hr0;go_enter Tryz.func121,Tryz.ntmps121;go_wp2_with fail;refine hmin.mono ?_;rintro e w1 ⟨m,rfl,hm1,hm2,rfl⟩
  by_cases hm:m<1
  ·have u1:decide (m<1)=true:=decide_eq_true hm;obtain⟨k,hk⟩:=List.getElem?_of_mem hm1;have HC:=hid (DG hk (by omega));clear hk hm2 hcnt hmax hmin;go_wp2_with fail;go_ret;exact⟨by rw[HC.out];rfl,aB _ _⟩
  ·have u1:decide (m<1)=false:=decide_eq_false hm;have HM:=hid hm2;clear hm2 hmin hm1;go_wp2_with fail;refine hmax.mono ?_;rintro e w2 ⟨x,rfl,hx1,hx2,rfl⟩
   by_cases hx:20<x
   ·have u2:decide (x>20)=true:=decide_eq_true hx;have u3:decide (20<x)=true:=decide_eq_true hx;obtain⟨k,hk⟩:=List.getElem?_of_mem hx1;have HC:=hid (DG hk (by omega));clear hk hx2 hcnt hmax;go_wp2_with fail;go_ret;exact⟨by rw[HC.out];rfl,aB _ _⟩
   ·have u2:decide (x>20)=false:=decide_eq_false hx;have u3:decide (20<x)=false:=decide_eq_false hx;have hall:∀y∈l,1<=y/\y<=20:=fun y hy=>by
     have:=HM.out y hy;have:=hx2 y hy;omega
    have HALL:=hid hall;have HC:=hid (SU ⟨h2.1,h2.2,hall⟩);have hcnt:=hcnt hall h2.2;have HOV:=hid (fun n (hn:n<=20)=>aDn hall hn);have HFI:=hid (aDo hall);have HBD:=hid (fun n=>aDp (l:=l) (n:=n) (fun y hy=>(hall y hy).1));clear hall hx2 HM hmax;go_wp2_with fail;refine hcnt.mono ?_;rintro e w3 ⟨rfl,hb3⟩;go_wp2_with fail
    go_loopg [3,4,5,26] 21 (fun g s3 _s4 _s5 s26 wr=>∃(k:Nat) (X:Int),k<=21/\g=21-k/\s26=.int .i64 (k:Int)/\s3=.int .i64 X/\Hid (X=MJ l k)/\Hid (∀n,n<k->0<=pN l n)/\wr=w3)
    case atStart=>exact⟨0,1,by omega,rfl,rfl,rfl,hid rfl,hid (fun n hn=>by omega),rfl⟩
    case round=>
     obtain⟨k,X,hk,hg,rfl,rfl,HX,HN,rfl⟩:=hrel;have HG:=hid hg;clear hg
     by_cases hlt:k<21
     ·have v1:decide ((k:Int)<21)=true:=decide_eq_true (by omega);have ix:=aPd (fun n=>(bU l n:Int)) k hlt wr;have hcb:bU l k<=258:=by unfold bU;exact aW xR h2.2
      have hB:0<=X/\X<=1048576:=by
       rw[HX.out]
       cases k with
       |zero=>exact⟨show(0:Int)<=1 by decide,show(1:Int)<=1048576 by decide⟩
       |succ k=>
        refine⟨HN.out k (by omega),Int.le_trans (HBD.out k) ?_⟩;have:(2:Nat)^k<=2^20:=Nat.pow_le_pow_right (by decide) (by omega);have e:(2:Nat)^20=1048576:=by decide
        have:(((2:Nat)^k:Nat):Int)<=1048576:=by omega
        simpa using this
      have hY:=aPf l k;rw[<-HX.out] at hY;have hov:=HOV.out k (by omega);obtain⟨Y,hYe⟩:∃Y,Y=pN l k:=⟨_,rfl⟩;obtain⟨C,hCe⟩:∃C,C=bU l k:=⟨_,rfl⟩;rw[<-hYe] at hY hov;simp only[<-hCe] at ix;rw[<-hCe] at hY hcb;have HY:=hid hYe;clear hYe hCe
      by_cases hk0:k=0
      ·subst hk0;rw[if_pos rfl] at hY;rw[show((0:Nat):Int)=0 from rfl] at ix;have v2:decide ((0:Int)>0)=false:=by decide
       have v3:decide (((0:Nat):Int)>0)=false:=by decide
       have m4:X-(C:Int)=Y:=by omega
       have m5:aI.wrap Y=Y:=by rw[aM];omega
       by_cases hY0:Y<0
       ·have w1:decide (Y<0)=true:=decide_eq_true hY0;have HC2:=hid (show bL l=6 by rw[HC.out,if_pos (hov hY0)]);clear hov hY hB hcb;go_wp2_with fail;go_ret;exact⟨by rw[HC2.out];rfl,hb3⟩
       ·have w1:decide (Y<0)=false:=decide_eq_false hY0;clear hov hY hB hcb;go_wp2_with fail;have hg:=HG.out
        go_roundg (21-(0+1))
        case measure=>omega
        case rel=>exact⟨0+1,Y,by omega,rfl,by go_num,rfl,HY,hid (fun n hn=>by
         rcases bT n 0 with h|h
         ·exact HN.out n h
         ·rw[show n=0 by omega,<-HY.out];omega),rfl⟩
      ·rw[if_neg hk0] at hY;have v2:decide ((k:Int)>0)=true:=decide_eq_true (by omega);have v3:decide (0<k)=true:=decide_eq_true (by omega);have v4:0<k:=by omega
       obtain⟨D,hD⟩:∃D,D=2*X:=⟨_,rfl⟩;have m1:aI.wrap (X*2)=D:=by rw[aM];omega
       have m2:X*2=D:=by omega
       have m3:aI.wrap D=D:=by rw[aM];omega
       rw[<-hD] at hY;have m4:D-(C:Int)=Y:=by omega
       have m5:aI.wrap Y=Y:=by rw[aM];omega
       by_cases hY0:Y<0
       ·have w1:decide (Y<0)=true:=decide_eq_true hY0;have HC2:=hid (show bL l=6 by rw[HC.out,if_pos (hov hY0)]);clear hov hY hB hcb hD;go_wp2_with fail;go_ret;exact⟨by rw[HC2.out];rfl,hb3⟩
       ·have w1:decide (Y<0)=false:=decide_eq_false hY0;clear hov hY hB hcb hD;go_wp2_with fail;have hg:=HG.out
        go_roundg (21-(k+1))
        case measure=>omega
        case rel=>exact⟨k+1,Y,by omega,rfl,by go_num,rfl,HY,hid (fun n hn=>by
         rcases bT n k with h|h
         ·exact HN.out n h
         ·rw[show n=k by omega,<-HY.out];omega),rfl⟩
     ·have v1:decide ((k:Int)<21)=false:=decide_eq_false (by omega);have HC2:=hid (show bL l=0 by rw[HC.out,if_neg (by have:=HFI.out (fun n hn=>HN.out n (by omega));omega)]);go_wp2_with fail;go_ret;exact⟨by rw[HC2.out];rfl,hb3⟩
theorem ZL (n:Nat) (w:World) (h1:2<=n) (h2:n<=258):Calls Tryz.prog 139 #[.int .i64 (n:Int)] w fun e w'=>e=.returned (.bool true)/\w'=w:=by
 have t1:decide ((n:Int)>=2)=true:=decide_eq_true (by omega);have t2:decide ((2:Int)<=(n:Int))=true:=decide_eq_true (by omega);have t3:decide ((n:Int)<=258)=true:=decide_eq_true (by omega);go_enter Tryz.func139,Tryz.ntmps139;go_wp2;go_ret;exact⟨rfl,rfl⟩
theorem ZM (x:Int) (w:World):Calls Tryz.prog 159 #[.int .i64 x] w fun e w'=>e=.returned (.bool (decide (1<=x)&&decide (x<=20)))/\w'=w:=by
 by_cases h1:1<=x
 ·have t1:decide (x>=1)=true:=decide_eq_true h1;have t2:decide (1<=x)=true:=decide_eq_true h1
  by_cases h2:x<=20
  ·have t3:decide (x<=20)=true:=decide_eq_true h2;go_enter Tryz.func159,Tryz.ntmps159;go_wp2;go_ret;exact⟨by first|rfl|(simp[h1,h2]),rfl⟩
  ·have t3:decide (x<=20)=false:=decide_eq_false h2;go_enter Tryz.func159,Tryz.ntmps159;go_wp2;go_ret;exact⟨by first|rfl|(simp[h1,h2]),rfl⟩
 ·have t1:decide (x>=1)=false:=decide_eq_false h1;have t2:decide (1<=x)=false:=decide_eq_false h1;go_enter Tryz.func159,Tryz.ntmps159;go_wp2;go_ret;exact⟨by first|rfl|(simp[h1]),rfl⟩
def qR (w:World) (b:Nat) (D:List Bool):Prop:=Arr w b 82 [.string (mkS (aD D)),.int .i64 (D.length:Int)]
theorem qR.set {w:World} {b:Nat} {D:List Bool} (h:qR w b D) (E:List Bool):qR ((w.setCell ⟨b,0,none⟩ (.string (mkS (aD E)))).setCell ⟨b,1,none⟩ (.int .i64 (E.length:Int))) b E:=(Arr.set h 0 _).set 1 _
end Go.Proofs.YtmcogmmncfihhaaGreatDoor
