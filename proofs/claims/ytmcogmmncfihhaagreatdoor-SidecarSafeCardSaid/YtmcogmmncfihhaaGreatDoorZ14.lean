/-
  Texts put together (part 14): the walks and the plain laws on which the statement stands.
-/
import Derived.ProofKit
import Derived.OpenShut
import Derived.ShutString
import Derived.ChangeOld
import Derived.ChangeVars
import Derived.JoinedOf
import Derived.LaidLaws
import Derived.LaidHandle
import Derived.Stop.Joined
import Derived.Deep.Slices
import Derived.Lib.SmallJoins
import Derived.SizedLaws
import Derived.ChangeSlices
import Derived.Test.YtmcogmmncfihhaaGreatDoorZ11
import Derived.Test.YtmcogmmncfihhaaGreatDoorZ13
set_option maxRecDepth 100000
set_option maxHeartbeats 12800000
set_option linter.unusedVariables false
set_option linter.unusedSimpArgs false
open BitVec renaming ofInt->SL
open ByteArray renaming size_append->aTx
open Decidable renaming not_not->dK
open Go.Addr renaming add->iN
open Go.DataW renaming trod->aYs,trod_int->aY2
open Go.IntKind renaming bits->FQ,signed->FP
open Go.Value renaming slice->lK
open Go.World renaming block_lt_of_cell?->iO,cell?_spot->bAc
open Int renaming le_refl->lJ,le_trans->eC
open List renaming append_assoc->cF,append_nil->eE,flatten_cons->AS,getD_eq_getElem?_getD->aV,getElem?_append->aCa,getElem?_drop->gR,getElem?_eq_getElem->aN,getElem?_eq_none->dL,getElem?_replicate->aTg,getElem?_take->lW,length_append->aL,length_map->bJ,length_nil->cX,length_pos_iff->kV,length_singleton->fK,map_append->fI,map_cons->pG,mem_append->cU,mem_cons_of_mem->jD,mem_cons_self->lY,mem_map->dU,mem_singleton->dC,nil_append->iG,range->dG,replicate->bB,singleton_inj->EX,take_left'->vN
open Nat renaming add_assoc->dZ,add_sub_cancel->jZ,add_zero->pH,eq_zero_or_pos->fJ,le_refl->aA,lt_of_lt_of_le->dR
open Option.some renaming inj->bW
open Prod renaming ext->gK
open UInt8 renaming ofNat->eK
namespace Go.Proofs.YtmcogmmncfihhaaGreatDoor
section
open Go.RowKit Go.Shelf
noncomputable def oOf (s:ByteArray):Nat->Int:=Classical.epsilon (fun o=>Ord (bX s) s.size s.size o)
def fS (s:ByteArray):Prop:=Ord (bX s) s.size s.size (oOf s)
theorem LV {s:ByteArray} {o:Nat->Int} (h:Ord (bX s) s.size s.size o):fS s:=Classical.epsilon_spec (p:=fun o=>Ord (bX s) s.size s.size o) ⟨o,h⟩
noncomputable def oY (s:ByteArray):List UInt8:=dM s (oOf s) s.size
noncomputable def sqA (s:ByteArray):ByteArray:=if s.size=0 then cW else mkS (bK s.data.toList)
noncomputable def sqO (s:ByteArray):Int:=if s.size=0 then 0 else((fD (oOf s) s.size:Nat):Int)
noncomputable def sqS (s:ByteArray):List Int:=if s.size=0 then[] else oA s (oOf s)
def sqE (s:ByteArray):Int:=if s.size=0 then 1 else 0
theorem XQ {s:ByteArray} {o:Nat->Int} (h:Ord (bX s) s.size s.size o):oA s o=oA s (oOf s)/\fD o s.size=fD (oOf s) s.size:=by
 have hu:=h.uniq (LV h);unfold oA;exact⟨by rw[aG8 hu],aG9 hu⟩
theorem XR {s:ByteArray} (h:s.size=0):s=cW:=by
 rw[<-pL s,List.length_eq_zero_iff.1 (show s.data.toList.length=0 by simpa using h)];rfl
theorem aN4 (s:ByteArray) (w:World) (hs:s.size<=65536):
  Calls Tryz.prog 53 #[.string s] w fun e w'=>∃v,e=.returned (.tuple #[.agg #[.string (sqA s),.int .i64 (sqO s),v],.int .i64 (sqE s)])/\RdI w' v (sqS s)/\Below w.heap.size w w'/\(0<s.size->fS s):=by
 rcases fJ s.size with h0|h0
 ·have e1:sqA s=cW:=if_pos h0;have e2:sqO s=0:=if_pos h0;have e3:sqS s=[]:=if_pos h0;have e4:sqE s=1:=if_pos h0;rw[e1,e2,e3,e4];have:=XR h0;subst this;refine(aL3 w).mono ?_;rintro e w' ⟨rfl,hb⟩;exact⟨_,rfl,⟨none,0,rfl,aA _,by simp[maxLen],.inl rfl⟩,hb,fun h=>absurd h (by omega)⟩
 ·have hn:¬s.size=0:=by omega
  refine(aL4 s w h0 hs).mono ?_;rintro e w' ⟨o,v,hO,rfl,hown,hb⟩;obtain⟨q1,q2⟩:=XQ hO;have e1:sqA s=mkS (bK s.data.toList):=if_neg hn;have e2:sqO s=((fD (oOf s) s.size:Nat):Int):=if_neg hn;have e3:sqS s=oA s (oOf s):=if_neg hn;have e4:sqE s=0:=if_neg hn;rw[e1,e2,e3,e4,<-q1,<-q2];exact⟨v,rfl,hown.rd,hb,fun _=>LV hO⟩
theorem XT (s:ByteArray):(oY s).length=s.size:=by unfold oY dM;simp
theorem aN1 {s:ByteArray} (h:fS s):(oY s).Perm s.data.toList:=LN s h
theorem aN2 (s:ByteArray):oA s (oOf s)=cZ 0 (cM (bK s.data.toList) (oY s))++[((bK s.data.toList).length:Int)+1]:=rfl
theorem XU {s:ByteArray} (h:fS s):∀b∈oY s,b∈bK s.data.toList:=fun _b hb=>(yC _ _).2 ((aN1 h).mem_iff.1 hb)
theorem XV {s:ByteArray} (h:fS s):∀x∈cM (bK s.data.toList) (oY s),0<=x/\x<((bK s.data.toList).length:Int):=vT _ _ (XU h)
theorem LW (s:ByteArray):(sqS s).length<=s.size+1/\(0<s.size->2<=(sqS s).length):=by
 unfold sqS
 by_cases h0:s.size=0
 ·rw[if_pos h0];exact⟨by simp,fun h=>by omega⟩
 ·rw[if_neg h0,aN2,aL];have:=IT (cM (bK s.data.toList) (oY s)) 0;rw[rH,XT] at this;simp;omega
theorem EE (c n:Int) (w:World) (h1: -9223372036854775808<=c) (h2:c<=9223372036854775807) (h3:1<=n) (h4:n<=1000000000):
  Calls Tryz.prog 49 #[.int .i64 c,.int .i64 n] w fun e w'=>e=.returned (.int .i64 (gA c n))/\w=w':=by
 by_cases hc:c<0
 ·have hfin:=hid (show gA c n=(-(c+1))%n from by simp[gA,hc]);go_enter Tryz.func49,Tryz.ntmps49;go_wp2;go_ret;exact⟨fX (by rw[hfin.out];rw[<-Int.neg_tmod,Int.tmod_eq_emod_of_nonneg (by omega)]),rfl⟩
 ·have hfin:=hid (show gA c n=c%n from by simp[gA,hc]);have hc':0<=c:=by omega
  go_enter Tryz.func49,Tryz.ntmps49;go_wp2;go_ret;exact⟨fX (by rw[hfin.out]),rfl⟩
def RdP (w:World) (v:Value) (l:List (Int×Int)):Prop:=
 ∃a cap,v=.slice a l.length cap/\l.length<=cap/\cap<=maxLen/\
  (0<l.length->∃b off,a=some ⟨b,off,none⟩/\b<w.heap.size/\∀j p,l[j]? =some p->w.cell? ⟨b,off+j*2,none⟩=some (.int .i64 p.1)/\w.cell? ⟨b,off+j*2+1,none⟩=some (.int .i64 p.2))
def WfP (l:List (Int×Int)):Prop:=∀p∈l,(-9223372036854775808<=p.1/\p.1<=9223372036854775807)/\(-9223372036854775808<=p.2/\p.2<=9223372036854775807)
theorem RdP.below {w w':World} {v:Value} {l:List (Int×Int)} (h:RdP w v l) (hb:Below w.heap.size w w'):RdP w' v l:=by
 obtain⟨a,cap,rfl,h1,h2,h3⟩:=h;refine⟨a,cap,rfl,h1,h2,fun h=>?_⟩;obtain⟨b,off,rfl,hlt,hc⟩:=h3 h;exact⟨b,off,rfl,dR hlt hb.size,fun j p hp=>by rw[(lP hb).1 _ _ hlt,(lP hb).1 _ _ hlt];exact hc j p hp⟩
theorem aN3 (b:UInt8) (W:World):(convert 47 9 (.slice (some ⟨W.heap.size,0,none⟩) 1 1)).run Tryz.prog (W.alloc (.cells #[.int .u8 (b.toNat:Int)] 5))=.ok (.string (mkS [b])) (W.alloc (.cells #[.int .u8 (b.toNat:Int)] 5)):=
 lQ (l:=[b]) ((Arr.new W 5 [.int .u8 (b.toNat:Int)]).rdB (l:=[b]) rfl (by decide))
theorem LX (v:Value) (raw:List (Int×Int)) (most:Int) (w:World) (hr:RdP w v raw) (hwf:WfP raw) (hm1:0<=most) (hm2:most<=1000):
  Calls Tryz.prog 35 #[v,.int .i64 most] w fun e w'=>∃s:ByteArray,e=.returned (.string s)/\(s.size:Int)<=most/\Below w.heap.size w w':=by
 obtain⟨a,ca,rfl,hca,hma,hA⟩:=hr;unfold maxLen at hma;go_enter Tryz.func35,Tryz.ntmps35;go_wp2
 go_loopg [5,6,7,8] raw.length (fun g out i _c _k wr=>∃(k:Nat) (s:ByteArray),k<=raw.length/\g=raw.length-k/\i=.int .i64 k/\out=.string s/\(s.size:Int)<=most/\Below w.heap.size w wr)
 case atStart=>exact⟨0,_,Nat.zero_le _,rfl,rfl,rfl,hm1,Below.refl _ _⟩
 case round=>
  obtain⟨k,s,hk,hg,rfl,rfl,hsm,hbel⟩:=hrel;have HG:=hid hg;clear hg;have hsk1:s.size<=1000:=by omega
  by_cases hlt:k<raw.length
  ·by_cases hlm:(s.size:Int)<most
   ·obtain⟨b1,o1,rfl,hb1,hc1⟩:=hA (by omega);obtain⟨p,hp⟩:∃p,raw[k]? =some p:=⟨_,aN hlt⟩;obtain⟨⟨hx1,hx2⟩,hy1,hy2⟩:=hwf p (List.mem_of_getElem? hp);obtain⟨hcx,hcy⟩:=hc1 k p hp;obtain⟨x,y⟩:=p;have hn:=hbel.size;have c1:∀o,(wr.alloc o).cell? ⟨b1,o1+k*2,none⟩=some (.int .i64 x):=fun o=>by
     rw[World.cell?_alloc_past _ _ _ (by show b1<wr.heap.size;omega),hbel.cell (p:=⟨b1,o1+k*2,none⟩) hb1];exact hcx
    have hd:decide ((s.size:Int)<most)=true:=by simpa using hlm
    obtain⟨hp1,hp2⟩:=vU x 6 (by decide);obtain⟨q,hq⟩:=Int.eq_ofNat_of_zero_le hp1;have hq6:q<6:=by omega
    have HQ:=hid hq;have HP:=hid hp;have HCY:=hid hcy;clear hA hc1 hp hcx hcy hq hp1 hp2;have hq7:q=0\/q=1\/q=2\/q=3\/q=4\/q=5:=by omega
    go_upto_region 5 with fail
    go_cut [7] (fun c7 wx=>(∃b:UInt8,c7=.int .u8 (b.toNat:Int))/\Below w.heap.size w wx)
    case first=>
     rcases hq7 with rfl|rfl|rfl|rfl|rfl|rfl
     all_goals
      go_wp2_with (go_at_call 49;refine(EE _ _ _ ?_ ?_ ?_ ?_).mono ?_;omega;omega;decide;decide;rintro e w' ⟨rfl,rfl⟩;rw[HQ.out]);go_meet
     ·exact⟨⟨0,rfl⟩,hbel.alloc (by omega) _⟩
     ·exact⟨⟨1,rfl⟩,hbel.alloc (by omega) _⟩
     ·exact⟨⟨4,rfl⟩,hbel.alloc (by omega) _⟩
     ·exact⟨⟨97,rfl⟩,hbel.alloc (by omega) _⟩
     ·exact⟨⟨98,rfl⟩,hbel.alloc (by omega) _⟩
     ·exact⟨⟨255,rfl⟩,hbel.alloc (by omega) _⟩
    case rest=>
     obtain⟨⟨b,rfl⟩,hbx⟩:=hcut;clear c1 hq7 hq6 HQ hd hlm hsk1 hbel hn;have HLT:=hid hlt;go_wp2;obtain⟨hp1,hp2⟩:=vU y 300 (by decide)
     go_loopg [8,5] 300 (fun g s8 s5 wr=>∃(j:Nat) (t:ByteArray),j<=300/\g=300-j/\s8=.int .i64 j/\s5=.string t/\(t.size:Int)<=most/\Below w.heap.size w wr)
     case atStart=>exact⟨0,s,by omega,rfl,rfl,rfl,hsm,hbx⟩
     case round=>
      obtain⟨j,t,hj,hg2,rfl,rfl,ht,hbr⟩:=hrel;have HG2:=hid hg2;clear hg2;have hlt:=HLT.out;have ht1:t.size<=1000:=by omega
      have cy:=(hbr.cell (p:=⟨b1,o1+k*2+1,none⟩) hb1).trans HCY.out
      by_cases hjl:(j:Int)<1+gA y 300
      ·have hd2:decide ((j:Int)<1+gA y 300)=true:=by simpa using hjl
       by_cases htl:(t.size:Int)<most
       ·have hd3:decide ((t.size:Int)<most)=true:=by simpa using htl
        have hcv:=aN3 b;go_wp2_with (go_at_call 49;refine(EE _ _ _ ?_ ?_ ?_ ?_).mono ?_;omega;omega;decide;decide;rintro e w' ⟨rfl,rfl⟩);have hg2:=HG2.out
        go_roundg (300-(j+1))
        case measure=>omega
        case rel=>exact⟨j+1,_,by omega,rfl,by go_num,rfl,by rw[aTx,cP];simp;omega,hbr.alloc (by have:=hbr.size;omega) _⟩
       ·have hd3:decide ((t.size:Int)<most)=false:=by simpa using htl
        go_wp2_with (go_at_call 49;refine(EE _ _ _ ?_ ?_ ?_ ?_).mono ?_;omega;omega;decide;decide;rintro e w' ⟨rfl,rfl⟩);have hg:=HG.out
        go_roundg (raw.length-(k+1))
        case measure=>omega
        case rel=>exact⟨k+1,_,by omega,rfl,by go_num,rfl,ht,hbr⟩
      ·have hd2:decide ((j:Int)<1+gA y 300)=false:=by simpa using hjl
       go_wp2_with (go_at_call 49;refine(EE _ _ _ ?_ ?_ ?_ ?_).mono ?_;omega;omega;decide;decide;rintro e w' ⟨rfl,rfl⟩);have hg:=HG.out
       go_roundg (raw.length-(k+1))
       case measure=>omega
       case rel=>exact⟨k+1,_,by omega,rfl,by go_num,rfl,ht,hbr⟩
   ·have hd:decide ((s.size:Int)<most)=false:=by simpa using hlm
    go_wp2;go_ret;exact⟨s,rfl,hsm,hbel⟩
  ·go_wp2;go_ret;exact⟨s,rfl,hsm,hbel⟩
end
section
open Go.ChangeShapes Go.WideShapes Go.ChangeAt Go.RowKit Go.Joins
theorem dF {n:Int} (h:(Lit.int .i64 n).wf=true): -9223372036854775808<=n/\n<=9223372036854775807:=by
 simp[Lit.wf,IntKind.min,IntKind.max,FP,FQ] at h;omega
theorem NE:ownKnob Tryz.prog.godebug=none:=by kernel_rfl
theorem FI:laidOutB Tryz.prog=true:=by kernel_rfl
theorem aS4:Tryz.prog.globalNamed "errors.errorType"=some 0:=by kernel_rfl
theorem aS5:(Tryz.prog.cutTypes.find? (·.1== "internal/reflectlite.rtype")).map (·.2)=some 150:=by kernel_rfl
theorem aS6:Tryz.prog.types.size=316:=by kernel_rfl
theorem aS7:((dG 316).filter fun t=>Tryz.prog.rowNamed t [101,114,114,111,114])=[66]:=by kernel_rfl
abbrev pE:List (String×DataW Unit):=[("errors.errorType",Rows.laid_errors_errorType)]
theorem NF {W:World} (h:laidMetH Tryz.prog pE W):iF W:=by
 have h':laidMet Tryz.prog [] W/\handlesMet Tryz.prog pE W:=h;obtain⟨name,u,ty,e1,e2,e3,e4,e5⟩:=h'.2 _ (dC.2 rfl);have en:name=[101,114,114,111,114]:=(bW e1).symm;subst en;obtain rfl:=bW (aS5.symm.trans e2);have hm:ty∈(dG 316).filter fun t=>Tryz.prog.rowNamed t [101,114,114,111,114]:=List.mem_filter.2 ⟨List.mem_range.2 (by rw[<-aS6];exact e3),e4⟩
 rw[aS7] at hm;obtain rfl:=dC.1 hm;have hh:typeHandle Tryz.prog 66=.pointer (some ⟨1,66,none⟩):=by kernel_rfl
 rw[hh] at e5;have:=World.var?_cell aS4 e5 0;unfold iF
 simpa using this
noncomputable def FJ (os:Os):World:=
 let w0:=World.holding Tryz.prog os ⟨#[],#[],[]⟩
 {w0 with heap:=w0.heap.modify 0 fun
   |.cells _ t frozen=>.cells #[.iface 150 (.agg #[.pointer (some ⟨1,66,none⟩)])] t frozen
   |o=>o}
theorem NG (os:Os) (args:Array Value):laidMetH Tryz.prog pE ((FJ os).forCall (fun _ _=>0) ⟨#[],args,[]⟩).memory:=
 laidMetH_of_parts (laidMet_nil _ _) (by kernel_rfl)
theorem FK {n:Int} (h:(Lit.int .i64 n).wf=true): -9223372036854775808<=n/\n<=9223372036854775807:=dF h
theorem aBt {α:Type}:∀{l:List α},l.length=2->∃x y,l=[x,y]
 |[x,y],_=>⟨x,y,rfl⟩
section
variable {H:Type} {enc:TypeId×Value->H} {w:World} {base:Nat} {spare:Nat->Bool} {held:Bool}
theorem aBu {fuel:Nat} {v:Value} {x:DataW H×List MemPlace} (h:aYs enc Tryz.prog w base spare held fuel 22 [v]=some x):∃l,RdP w v l/\WfP l:=by
 have c50:Tryz.prog.cellsOf 40=2:=by kernel_rfl
 have c3:Tryz.prog.cellsOf 3=1:=by kernel_rfl
 rcases Go.Deep.open_slice Tryz.underlying22 h with⟨hcs,_⟩|⟨a,len,cap,m,n,D,Pl,hcs,_,hl,hm,hmm,_,hi⟩
 ·obtain rfl:v=.slice none 0 0:=by simpa using hcs
  exact⟨[],⟨none,0,rfl,aA _,by simp[maxLen],fun h=>absurd h (by simp)⟩,by intro p hp;simp at hp⟩
 ·obtain rfl:v=.slice (some a) len cap:=by simpa using hcs
  have hlm:len<=m:=by rw[hmm];split<;>omega
  have key:∀i,i<len->∃p:Int×Int,(w.cell? (a.add (i*2))=some (.int .i64 p.1)/\w.cell? (a.add (i*2+1))=some (.int .i64 p.2))/\((-9223372036854775808<=p.1/\p.1<=9223372036854775807)/\(-9223372036854775808<=p.2/\p.2<=9223372036854775807)):=fun i hil=>by
   obtain⟨cs',hc,ht⟩:=hi i (dR hil hlm);rw[c50] at hc;obtain⟨xs,k,_,_,_,hx2,hel⟩:=DataW.trod_array Tryz.underlying40 ht;obtain⟨_,hcl,hat⟩:=World.cells?_some hc;obtain⟨u0,u1,rfl⟩:=aBt hcl;obtain⟨y0,y1,rfl⟩:=aBt hx2;have e0:=hel 0 (by decide);have e1:=hel 1 (by decide);rw[c3] at e0 e1;obtain⟨n0,q0,_,b0⟩:=aY2 Tryz.underlying3 (show aYs enc Tryz.prog w base spare held k 3 [u0]=some y0 from e0);obtain⟨n1,q1,_,b1⟩:=aY2 Tryz.underlying3 (show aYs enc Tryz.prog w base spare held k 3 [u1]=some y1 from e1)
   have q0':u0=.int .i64 n0:=EX.1 q0;have q1':u1=.int .i64 n1:=EX.1 q1;clear e0 e1 hel hi ht h;subst q0' q1';have a0:=hat 0 (by decide);have a1:=hat 1 (by decide);refine⟨(n0,n1),⟨?_,?_⟩,FK b0,FK b1⟩
   ·have e0:(a.add (i*2)).add 0=a.add (i*2):=by rw[Go.Deep.add_add,pH]
    rw[<-e0,a0];rfl
   ·simpa [<-Go.Deep.add_add] using a1
  have hch:∃f:Nat->Int×Int,∀i,i<len->(w.cell? (a.add (i*2))=some (.int .i64 (f i).1)/\w.cell? (a.add (i*2+1))=some (.int .i64 (f i).2))/\((-9223372036854775808<=(f i).1/\(f i).1<=9223372036854775807)/\(-9223372036854775808<=(f i).2/\(f i).2<=9223372036854775807)):=
   ⟨fun i=>if h:i<len then(key i h).choose else(0,0),fun i hil=>by simp only[hil,dif_pos];exact(key i hil).choose_spec⟩
  obtain⟨f,hf⟩:=hch;refine⟨(dG len).map f,⟨some a,cap,by simp,by simpa using hl,hm,fun h0=>?_⟩,fun p hp=>?_⟩
  ·have h0':0<len:=by simpa using h0
   have c0:=(hf 0 h0').1.1;obtain⟨b,off,spot⟩:=a;have hsp:spot=none:=by simpa [iN] using bAc c0
   subst hsp;refine⟨b,off,rfl,iO w _ c0,fun j p hp=>?_⟩;obtain⟨hj,rfl⟩:j<len/\f j=p:=by
    rw[List.getElem?_map] at hp
    by_cases hj:j<len
    ·rw[List.getElem?_range hj] at hp;exact⟨hj,by simpa using hp⟩
    ·rw[dL (by simpa using hj)] at hp;simp at hp
   have e:∀q,(⟨b,off,none⟩:Addr).add q=⟨b,off+q,none⟩:=fun q=>by unfold iN;split<;>simp_all
   have:=(hf j hj).1;rw[e,e] at this;exact⟨this.1,by rw[dZ];exact this.2⟩
  ·rw[dU] at hp;obtain⟨i,hi',rfl⟩:=hp;exact(hf i (by simpa using hi')).2
end
theorem aT3 {w:World} {a:Option Addr} {len cap:Nat} {zs:List Int}
  (h:(a=none/\len=0/\cap=0/\zs=[])\/∃x,a=some x/\len<=cap/\cap<=maxLen/\zs.length=cap/\(∀i,i<zs.length->w.cell? (x.add i)=some (.int .i64 (zs.getD i 0)))/\∀n∈zs,(Lit.int .i64 n).wf=true):
  RdI w (.slice a len cap) (zs.take len)/\WfI (zs.take len):=by
 rcases h with⟨rfl,rfl,rfl,rfl⟩|⟨⟨b,off,spot⟩,rfl,hl,hm,hz,hc,hw⟩
 ·exact⟨⟨none,0,rfl,aA _,by simp[maxLen],.inl rfl⟩,by intro x hx;simp at hx⟩
 ·have hlen:(zs.take len).length=len:=by simp;omega
  refine⟨⟨some ⟨b,off,spot⟩,cap,by rw[hlen],by rw[hlen];exact hl,hm,?_⟩,fun x hx=>?_⟩
  ·rcases fJ len with h0|h0
   ·left;subst h0;simp
   ·right
    have h1:=hc 0 (by omega);have hsp:spot=none:=by simpa [iN] using bAc h1
    subst hsp;refine⟨b,off,rfl,iO w _ h1,fun j hj=>?_⟩;have hj':j<len:=by rw[bJ,hlen] at hj;exact hj
    have h2:=hc j (by omega);have e:(⟨b,off,none⟩:Addr).add j=⟨b,off+j,none⟩:=by unfold iN;split<;>simp_all
    rw[e] at h2;rw[h2];have hjz:j<zs.length:=by omega
    simp[List.getD,hj',hjz]
  ·have:=hw x (List.mem_of_mem_take hx);simp[Lit.wf,IntKind.min,IntKind.max,FP,FQ] at this;omega
section
variable {H:Type} {enc:TypeId×Value->H} {w:World} {base:Nat} {held:Bool}
theorem aBv {s:Option Addr} {n c:Nat} {d:DataW H} {p:List MemPlace} (h:DataW.Trod enc Tryz.prog w base (fun _=>true) held 57 (.slice s n c) d p):∃l,RdI w (.slice s n c) l/\WfI l:=by
 obtain⟨fuel,hf⟩:=h;rcases open_ints Tryz.underlying57 Tryz.underlying3 (by kernel_rfl) hf with⟨hc,_⟩|⟨a,len,cap,zs,hc,_,hl,hm,hz,_,hcell,hwf⟩
 ·have hc:lK s n c=.slice none 0 0:=by simpa [Value.cells] using hc
  rw[hc];exact⟨_,aT3 (zs:=[]) (.inl ⟨rfl,rfl,rfl,rfl⟩)⟩
 ·have hc:lK s n c=.slice (some a) len cap:=by simpa [Value.cells] using hc
  rw[hc];exact⟨_,aT3 (zs:=zs) (.inr ⟨a,rfl,hl,hm,by simpa using hz,hcell,hwf⟩)⟩
end
end
section
open Go.RowKit
theorem XY {s:ByteArray} (h0:0<s.size):s.data.toList≠[]:=fun e=>by
 have:s.data.toList.length=s.size:=by simp
 rw[e] at this;simp at this;omega
theorem aOa {s:ByteArray} (h0:0<s.size):1<=(bK s.data.toList).length:=kV.2 (BT (XY h0))
theorem zO {s:ByteArray} (h0:0<s.size):sqA s=mkS (bK s.data.toList):=if_neg (by omega)
theorem EF {s:ByteArray} (h0:0<s.size):sqO s=((fD (oOf s) s.size:Nat):Int):=if_neg (by omega)
theorem MA {s:ByteArray} (h0:0<s.size):sqS s=cZ 0 (cM (bK s.data.toList) (oY s))++[((bK s.data.toList).length:Int)+1]:=if_neg (by omega)
theorem XZ {s:ByteArray} (h0:0<s.size):sqE s=0:=if_neg (by omega)
theorem aOb {s:ByteArray} (h0:0<s.size):(sqA s).size=(bK s.data.toList).length:=by rw[zO h0,cP]
theorem YA {s:ByteArray} (h0:0<s.size):(sqA s).data.toList≠[]/\bK (sqA s).data.toList=(sqA s).data.toList:=by
 rw[zO h0,fW];exact⟨BT (XY h0),PK _⟩
theorem YB {s:ByteArray} (h0:0<s.size) (hO:fS s):∀y∈cZ 0 (cM (bK s.data.toList) (oY s)),0<=y/\y<((bK s.data.toList).length:Int)+1:=fun y hy=>by
 have hr:=XV hO;have hp:=aOa h0;rcases aDx _ _ (fun x hx=>(hr x hx).1) y hy with q|q|⟨x,hx,q,_⟩
 ·omega
 ·omega
 ·have:=hr x hx;omega
theorem YC {s:ByteArray} (h0:0<s.size) (hO:fS s):gW (sqS s) (((sqA s).size:Int)+1):=by
 rw[MA h0,aOb h0];refine⟨by simp,by simp,fun x hx=>?_⟩;rw[aL,fK,jZ,vN] at hx
 ·exact YB h0 hO x hx
 ·rfl
theorem YD {s:ByteArray} (h0:0<s.size) (hO:fS s):cE (sqS s)=cM (bK s.data.toList) (oY s):=by
 unfold cE;rw[MA h0,aL,fK,jZ,vN rfl,aDw _ _ (fun x hx=>(XV hO x hx).1)];simp
theorem MB {s:ByteArray} (h0:0<s.size) (hO:fS s):(cE (sqS s)).length=s.size:=by
 rw[YD h0 hO,rH,XT]
theorem aOc {s:ByteArray} (h0:0<s.size) (hO:fS s):unL (sqA s).data.toList (cE (sqS s))=oY s:=by
 rw[YD h0 hO,zO h0,fW];exact PN _ _ (XU hO)
theorem MC {s:ByteArray} (h0:0<s.size) (hO:fS s):fD (oOf s) s.size<s.size/\oOf s (fD (oOf s) s.size)=0:=aLw hO h0
theorem aOd {s:ByteArray} (h0:0<s.size) (hO:fS s) {k:Nat} (hk:k<s.size) {most:Int} (hm:(s.size:Int)<=most):rest (sqA s) (k:Int) (sqS s) most=(mkS (rot s (oOf s k).toNat),0):=by
 rw[wR (YA h0) (YC h0 hO) (by rw[MB h0 hO];exact hm) (by rw[MB h0 hO];omega),aOc h0 hO,Int.toNat_natCast];have:nF (oY s) k=rot s (oOf s k).toNat:=aN9 hO hk;rw[this]
theorem aOe (s:ByteArray):rot s 0=s.data.toList:=by
 unfold rot;simp
theorem YE {s:ByteArray} (h0:0<s.size) (hO:fS s) {most:Int} (hm:(s.size:Int)<=most):rest (sqA s) (sqO s) (sqS s) most=(s,0):=by
 obtain⟨h1,h2⟩:=MC h0 hO;rw[EF h0,aOd h0 hO h1 hm,h2];simp only[Int.toNat_zero,aOe,pL]
theorem aOf {s:ByteArray} (h0:0<s.size) (hO:fS s) (o:Int) {most:Int} (hm:most<(s.size:Int)):rest (sqA s) o (sqS s) most=(cW,4):=
 zL (YA h0) (YC h0 hO) (by rw[MB h0 hO];omega)
def cL (s:List UInt8) (at' room:Int):ByteArray×Int×Int×Int:=
 if at'<0\/room<1\/360<room then(cW,0,0,1)
 else if aO s.length at' 48≠0 then(cW,0,0,aO s.length at' 48)
 else if aE s at' 48≠0x314159265359 then(cW,0,0,3)
 else if aO s.length (at'+48) 32≠0 then(cW,0,0,aO s.length (at'+48) 32)
 else if aO s.length (at'+80) 16≠0 then(cW,0,0,aO s.length (at'+80) 16)
 else
  let u:=cG s (at'+96)
  if u.2.2≠0 then(cW,0,0,u.2.2)
  else
   let c:=cV s u.2.1 ((u.1.length:Int)+2)
   if c.2.2≠0 then(cW,0,0,c.2.2)
   else
    let r:=rest (mkS u.1) (aE s (at'+80) 16) c.1 room
    if r.2≠0 then(cW,0,0,r.2)
    else
     let o:=fR r.1.data.toList (52*room)
     if o.2≠0 then(cW,0,0,o.2)
     else if(fG o.1).toNat≠aE s (at'+48) 32 then(cW,0,0,7)
     else(mkS o.1,(aE s (at'+48) 32:Int),c.2.1,0)
noncomputable def oB (t:ByteArray) (v:Nat):List Bool:=
 yV v (sqO (mkS (bC t.data.toList))).toNat (bK (bC t.data.toList)) (sqS (mkS (bC t.data.toList)))
noncomputable def cB (t:ByteArray):List Bool:=oB t (fG t.data.toList).toNat
theorem aOl (t:ByteArray) (v:Nat):(oB t v).length=48+32+16+(fZ (bK (bC t.data.toList))).length+(rV (sqS (mkS (bC t.data.toList))) ((bK (bC t.data.toList)).length+2)).length:=by
 unfold oB yV;simp only[aL,cY]
theorem YJ {p:ByteArray} (h0:0<p.size) (hO:fS p):let n:=(bK p.data.toList).length+2
  (∀x∈sqS p,0<=x/\x<(n:Int))/\0<(sqS p).length/\(sqS p)[(sqS p).length-1]? =some ((n:Int)-1)/\(∀x∈(sqS p).take ((sqS p).length-1),x<(n:Int)-1):=by
 intro n;have he:=YB h0 hO;rw[MA h0];refine⟨fun x hx=>?_,by simp,?_,fun x hx=>?_⟩
 ·rcases cU.1 hx with hx|hx
  ·have:=he x hx;omega
  ·obtain rfl:=dC.1 hx;omega
 ·rw[aL,fK,jZ,List.getElem?_append_right (aA _),Nat.sub_self,List.getElem?_cons_zero]
  congr 1;omega
 ·rw[aL,fK,jZ,vN rfl] at hx;have:=he x hx;omega
theorem ME {s:List UInt8} {a:Nat} {t:ByteArray} {v:Nat} {room:Int} (hv:v<2^32) (h0:0<t.size) (hO:fS (mkS (bC t.data.toList))) (hr1:1<=room) (hr:room<=360) (hp8:(bC t.data.toList).length<=8000) (h:fH s a (oB t v)):
  cL s (a:Int) room=if room<((bC t.data.toList).length:Int) then(cW,0,0,4) else if(fG t.data.toList).toNat=v then(t,(v:Int),((a+(oB t v).length:Nat):Int),0) else(cW,0,0,7):=by
 have htl:t.data.toList.length=t.size:=by simp
 have hne:t.data.toList≠[]:=fun e=>by rw[e] at htl;simp at htl;omega
 have hpl:=oS t.data.toList.length t.data.toList (aA _);have hpn:=hpl.2.1 hne;have hp0:0<(mkS (bC t.data.toList)).size:=by rw[cP];exact kV.2 hpn
 have hpsz:(mkS (bC t.data.toList)).size=(bC t.data.toList).length:=cP _;obtain⟨f1,f2,f3,f4⟩:=YJ hp0 hO;have hsl:=(LW (mkS (bC t.data.toList))).1;have hor:=MC hp0 hO;have hal:=rX (bC t.data.toList);have han:=BT hpn;have hun:=UA t.data.toList.length t.data.toList (aA _);rw[fW] at f1 f3 f4;have hob:(sqO (mkS (bC t.data.toList))).toNat<2^16:=by rw[EF hp0];omega
 have hoe:(((sqO (mkS (bC t.data.toList))).toNat:Nat):Int)=sqO (mkS (bC t.data.toList)):=by rw[EF hp0];omega
 rw[aOl];unfold oB yV at h;obtain⟨h,s5⟩:=jN h;obtain⟨h,s4⟩:=jN h;obtain⟨h,s3⟩:=jN h;obtain⟨s1,s2⟩:=jN h;simp only[aL,cY] at s2 s3 s4 s5;obtain⟨e1,v1⟩:=uX s1 (by decide);obtain⟨e2,v2⟩:=uX s2 hv;obtain⟨e3,v3⟩:=uX s3 hob;have e4:=aJn han s4;rw[PK] at e4;have e5:=aMh (by omega) (by omega) f1 (by omega) f2 f3 f4 s5;rw[show((a+48:Nat):Int)=(a:Int)+48 by omega] at e2 v2;rw[show((a+(48+32):Nat):Int)=(a:Int)+80 by omega] at e3 v3
 rw[show((a+(48+32+16):Nat):Int)=(a:Int)+96 by omega] at e4;have hsA:mkS (bK (bC t.data.toList))=sqA (mkS (bC t.data.toList)):=by rw[zO hp0,fW]
 unfold cL;rw[if_neg (by omega),if_neg (by rw[e1];simp),if_neg (by rw[v1];simp),if_neg (by rw[e2];simp),if_neg (by rw[e3];simp),e4];simp only
 rw[if_neg (by simp)];have ea:a+(48+32+16)+(fZ (bK (bC t.data.toList))).length=a+(48+32+16+(fZ (bK (bC t.data.toList))).length):=by omega
 rw[ea,show((bK (bC t.data.toList)).length:Int)+2=(((bK (bC t.data.toList)).length+2:Nat):Int) by omega,e5];simp only
 rw[if_neg (by simp),v3,hoe,hsA]
 by_cases hp:room<((bC t.data.toList).length:Int)
 ·rw[aOf hp0 hO _ (by rw[hpsz];exact hp),if_pos hp];simp only
  rw[if_pos (by decide)]
 ·rw[YE hp0 hO (most:=room) (by rw[hpsz];omega),if_neg hp];simp only
  rw[if_neg (by simp),fW];have hu:fR (bC t.data.toList) (52*room)=(t.data.toList,0):=by
   rw[LI hun,if_neg (by omega)]
  rw[hu];simp only
  rw[if_neg (by simp),v2]
  by_cases hc:(fG t.data.toList).toNat=v
  ·rw[if_neg (fun k=>k hc),if_pos hc,pL];refine gK rfl (gK rfl (gK ?_ rfl));refine congrArg (fun k:Nat=>(k:Int)) ?_;omega
  ·rw[if_pos hc,if_neg hc]
theorem EI {s:List UInt8} {a:Nat} {t:ByteArray} {room:Int} (h0:0<t.size) (hO:fS (mkS (bC t.data.toList))) (hp:((bC t.data.toList).length:Int)<=room) (hr:room<=360) (h:fH s a (cB t)):
  cL s (a:Int) room=(t,((fG t.data.toList).toNat:Int),((a+(cB t).length:Nat):Int),0):=by
 have htl:t.data.toList.length=t.size:=by simp
 have hpn:=(oS t.data.toList.length t.data.toList (aA _)).2.1 (fun e=>by rw[e] at htl;simp at htl;omega);have:=kV.2 hpn;rw[ME (fG t.data.toList).isLt h0 hO (by omega) hr (by omega) h,if_neg (by omega),if_pos rfl];rfl
structure MF (a:ByteArray) (l:List Int) (most:Int) (t:ByteArray):Prop where
 pos:0<t.size
 tm:(t.size:Int)<=most
 len:t.size=(cE l).length
 two:2<=l.length
 last:l[l.length-1]? =some ((a.size:Int)+1)
 sym:∀x∈l.take (l.length-1),0<=x/\x<(a.size:Int)+1
 asz:a.size<=256
 bK:mkS (bK (a++t).data.toList)=a
theorem aOm (a t:ByteArray):(a++t).data.toList=a.data.toList++t.data.toList:=by simp
theorem aOn {s:List UInt8} {o:Nat} (h:o<s.length):∀b∈nF s o,b∈s:=fun b hb=>by
 obtain⟨i,_,rfl⟩:=dU.1 hb;have hlt:=sU s o h (i+1);rw[aV,aN hlt];exact List.getElem_mem hlt
theorem aOo (a:ByteArray) (o:Int) (l:List Int) (most:Int):
  (∃e,rest a o l most=(cW,e)/\e≠0)\/∃t,rest a o l most=(t,0)/\MF a l most t:=by
 by_cases h1:a.data.toList≠[]/\Go.Proofs.YtmcogmmncfihhaaGreatDoor.bK a.data.toList=a.data.toList
 rotate_left
 ·exact .inl ⟨1,wQ h1,by decide⟩
 by_cases h2:gW l ((a.size:Int)+1)
 rotate_left
 ·exact .inl ⟨3,zK h1 h2,by decide⟩
 by_cases h3:((cE l).length:Int)<=most
 rotate_left
 ·exact .inl ⟨4,zL h1 h2 h3,by decide⟩
 by_cases h4:0<=o/\o<((cE l).length:Int)
 rotate_left
 ·exact .inl ⟨3,zM h1 h2 h3 h4,by decide⟩
 refine .inr ⟨_,wR h1 h2 h3 h4,?_⟩;have hal:a.data.toList.length=a.size:=by rw[Array.length_toList];rfl
 have hap:0<a.size:=by rw[<-hal];exact kV.2 h1.1
 have hul:(unL a.data.toList (cE l)).length=(cE l).length:=oO _ _;have hbl:(nF (unL a.data.toList (cE l)) o.toNat).length=(cE l).length:=by rw[CN,hul]
 have hmem:∀b∈nF (unL a.data.toList (cE l)) o.toNat,b∈a.data.toList:=fun b hb=>
  IQ _ _ (by rw[hal];exact LQ h2 hap) b (aOn (by rw[hul];omega) b hb)
 refine⟨by rw[cP,hbl];omega,by rw[cP,hbl];exact h3,by rw[cP,hbl],?_,h2.2.1,h2.2.2,?_,?_⟩
 ·rcases Nat.lt_or_ge l.length 2 with q|q
  ·have e:cE l=[]:=by
    unfold cE;rw[show l.length-1=0 by omega];rfl
   rw[e] at h4;simp at h4;omega
  ·exact q
 ·rw[<-hal,<-h1.2];exact rX _
 ·rw[aOm,fW,PJ (t:=a.data.toList),h1.2,pL];intro b;rw[cU];exact⟨fun h=>h.elim id (hmem b),.inl⟩
theorem MF.own {a t:ByteArray} {l:List Int} {most:Int} (h:MF a l most t) (hO:fS t):sqE t=0/\rest (sqA t) (sqO t) (sqS t) (t.size:Int)=(t,0):=
 ⟨XZ h.pos,YE h.pos hO (lJ _)⟩
theorem YK {s:List UInt8} {at' room:Int} (h:(cL s at' room).2.2.2=0):0<=at'/\1<=room/\room<=360/\1<=(cL s at' room).1.size/\((cL s at' room).1.size:Int)<=52*room/\(cL s at' room).2.1=((fG (cL s at' room).1.data.toList).toNat:Int)/\at'+96<(cL s at' room).2.2.1/\(cL s at' room).2.2.1<=8*(s.length:Int)/\
  aE s at' 48=0x314159265359:=by
 unfold cL at h ⊢
 by_cases q0:at'<0\/room<1\/360<room
 ·rw[if_pos q0] at h;simp at h
 rw[if_neg q0] at h ⊢
 by_cases q1:aO s.length at' 48≠0
 ·rw[if_pos q1] at h;exact absurd h q1
 rw[if_neg q1] at h ⊢
 by_cases q2:aE s at' 48≠0x314159265359
 ·rw[if_pos q2] at h;simp at h
 rw[if_neg q2] at h ⊢
 by_cases q3:aO s.length (at'+48) 32≠0
 ·rw[if_pos q3] at h;exact absurd h q3
 rw[if_neg q3] at h ⊢
 by_cases q4:aO s.length (at'+80) 16≠0
 ·rw[if_pos q4] at h;exact absurd h q4
 rw[if_neg q4] at h ⊢;simp only at h ⊢;have hu:(cG s (at'+96)).2.2=0->at'+96<(cG s (at'+96)).2.1:=by
  intro e;have hb:=yE s (at'+96) 16;unfold cG at e ⊢;simp only at e ⊢
  by_cases k1:(cJ s (at'+96) 16).2.2.2≠0
  ·rw[if_pos k1] at e;exact absurd e k1
  ·rw[if_neg k1] at e ⊢
   by_cases k2:(cJ s (at'+96) 16).2.2.1=true
   ·rw[if_pos k2] at e;simp at e
   ·rw[if_neg k2];have:=(hb.2 (dK.1 k1)).1;show at'+96<(cJ s (at'+96) 16).2.1;omega
 by_cases q5:(cG s (at'+96)).2.2≠0
 ·rw[if_pos q5] at h;exact absurd h q5
 rw[if_neg q5] at h ⊢;have hu:=hu (dK.1 q5);generalize cG s (at'+96)=u at*
 by_cases q6:(cV s u.2.1 ((u.1.length:Int)+2)).2.2≠0
 ·rw[if_pos q6] at h;exact absurd h q6
 rw[if_neg q6] at h ⊢;have hc:=LG (dK.1 q6);generalize cV s u.2.1 ((u.1.length:Int)+2)=c at*
 have hk:=aOo (mkS u.1) (aE s (at'+80) 16) c.1 room
 by_cases q7:(rest (mkS u.1) (aE s (at'+80) 16) c.1 room).2≠0
 ·rw[if_pos q7] at h;exact absurd h q7
 rw[if_neg q7] at h ⊢;rcases hk with⟨e,hk,he⟩|⟨p,hk,hkp⟩
 ·rw[hk] at q7;exact absurd he q7
 rw[hk] at h ⊢;simp only at h ⊢;have hpne:p.data.toList≠[]:=fun e=>by
  have h1:p.data.toList.length=p.size:=by simp
  have h2:=hkp.pos;rw[e] at h1;simp at h1;omega
 by_cases q8:(fR p.data.toList (52*room)).2≠0
 ·rw[if_pos q8] at h;exact absurd h q8
 rw[if_neg q8] at h ⊢;have hun:=aKb hpne (dK.1 q8);generalize fR p.data.toList (52*room)=o at*
 by_cases q9:(fG o.1).toNat≠aE s (at'+48) 32
 ·rw[if_pos q9] at h;simp at h
 rw[if_neg q9];have q9:=dK.1 q9;have hpos:=kV.2 hun.1;refine⟨by omega,by omega,by omega,by rw[cP];omega,by rw[cP];exact hun.2,by rw[fW,q9],by show at'+96<c.2.1;omega,hc.2.2.2.2.2.2,dK.1 q2⟩
end
section
open Go.RowKit Go Go.Shelf
def aU8 (x b:BitVec 32):BitVec 32:=(x<<<1|||x>>>31)^^^b
def aUi (l:List (BitVec 32)):BitVec 32:=l.foldl aU8 0#32
structure Prt where
 t:ByteArray
 y:Int
 a:Int
 z:Int
 r:Int
def aU9 (l:List Prt):BitVec 32:=aUi (l.map (fun p=>SL 32 p.y))
def QU (s:List UInt8) (k:Nat):Int×Int:=
 if s.length<k+4 then(0,2)
 else if(s.drop k).take 3≠[80,77,107]\/(s.getD (k+3) 0).toNat<49\/57<(s.getD (k+3) 0).toNat then(0,3)
 else(40*(((s.getD (k+3) 0).toNat:Int)-48),0)
def aUr (a:Nat):Nat:=(8-a%8)%8
def aUm (s:List UInt8) (a:Int) (v:BitVec 32):Int×Int:=
 if aO s.length (a+48) 32≠0 then(0,aO s.length (a+48) 32)
 else if aE s (a+48) 32≠v.toNat then(0,7)
 else if aE s (a+80) (aUr (a+80).toNat)≠0 then(0,3)
 else(a+80+(aUr (a+80).toNat:Int),0)
def KQ (s:List UInt8) (r:Int):Nat->Int->List Prt->List Prt×Int×Int
 |0,a,acc=>(acc,a,2)
 |f+1,a,acc=>
  if aO s.length a 48≠0 then(acc,a,aO s.length a 48)
  else if aE s a 48=0x177245385090 then(acc,(aUm s a (aU9 acc)).1,(aUm s a (aU9 acc)).2)
  else if aE s a 48≠0x314159265359 then(acc,a,3)
  else if(cL s a r).2.2.2≠0 then(acc,a,(cL s a r).2.2.2)
  else KQ s r f (cL s a r).2.2.1 (acc++[⟨(cL s a r).1,(cL s a r).2.1,a,(cL s a r).2.2.1,r⟩])
def hG (s:List UInt8) (a:Int):List Prt×Int×Int:=
 if(QU s (a/8).toNat).2≠0 then([],a,(QU s (a/8).toNat).2)
 else KQ s (QU s (a/8).toNat).1 (8*s.length+1) (a+32) []
def aUg (s:List UInt8):Nat->Int->List Prt->List Prt×Int
 |0,_,acc=>(acc,2)
 |f+1,a,acc=>
  if 8*(s.length:Int)<=a then(acc,0)
  else if(hG s a).2.2≠0 then(acc++(hG s a).1,(hG s a).2.2)
  else aUg s f (hG s a).2.1 (acc++(hG s a).1)
def hH (s:List UInt8):List Prt×Int:=if s=[] then([],3) else aUg s (8*s.length+1) 0 []
def okT (r:Int) (t:ByteArray):Prop:=0<t.size/\fS (mkS (bC t.data.toList))/\((bC t.data.toList).length:Int)<=r
noncomputable def aYg (l:List ByteArray):List Bool:=(l.map cB).flatten
def aY3 (l:List ByteArray):BitVec 32:=aUi (l.map (fun t=>fG t.data.toList))
def aYl (n:Nat):List UInt8:=[80,77,107,eK (48+n)]
noncomputable def aYd (n:Nat) (l:List ByteArray):List Bool:=kW (aYl n)++(aYg l++(aY 0x177245385090 48++aY (aY3 l).toNat 32))
def aYh (l:List Bool):List Bool:=l++bB (aUr l.length) false
noncomputable def aYe (l:List (Nat×List ByteArray)):List Bool:=(l.map (fun p=>aYh (aYd p.1 p.2))).flatten
noncomputable def aYi (r:Int):Nat->List ByteArray->List Prt
 |_,[]=>[]
 |a,t::l=>⟨t,((fG t.data.toList).toNat:Int),(a:Int),((a+(cB t).length:Nat):Int),r⟩::aYi r (a+(cB t).length) l
noncomputable def aYj:Nat->List (Nat×List ByteArray)->List Prt
 |_,[]=>[]
 |a,p::q=>aYi (40*(p.1:Int)) (a+32) p.2++aYj (a+(aYh (aYd p.1 p.2)).length) q
theorem aZh (a:Nat):aUr a<8:=Nat.mod_lt _ (by decide)
theorem aWq (a:Nat):(a+aUr a)%8=0:=by unfold aUr;omega
theorem aYo (l:List Bool):(aYh l).length=l.length+aUr l.length:=by unfold aYh;simp
theorem bAe (n:Nat):aY 0 n=bB n false:=by
 apply List.ext_getElem?;intro i
 by_cases h:i<n
 ·rw[ID 0 n i h,aTg,if_pos h];simp
 ·rw[dL (by rw[cY];omega),dL (by simp;omega)]
theorem aX8 {l:List Bool} {i:Nat} {b:Bool} (h:l[i]? =some b):l.getD i false=b:=by rw[aV,h];rfl
theorem aZi (l:List Bool):aD (aYh l)=aD l:=by
 have hp:=aWq l.length;have hp2:=aZh l.length;refine OU ?_ (fun i _=>?_)
 ·rw[gY,gY,aYo];omega
 ·rw[sO,sO];unfold aYh;rw[aV,aV,aCa];split
  ·rfl
  ·next h=>
   rw[aTg,dL (by omega)];split<;>rfl
theorem bAf {x y:List Bool} (h:x.length%8=0):aD (x++y)=aD x++aD y:=by
 refine OU ?_ (fun i _=>?_)
 ·rw[aL,gY,gY,gY,aL];omega
 ·rw[OW,sO,sO,sO,gY];rw[aV,aV,aV,aCa];have e:8*((x.length+7)/8)=x.length:=by omega
  rw[e];split
  ·rfl
  ·rfl
theorem bAg (s:List UInt8) (k i:Nat):dI (s.drop k) i=dI s (8*k+i):=by
 unfold dI;rw[aV,aV,gR,show(8*k+i)/8=k+i/8 by omega,show(8*k+i)%8=i%8 by omega]
theorem bAh {s:List UInt8} {n i:Nat} (h:i<8*n):dI (s.take n) i=dI s i:=by
 unfold dI;rw[aV,aV,lW,if_pos (by omega)]
theorem aZj {s h:List UInt8} {k:Nat} (hs:fH s (8*k) (kW h)):(s.drop k).take h.length=h:=by
 have h1:=hs.1;rw[xZ] at h1;have hl:((s.drop k).take h.length).length=h.length:=by rw[List.length_take,List.length_drop];omega
 refine OU hl (fun i hi=>?_);rw[hl] at hi;rw[bAh hi,bAg,MD hs (by rw[xZ];exact hi),aV,sP,if_pos hi];rfl
theorem bAi {s:List UInt8} {k n:Nat} (h1:1<=n) (h9:n<=9) (hs:fH s (8*k) (kW (aYl n))):QU s k=(40*(n:Int),0):=by
 have hb:=aZj hs;have hl:=hs.1;rw[xZ] at hl;have hl4:(aYl n).length=4:=rfl;rw[hl4] at hl hb;have e3:(s.drop k).take 3=[80,77,107]:=by
  have:((s.drop k).take 4).take 3=(aYl n).take 3:=by rw[hb]
  rw[List.take_take] at this;exact this
 have eb:(s.getD (k+3) 0).toNat=48+n:=by
  have:((s.drop k).take 4)[3]? =(aYl n)[3]? :=by rw[hb]
  rw[lW,if_pos (by decide),gR] at this;rw[aV,this];show(eK (48+n)).toNat=_;rw[UInt8.toNat_ofNat'];omega
 unfold QU;rw[if_neg (by omega),if_neg (by rintro(h|h|h)<;>first|exact h e3|omega),eb]
 congr 1
 omega
theorem aZk (t:ByteArray):∃R,cB t=aY 0x314159265359 48++R:=by
 unfold cB oB yV;simp only[cF];exact⟨_,rfl⟩
theorem aZl (t:ByteArray):48<=(cB t).length:=by
 obtain⟨R,hR⟩:=aZk t;rw[hR,aL,cY];omega
theorem bAj (v:BitVec 32):SL 32 ((v.toNat:Nat):Int)=v:=by
 rw[BitVec.ofInt_natCast,BitVec.ofNat_toNat];simp
theorem aZm (r:Int):∀(l:List ByteArray) (a:Nat),(aYi r a l).map (fun p=>SL 32 p.y)=l.map (fun t=>fG t.data.toList)
 |[],_=>rfl
 |t::l,a=>by
  show SL 32 (((fG t.data.toList).toNat:Nat):Int)::_=_;rw[bAj,aZm r l];rfl
theorem aZn {s:List UInt8} {r:Int} (hr:r<=360) {v:Nat}:∀(l:List ByteArray) (f a:Nat) (acc:List Prt),(∀t∈l,okT r t)->l.length<f->
  fH s a (aYg l++(aY 0x177245385090 48++(aY v 32++bB (aUr (a+(aYg l).length+80)) false)))->v=(aU9 (acc++aYi r a l)).toNat->
  KQ s r f (a:Int) acc=(acc++aYi r a l,((a+(aYg l).length+80+aUr (a+(aYg l).length+80):Nat):Int),0)
 |[],0,_,_,_,hf,_,_=>absurd hf (by simp)
 |[],f+1,a,acc,_,_,h,hv=>by
  have hb:aYg []=[]:=rfl;rw[hb] at h ⊢;simp only[iG,cX,pH] at h ⊢;obtain⟨h1,h2⟩:=jN h;rw[cY] at h2;obtain⟨h3,h4⟩:=jN h2;rw[cY] at h4;have g1:=uX h1 (by decide);have hvb:v<2^32:=by rw[hv];exact(aU9 (acc++aYi r a [])).isLt
  have g2:=uX h3 hvb;rw[<-bAe] at h4;have g3:=uX h4 (Nat.pow_pos (by decide));rw[show a+48+32=a+80 by omega] at g3;have e1:((a+48:Nat):Int)=(a:Int)+48:=by push_cast;rfl
  have e2:((a+80:Nat):Int)=(a:Int)+80:=by push_cast;rfl
  rw[e1] at g2;rw[e2] at g3;have e3:((a:Int)+80).toNat=a+80:=by omega
  have hp:aYi r a []=[]:=rfl;rw[hp,eE] at hv ⊢;unfold KQ;rw[if_neg (fun k=>k g1.1),if_pos g1.2];unfold aUm;rw[if_neg (fun k=>k g2.1),if_neg (fun k=>k (by rw[g2.2,hv])),e3,if_neg (fun k=>k g3.2)];simp
 |t::l,0,_,_,_,hf,_,_=>absurd hf (by simp)
 |t::l,f+1,a,acc,ho,hf,h,hv=>by
  have hb:aYg (t::l)=cB t++aYg l:=rfl;rw[hb,cF] at h;obtain⟨h1,h2⟩:=jN h;obtain⟨R,hR⟩:=aZk t;have h1':=h1;rw[hR] at h1';have g1:=uX (jN h1').1 (by decide);obtain⟨o1,o2,o3⟩:=ho t (lY ..);have hbk:=EI o1 o2 o3 hr h1;have hlen:a+(cB t++aYg l).length=a+(cB t).length+(aYg l).length:=by rw[aL];omega
  rw[hlen] at h2;have ih:=aZn hr l f (a+(cB t).length) (acc++[⟨t,((fG t.data.toList).toNat:Int),(a:Int),((a+(cB t).length:Nat):Int),r⟩]) (fun x hx=>ho x (jD _ hx)) (by simp at hf;omega) h2 (by rw[hv,cF];rfl);unfold KQ;rw[if_neg (fun k=>k g1.1),if_neg (by rw[g1.2];decide),if_neg (fun k=>k g1.2),hbk];simp only
  rw[if_neg (fun k=>k rfl),ih,hb,hlen,cF];rfl
theorem aYq (n:Nat) (l:List ByteArray):(aYd n l).length=32+(aYg l).length+80:=by
 unfold aYd;simp only[aL,cY,xZ];show 8*4+_=_;omega
theorem aZo:∀l:List ByteArray,l.length<=(aYg l).length
 |[]=>aA _
 |t::l=>by
  have:=aZo l;have:=aZl t;show l.length+1<=(cB t++aYg l).length;rw[aL];omega
theorem aY4 {s:List UInt8} {k n:Nat} {l:List ByteArray} (h1:1<=n) (h9:n<=9) (ho:∀t∈l,okT (40*(n:Int)) t) (h:fH s (8*k) (aYh (aYd n l))):
  hG s ((8*k:Nat):Int)=(aYi (40*(n:Int)) (8*k+32) l,((8*k+(aYh (aYd n l)).length:Nat):Int),0):=by
 have hsl:=h.1;have hlen:=aYq n l;have hpl:=aYo (aYd n l);have hbl:=aZo l;unfold aYh at h;have hsp:aYd n l++bB (aUr (aYd n l).length) false=kW (aYl n)++(aYg l++(aY 0x177245385090 48++(aY (aY3 l).toNat 32++bB (aUr (aYd n l).length) false))):=by
  unfold aYd;simp only[cF]
 rw[hsp] at h;obtain⟨a1,a2⟩:=jN h;rw[xZ,show(aYl n).length=4 from rfl] at a2;have hrm:=bAi h1 h9 a1;have hk:(((8*k:Nat):Int)/8).toNat=k:=by omega
 unfold hG;rw[hk,hrm,if_neg (fun k=>k rfl)];have ep:aUr (aYd n l).length=aUr (8*k+8*4+(aYg l).length+80):=by rw[hlen];unfold aUr;omega
 rw[ep] at a2 hpl;have hb:=aZn (s:=s) (r:=40*(n:Int)) (by omega) l (8*s.length+1) (8*k+8*4) [] ho (by omega) a2 (by rw[iG];unfold aU9 aY3;rw[aZm]);have e32:((8*k:Nat):Int)+32=((8*k+8*4:Nat):Int):=by omega
 rw[e32,hb];simp only[iG];rw[hpl,hlen]
 congr 3
 omega
theorem aZp {s:List UInt8}:∀(l:List (Nat×List ByteArray)) (f k:Nat) (acc:List Prt),(∀p∈l,1<=p.1/\p.1<=9/\∀t∈p.2,okT (40*(p.1:Int)) t)->l.length<f->fH s (8*k) (aYe l)->8*k+(aYe l).length=8*s.length->
  aUg s f ((8*k:Nat):Int) acc=(acc++aYj (8*k) l,0)
 |[],0,_,_,_,hf,_,_=>absurd hf (by simp)
 |[],f+1,k,acc,_,_,_,he=>by
  have:(aYe []).length=0:=rfl;unfold aUg;rw[if_pos (by omega)];show(acc,(0:Int))=(acc++[],0);rw[eE]
 |p::l,0,_,_,_,hf,_,_=>absurd hf (by simp)
 |p::l,f+1,k,acc,ho,hf,h,he=>by
  have hw:aYe (p::l)=aYh (aYd p.1 p.2)++aYe l:=rfl;rw[hw] at h he;rw[aL] at he;obtain⟨h1,h2⟩:=jN h;obtain⟨o1,o2,o3⟩:=ho p (lY ..);have hs:=aY4 o1 o2 o3 h1;have hpl:=aYo (aYd p.1 p.2);have hup:=aWq (aYd p.1 p.2).length;have hsl:=aYq p.1 p.2;obtain⟨m,hm⟩:∃m,(aYh (aYd p.1 p.2)).length=8*m:=⟨(aYh (aYd p.1 p.2)).length/8,by omega⟩;have e:8*k+(aYh (aYd p.1 p.2)).length=8*(k+m):=by omega
  rw[e] at h2 hs;have ih:=aZp l f (k+m) (acc++aYi (40*(p.1:Int)) (8*k+32) p.2) (fun x hx=>ho x (jD _ hx)) (by simp at hf;omega) h2 (by omega);unfold aUg;rw[if_neg (by omega),hs];simp only
  rw[if_neg (fun k=>k rfl),ih,cF];show _=(acc++(aYi (40*(p.1:Int)) (8*k+32) p.2++aYj (8*k+(aYh (aYd p.1 p.2)).length) l),(0:Int));rw[e]
theorem aY0 (l:List (Nat×List ByteArray)):(aYe l).length%8=0/\l.length<=(aYe l).length:=by
 induction l with
 |nil=>exact⟨rfl,aA _⟩
 |cons p l ih=>
  have hw:aYe (p::l)=aYh (aYd p.1 p.2)++aYe l:=rfl;have hpl:=aYo (aYd p.1 p.2);have hup:=aWq (aYd p.1 p.2).length;have hsl:=aYq p.1 p.2;rw[hw,aL,List.length_cons];omega
theorem bAk {l:List (Nat×List ByteArray)} (hl:l≠[]) (ho:∀p∈l,1<=p.1/\p.1<=9/\∀t∈p.2,okT (40*(p.1:Int)) t):hH (aD (aYe l))=(aYj 0 l,0):=by
 obtain⟨h8,hlen⟩:=aY0 l;have hpl:=gY (aYe l);have hl0:=kV.2 hl;have hne:aD (aYe l)≠[]:=fun e=>by rw[e] at hpl;simp at hpl;omega
 unfold hH;rw[if_neg hne];have:=aZp (s:=aD (aYe l)) l (8*(aD (aYe l)).length+1) 0 [] ho (by omega) (zP _) (by omega);rw[iG] at this;exact this
theorem aZq (n:Nat) (l:List ByteArray):aYe [(n,l)]=aYh (aYd n l):=by
 unfold aYe;rw[pG,List.map_nil,AS,List.flatten_nil,eE]
theorem aYt (n:Nat) (l:List ByteArray):aD (aYd n l)=aD (aYe [(n,l)]):=by
 rw[aZq,aZi]
theorem aZr (x y:List (Nat×List ByteArray)):aYe (x++y)=aYe x++aYe y:=by unfold aYe;simp
theorem aZs (x y:List (Nat×List ByteArray)):aD (aYe x)++aD (aYe y)=aD (aYe (x++y)):=by
 rw[aZr,bAf (aY0 x).1]
def Prt.up (d:Nat) (p:Prt):Prt:=⟨p.t,p.y,p.a+(d:Int),p.z+(d:Int),p.r⟩
theorem aZt (r:Int):∀(l:List ByteArray) (a:Nat),(aYi r a l).map Prt.t=l
 |[],_=>rfl
 |t::l,a=>by
  show t::(aYi r (a+(cB t).length) l).map Prt.t=_;rw[aZt r l]
theorem aZu (r:Int) (d:Nat):∀(l:List ByteArray) (a:Nat),aYi r (a+d) l=(aYi r a l).map (Prt.up d)
 |[],_=>rfl
 |t::l,a=>by
  have ih:=aZu r d l (a+(cB t).length);rw[show a+(cB t).length+d=a+d+(cB t).length by omega] at ih;unfold aYi;rw[ih,pG]
  congr 1
  unfold Prt.up;simp only[Prt.mk.injEq,true_and,and_true];omega
theorem aZv:∀(l:List (Nat×List ByteArray)) (a:Nat),(aYj a l).map Prt.t=(l.map (fun p=>p.2)).flatten
 |[],_=>rfl
 |p::l,a=>by
  unfold aYj;rw[fI,aZt,aZv l,pG,AS]
theorem bAl (d:Nat):∀(l:List (Nat×List ByteArray)) (a:Nat),aYj (a+d) l=(aYj a l).map (Prt.up d)
 |[],_=>rfl
 |p::l,a=>by
  unfold aYj;rw[fI,<-aZu,<-bAl d l,show a+d+32=a+32+d by omega,show a+d+(aYh (aYd p.1 p.2)).length=a+(aYh (aYd p.1 p.2)).length+d by omega]
theorem bAm:∀(x y:List (Nat×List ByteArray)) (a:Nat),aYj a (x++y)=aYj a x++aYj (a+(aYe x).length) y
 |[],y,a=>rfl
 |p::x,y,a=>by
  have hw:(aYe (p::x)).length=(aYh (aYd p.1 p.2)).length+(aYe x).length:=by
   show(aYh (aYd p.1 p.2)++aYe x).length=_;rw[aL]
  show aYi (40*(p.1:Int)) (a+32) p.2++aYj (a+(aYh (aYd p.1 p.2)).length) (x++y)=(aYi (40*(p.1:Int)) (a+32) p.2++aYj (a+(aYh (aYd p.1 p.2)).length) x)++aYj (a+(aYe (p::x)).length) y;rw[bAm x y,hw,cF,dZ]
theorem aWr {s:List UInt8} {a:Int} {v:BitVec 32} (h:(aUm s a v).2=0):0<=a+48/\a+80<=(aUm s a v).1/\(aUm s a v).1<=8*(s.length:Int):=by
 unfold aUm at h ⊢
 by_cases q1:aO s.length (a+48) 32≠0
 ·rw[if_pos q1] at h;exact absurd h q1
 rw[if_neg q1] at h ⊢;have hg:=fQ (dK.1 q1)
 by_cases q2:aE s (a+48) 32≠v.toNat
 ·rw[if_pos q2] at h;simp at h
 rw[if_neg q2] at h ⊢
 by_cases q3:aE s (a+80) (aUr (a+80).toNat)≠0
 ·rw[if_pos q3] at h;simp at h
 rw[if_neg q3];refine⟨hg.1,by show a+80<=a+80+_;omega,?_⟩;show a+80+(aUr (a+80).toNat:Int)<=_;unfold aUr;omega
theorem aVh {s:List UInt8} {r:Int}:∀(f:Nat) (a:Int) (acc:List Prt),(KQ s r f a acc).2.2=0->a+80<=(KQ s r f a acc).2.1/\(KQ s r f a acc).2.1<=8*(s.length:Int)
 |0,_,_,h=>absurd h (by show(2:Int)≠0;decide)
 |f+1,a,acc,h=>by
  unfold KQ at h ⊢
  by_cases q1:aO s.length a 48≠0
  ·rw[if_pos q1] at h;exact absurd h q1
  rw[if_neg q1] at h ⊢
  by_cases q2:aE s a 48=0x177245385090
  ·rw[if_pos q2] at h ⊢;have:=aWr h;exact⟨this.2.1,this.2.2⟩
  rw[if_neg q2] at h ⊢
  by_cases q3:aE s a 48≠0x314159265359
  ·rw[if_pos q3] at h;exact absurd h (by show(3:Int)≠0;decide)
  rw[if_neg q3] at h ⊢
  by_cases q4:(cL s a r).2.2.2≠0
  ·rw[if_pos q4] at h;exact absurd h q4
  rw[if_neg q4] at h ⊢;have hb:=YK (dK.1 q4);have ih:=aVh f _ _ h;omega
theorem aVi {s:List UInt8} {a:Int} (h:(hG s a).2.2=0):a+112<=(hG s a).2.1/\(hG s a).2.1<=8*(s.length:Int):=by
 unfold hG at h ⊢
 by_cases q:(QU s (a/8).toNat).2≠0
 ·rw[if_pos q] at h;exact absurd h q
 rw[if_neg q] at h ⊢;have:=aVh _ _ _ h;omega
theorem aY5 (l:List (Nat×List ByteArray)):8*(aD (aYe l)).length=(aYe l).length:=by
 have:=(aY0 l).1;rw[gY];omega
def aVa (s:List UInt8) (p:Prt):Prop:=cL s p.a p.r=(p.t,p.y,p.z,0)/\40<=p.r/\p.r<=360/\p.r%40=0
def aUu (s:List UInt8):Int->List Prt->Int->Prop
 |lo,[],hi=>lo<=hi
 |lo,p::l,hi=>lo<=p.a/\aVa s p/\aUu s p.z l hi
theorem aVa.facts {s:List UInt8} {p:Prt} (h:aVa s p):p.y=((fG p.t.data.toList).toNat:Int)/\1<=p.t.size/\(p.t.size:Int)<=52*p.r/\0<=p.a/\p.a+96<p.z/\p.z<=8*(s.length:Int):=by
 have hk:=YK (s:=s) (at':=p.a) (room:=p.r) (by rw[h.1]);rw[h.1] at hk;exact⟨hk.2.2.2.2.2.1,hk.2.2.2.1,hk.2.2.2.2.1,hk.1,hk.2.2.2.2.2.2.1,hk.2.2.2.2.2.2.2.1⟩
theorem aVu {s:List UInt8} {lo lo' hi:Int} (h:lo'<=lo):∀{l:List Prt},aUu s lo l hi->aUu s lo' l hi
 |[],k=>eC h k
 |_::_,k=>⟨eC h k.1,k.2⟩
theorem aVo {s:List UInt8} {mid hi:Int} {m:List Prt} (hm:aUu s mid m hi):∀{l:List Prt} {lo:Int},aUu s lo l mid->aUu s lo (l++m) hi
 |[],_,k=>aVu k hm
 |_::_,_,k=>⟨k.1,k.2.1,aVo hm k.2.2⟩
theorem aVv {s:List UInt8} {k:Nat} (h:(QU s k).2=0):40<=(QU s k).1/\(QU s k).1<=360/\(QU s k).1%40=0:=by
 unfold QU at h ⊢
 by_cases q1:s.length<k+4
 ·rw[if_pos q1] at h;exact absurd h (by decide)
 rw[if_neg q1] at h ⊢
 by_cases q2:(s.drop k).take 3≠[80,77,107]\/(s.getD (k+3) 0).toNat<49\/57<(s.getD (k+3) 0).toNat
 ·rw[if_pos q2] at h;exact absurd h (by decide)
 rw[if_neg q2];have a1:¬(s.getD (k+3) 0).toNat<49:=fun q=>q2 (.inr (.inl q))
 have a2:¬57<(s.getD (k+3) 0).toNat:=fun q=>q2 (.inr (.inr q))
 show 40<=40*(((s.getD (k+3) 0).toNat:Int)-48)/\40*(((s.getD (k+3) 0).toNat:Int)-48)<=360/\40*(((s.getD (k+3) 0).toNat:Int)-48)%40=0;omega
theorem aVw {s:List UInt8} {r:Int} (h1:40<=r) (h2:r<=360) (h3:r%40=0):∀(f:Nat) (a:Int) (acc:List Prt),(KQ s r f a acc).2.2=0->∃m,(KQ s r f a acc).1=acc++m/\aUu s a m (KQ s r f a acc).2.1
 |0,_,_,h=>absurd h (by show(2:Int)≠0;decide)
 |f+1,a,acc,h=>by
  have hok:=aVh (f+1) a acc h;unfold KQ at h hok ⊢
  by_cases q1:aO s.length a 48≠0
  ·rw[if_pos q1] at h;exact absurd h q1
  rw[if_neg q1] at h hok ⊢
  by_cases q2:aE s a 48=0x177245385090
  ·rw[if_pos q2] at h hok ⊢;exact⟨[],(eE _).symm,by show a<=_;omega⟩
  rw[if_neg q2] at h hok ⊢
  by_cases q3:aE s a 48≠0x314159265359
  ·rw[if_pos q3] at h;exact absurd h (by show(3:Int)≠0;decide)
  rw[if_neg q3] at h hok ⊢
  by_cases q4:(cL s a r).2.2.2≠0
  ·rw[if_pos q4] at h;exact absurd h q4
  rw[if_neg q4] at h hok ⊢;obtain⟨m,hm,hc⟩:=aVw h1 h2 h3 f _ _ h;refine⟨_::m,by rw[hm,cF];rfl,lJ _,⟨?_,h1,h2,h3⟩,hc⟩;have q4:=dK.1 q4;show cL s a r=((cL s a r).1,(cL s a r).2.1,(cL s a r).2.2.1,0);rw[<-q4]
theorem aVx {s:List UInt8} {a:Int} (h:(hG s a).2.2=0):aUu s (a+32) (hG s a).1 (hG s a).2.1:=by
 unfold hG at h ⊢
 by_cases q:(QU s (a/8).toNat).2≠0
 ·rw[if_pos q] at h;exact absurd h q
 rw[if_neg q] at h ⊢;obtain⟨r1,r2,r3⟩:=aVv (dK.1 q);obtain⟨m,hm,hc⟩:=aVw r1 r2 r3 _ _ _ h;rw[hm,iG];exact hc
theorem aVy {s:List UInt8}:∀(f:Nat) (a:Int) (acc:List Prt),a<=8*(s.length:Int)->(aUg s f a acc).2=0->∃m,(aUg s f a acc).1=acc++m/\aUu s a m (8*(s.length:Int))
 |0,_,_,_,h=>absurd h (by show(2:Int)≠0;decide)
 |f+1,a,acc,ha,h=>by
  unfold aUg at h ⊢
  by_cases q1:8*(s.length:Int)<=a
  ·rw[if_pos q1];exact⟨[],(eE _).symm,ha⟩
  rw[if_neg q1] at h ⊢
  by_cases q2:(hG s a).2.2≠0
  ·rw[if_pos q2] at h;exact absurd h q2
  rw[if_neg q2] at h ⊢;have q2:=dK.1 q2;obtain⟨m,hm,hc⟩:=aVy f _ _ (aVi q2).2 h;exact⟨(hG s a).1++m,by rw[hm,cF],aVo hc (aVu (by omega) (aVx q2))⟩
theorem aWs {s:List UInt8} (h:(hH s).2=0):aUu s 32 (hH s).1 (8*(s.length:Int)):=by
 unfold hH at h ⊢
 by_cases q:s=[]
 ·rw[if_pos q] at h;exact absurd h (by decide)
 rw[if_neg q] at h ⊢;have hl:=kV.2 q;unfold aUg at h ⊢;rw[if_neg (by omega)] at h ⊢
 by_cases q2:(hG s 0).2.2≠0
 ·rw[if_pos q2] at h;exact absurd h q2
 rw[if_neg q2] at h ⊢;have q2:=dK.1 q2;obtain⟨m,hm,hc⟩:=aVy (8*s.length) _ _ (aVi q2).2 h;rw[hm,iG];exact aVo hc (aVx q2)
theorem bAq {s:List UInt8} {hi:Int}:∀{l:List Prt} {lo:Int},aUu s lo l hi->∀(i:Nat) (p:Prt),l[i]? =some p->aVa s p/\lo<=p.a/\∀q,l[i+1]? =some q->p.z<=q.a
 |[],_,_,i,p,h=>by simp at h
 |x::l,lo,k,0,p,h=>by
  obtain rfl:x=p:=by simpa using h
  refine⟨k.2.1,k.1,fun q hq=>?_⟩
  cases l with
  |nil=>simp at hq
  |cons y l=>
   obtain rfl:y=q:=by simpa using hq
   exact k.2.2.1
 |x::l,lo,k,i+1,p,h=>by
  have h':l[i]? =some p:=by simpa using h
  obtain⟨h1,h2,h3⟩:=bAq k.2.2 i p h';have:=k.2.1.facts;have:=k.1;exact⟨h1,by omega,fun q hq=>h3 q (by simpa using hq)⟩
def aUx:Prt:=⟨cW,0,0,0,0⟩
def okP (l:List Prt):List (Prt×Int):=l.map (fun p=>(p,0))
theorem aVj (l m:List Prt):okP (l++m)=okP l++okP m:=fI
theorem aWt (p:Prt):okP [p]=[(p,0)]:=rfl
def XM (s:List UInt8):List (Prt×Int):=okP (hH s).1++if(hH s).2=0 then[] else[(aUx,(hH s).2)]
theorem aVz {s:List UInt8} {r:Int}:∀(f:Nat) (a:Int) (acc:List Prt),∃m,(KQ s r f a acc).1=acc++m
 |0,a,acc=>⟨[],by unfold KQ;rw[eE]⟩
 |f+1,a,acc=>by
  unfold KQ;split
  ·exact⟨[],by rw[eE]⟩
  split
  ·exact⟨[],by rw[eE]⟩
  split
  ·exact⟨[],by rw[eE]⟩
  split
  ·exact⟨[],by rw[eE]⟩
  ·obtain⟨m,hm⟩:=aVz (s:=s) (r:=r) f (cL s a r).2.2.1 (acc++[⟨(cL s a r).1,(cL s a r).2.1,a,(cL s a r).2.2.1,r⟩]);exact⟨_::m,by rw[hm,cF];rfl⟩
theorem aV0 {s:List UInt8}:∀(f:Nat) (a:Int) (acc:List Prt),∃m,(aUg s f a acc).1=acc++m
 |0,a,acc=>⟨[],by unfold aUg;rw[eE]⟩
 |f+1,a,acc=>by
  unfold aUg;split
  ·exact⟨[],by rw[eE]⟩
  split
  ·exact⟨_,rfl⟩
  ·obtain⟨m,hm⟩:=aV0 (s:=s) f (hG s a).2.1 (acc++(hG s a).1);exact⟨(hG s a).1++m,by rw[hm,cF]⟩
structure InT (s:List UInt8) (a:Int) (pre T:List (Prt×Int)):Prop where
 part:∀acc p m,(hG s a).1=acc++p::m->∃r,T=(pre++okP acc)++(p,0)::r
 bad:(hG s a).2.2≠0->T=(pre++okP (hG s a).1)++[(aUx,(hG s a).2.2)]
theorem aWu {s:List UInt8} {f:Nat} {a:Int} {acc:List Prt} (h:hH s=aUg s (f+1) a acc) (ha:a<8*(s.length:Int)):InT s a (okP acc) (XM s):=by
 have hu:aUg s (f+1) a acc=if 8*(s.length:Int)<=a then(acc,0) else if(hG s a).2.2≠0 then(acc++(hG s a).1,(hG s a).2.2) else aUg s f (hG s a).2.1 (acc++(hG s a).1):=rfl;rw[hu,if_neg (by omega)] at h;refine⟨fun ac p m hp=>?_,fun hb=>?_⟩
 ·have:∃r,(hH s).1=acc++(hG s a).1++r:=by
   rw[h];split
   ·exact⟨[],by rw[eE]⟩
   ·exact aV0 f _ _
  obtain⟨r,hr⟩:=this;unfold XM;rw[hr,hp];simp only[aVj,cF];exact⟨okP m++(okP r++if(hH s).2=0 then[] else[(aUx,(hH s).2)]),by simp[okP]⟩
 ·rw[if_pos hb] at h;unfold XM;rw[h];simp only
  rw[if_neg hb,aVj]
theorem aWv {s:List UInt8} {f:Nat} {a:Int} {acc:List Prt} (h:hH s=aUg s (f+1) a acc) (ha:a<8*(s.length:Int)) (hb:(hG s a).2.2=0):hH s=aUg s f (hG s a).2.1 (acc++(hG s a).1):=by
 rw[h];show(if 8*(s.length:Int)<=a then(acc,0) else if(hG s a).2.2≠0 then(acc++(hG s a).1,(hG s a).2.2) else aUg s f (hG s a).2.1 (acc++(hG s a).1))=_;rw[if_neg (by omega),if_neg (fun k=>k hb)]
theorem aWw {s:List UInt8} {f:Nat} {a:Int} {acc:List Prt} (h:hH s=aUg s (f+1) a acc) (ha:8*(s.length:Int)<=a):XM s=okP acc/\(hH s).2=0:=by
 have:hH s=(acc,0):=by
  rw[h];show(if 8*(s.length:Int)<=a then(acc,0) else if(hG s a).2.2≠0 then(acc++(hG s a).1,(hG s a).2.2) else aUg s f (hG s a).2.1 (acc++(hG s a).1))=_;rw[if_pos ha]
 unfold XM;rw[this];exact⟨by simp,rfl⟩
theorem aWx:XM []=[(aUx,3)]:=by
 have:hH []=([],3):=rfl;unfold XM;rw[this];rfl
theorem aV1 {s:List UInt8} {r:Int}:∀(f:Nat) (a:Int) (acc:List Prt),0<=a->a<=8*(s.length:Int)->96*((KQ s r f a acc).1.length:Int)+a<=96*(acc.length:Int)+8*(s.length:Int)
 |0,a,acc,_,h=>by show 96*(acc.length:Int)+a<=_;omega
 |f+1,a,acc,h0,h=>by
  unfold KQ;split
  ·show 96*(acc.length:Int)+a<=_;omega
  split
  ·show 96*(acc.length:Int)+a<=_;omega
  split
  ·show 96*(acc.length:Int)+a<=_;omega
  split
  ·show 96*(acc.length:Int)+a<=_;omega
  ·next q=>
   have hk:=YK (dK.1 q);have ih:=aV1 (s:=s) (r:=r) f (cL s a r).2.2.1 (acc++[⟨(cL s a r).1,(cL s a r).2.1,a,(cL s a r).2.2.1,r⟩]) (by omega) hk.2.2.2.2.2.2.2.1;rw[aL,fK] at ih;push_cast at ih;omega
theorem aV2 {s:List UInt8} {r:Int}:∀(f:Nat) (a:Int) (acc:List Prt),0<=a->(KQ s r f a acc).2.2=0->(KQ s r f a acc).2.1%8=0
 |0,_,_,_,h=>absurd h (by show(2:Int)≠0;decide)
 |f+1,a,acc,h0,h=>by
  unfold KQ at h ⊢
  by_cases q1:aO s.length a 48≠0
  ·rw[if_pos q1] at h;exact absurd h q1
  rw[if_neg q1] at h ⊢
  by_cases q2:aE s a 48=0x177245385090
  ·rw[if_pos q2] at h ⊢;unfold aUm at h ⊢
   by_cases r1:aO s.length (a+48) 32≠0
   ·rw[if_pos r1] at h;exact absurd h r1
   rw[if_neg r1] at h ⊢
   by_cases r2:aE s (a+48) 32≠(aU9 acc).toNat
   ·rw[if_pos r2] at h;exact absurd h (by show(7:Int)≠0;decide)
   rw[if_neg r2] at h ⊢
   by_cases r3:aE s (a+80) (aUr (a+80).toNat)≠0
   ·rw[if_pos r3] at h;exact absurd h (by show(3:Int)≠0;decide)
   rw[if_neg r3];have:=aWq (a+80).toNat;show(a+80+(aUr (a+80).toNat:Int))%8=0;omega
  rw[if_neg q2] at h ⊢
  by_cases q3:aE s a 48≠0x314159265359
  ·rw[if_pos q3] at h;exact absurd h (by show(3:Int)≠0;decide)
  rw[if_neg q3] at h ⊢
  by_cases q4:(cL s a r).2.2.2≠0
  ·rw[if_pos q4] at h;exact absurd h q4
  rw[if_neg q4] at h ⊢;have hk:=YK (dK.1 q4);exact aV2 f _ _ (by omega) h
theorem aWy {s:List UInt8} {a:Int} (h0:0<=a) (h:(hG s a).2.2=0):(hG s a).2.1%8=0:=by
 unfold hG at h ⊢
 by_cases q:(QU s (a/8).toNat).2≠0
 ·rw[if_pos q] at h;exact absurd h q
 rw[if_neg q] at h ⊢;exact aV2 _ _ _ (by omega) h
theorem aWz {s:List UInt8} {pre r:List (Prt×Int)} {x:Prt×Int} (h:XM s=pre++x::r) (hx:x.2≠0):x=(aUx,(hH s).2)/\(hH s).2≠0:=by
 have hm:x∈XM s:=by rw[h];simp
 unfold XM at hm;rcases cU.1 hm with hm|hm
 ·obtain⟨p,_,rfl⟩:=dU.1 hm;exact absurd rfl hx
 ·by_cases q:(hH s).2=0
  ·rw[if_pos q] at hm;simp at hm
  ·rw[if_neg q] at hm;exact⟨by simpa using hm,q⟩
theorem aW0 {s:List UInt8} (h:∀x∈XM s,x.2=0):(hH s).2=0/\XM s=okP (hH s).1:=by
 by_cases q:(hH s).2=0
 ·exact⟨q,by unfold XM;rw[if_pos q,eE]⟩
 ·exfalso;refine q (h (aUx,(hH s).2) ?_);unfold XM;rw[if_neg q];simp
theorem aV5 {s:List UInt8} {r:Int}:∀(f:Nat) (a:Int) (acc:List Prt),(KQ s r f a acc).2.2=0->96*((KQ s r f a acc).1.length:Int)+a+80<=96*(acc.length:Int)+(KQ s r f a acc).2.1
 |0,_,_,h=>absurd h (by show(2:Int)≠0;decide)
 |f+1,a,acc,h=>by
  have hok:=aVh (s:=s) (r:=r) (f+1) a acc h;unfold KQ at h hok ⊢
  by_cases q1:aO s.length a 48≠0
  ·rw[if_pos q1] at h;exact absurd h q1
  rw[if_neg q1] at h hok ⊢
  by_cases q2:aE s a 48=0x177245385090
  ·rw[if_pos q2] at h hok ⊢;show 96*(acc.length:Int)+a+80<=96*(acc.length:Int)+(aUm s a (aU9 acc)).1;have:a+80<=(aUm s a (aU9 acc)).1:=hok.1;omega
  rw[if_neg q2] at h hok ⊢
  by_cases q3:aE s a 48≠0x314159265359
  ·rw[if_pos q3] at h;exact absurd h (by show(3:Int)≠0;decide)
  rw[if_neg q3] at h hok ⊢
  by_cases q4:(cL s a r).2.2.2≠0
  ·rw[if_pos q4] at h;exact absurd h q4
  rw[if_neg q4] at h hok ⊢;have hk:=YK (dK.1 q4);have ih:=aV5 f _ _ h;rw[aL,fK] at ih;push_cast at ih;omega
theorem aXn {s:List UInt8} {a:Int} (_h0:0<=a) (h:(hG s a).2.2=0):96*((hG s a).1.length:Int)+a<=(hG s a).2.1:=by
 unfold hG at h ⊢
 by_cases q:(QU s (a/8).toNat).2≠0
 ·rw[if_pos q] at h;exact absurd h q
 rw[if_neg q] at h ⊢;have:=aV5 _ _ _ h;simp only[cX] at this;omega
theorem aXo {s:List UInt8} {a:Int} (h0:0<=a) (h:a<=8*(s.length:Int)):96*((hG s a).1.length:Int)+a<=8*(s.length:Int)+32:=by
 unfold hG;split
 ·show 96*(([]:List Prt).length:Int)+a<=_;simp only[cX];omega
 ·next q=>
  by_cases k:a+32<=8*(s.length:Int)
  ·have:=aV1 (s:=s) (r:=(QU s (a/8).toNat).1) (8*s.length+1) (a+32) [] (by omega) k;simp only[cX] at this;omega
  ·have:(KQ s (QU s (a/8).toNat).1 (8*s.length+1) (a+32) []).1=[]:=by
    unfold KQ;have hg:aO s.length (a+32) 48≠0:=by unfold aO;rw[if_neg (by omega),if_pos (by omega)];decide
    rw[if_pos hg]
   rw[this];simp only[cX];omega
theorem aV6 {s:List UInt8}:∀(f:Nat) (a:Int) (acc:List Prt),0<=a->a<=8*(s.length:Int)->96*((aUg s f a acc).1.length:Int)+a<=96*(acc.length:Int)+8*(s.length:Int)+32
 |0,a,acc,_,h=>by show 96*(acc.length:Int)+a<=_;omega
 |f+1,a,acc,h0,h=>by
  unfold aUg;have hd:=aXo (s:=s) h0 h;split
  ·show 96*(acc.length:Int)+a<=_;omega
  split
  ·show 96*((acc++(hG s a).1).length:Int)+a<=_;rw[aL];push_cast;omega
  ·next q=>
   have hk:=aVi (dK.1 q);have hp:=aXn (s:=s) (a:=a) h0 (dK.1 q);have ih:=aV6 (s:=s) f (hG s a).2.1 (acc++(hG s a).1) (by omega) hk.2;rw[aL] at ih;push_cast at ih;omega
theorem aV7 (s:ByteArray) {T:List (Prt×Int)} (h:T=XM s.data.toList):T.length<=8*s.size+2:=by
 have hl:s.data.toList.length=s.size:=by simp
 have:((hH s.data.toList).1.length:Int)*96<=8*(s.size:Int)+32:=by
  unfold hH;split
  ·simp;omega
  ·have:=aV6 (s:=s.data.toList) (8*s.data.toList.length+1) 0 [] (by decide) (by omega);simp only[cX] at this;rw[hl] at this ⊢;omega
 rw[h];unfold XM okP;rw[aL,bJ];split<;>simp<;>omega
end
end Go.Proofs.YtmcogmmncfihhaaGreatDoor
