/-
  Texts put together (part 16): the walks and the plain laws on which the statement stands.
-/
import Derived.Test.YtfplbbphficcjaaGreatDoorZ10
import Derived.Test.YtfplbbphficcjaaGreatDoorZ12
set_option maxRecDepth 100000
set_option maxHeartbeats 12800000
set_option linter.unusedVariables false
set_option linter.unusedSimpArgs false
open Go.Proofs.Tryz
open Go.Proofs.Tryz renaming prog->pG
open Bool renaming or_eq_false_iff->DL
open Go renaming bodyPost_ret->fM,wpAnyH_done->nY,wp_region_held_drew->rF
open Go.Act renaming put->bJ
open Go.IntKind renaming i64->aJ,wrap_i64->aM
open Go.Lib renaming toList_data->pY
open Go.RowKit.Below renaming refl->aH
open Go.World renaming size_alloc->fP
open List renaming getElem?_cons_succ->gH,getElem?_cons_zero->gB,getElem?_toArray->gA,length_cons->aU,length_nil->aV,mem_append->dK,mem_of_getElem?->cN,setIfInBounds_toArray->bK,set_cons_succ->bB,set_cons_zero->bH,size_toArray->dB,take_add_one->cG
open Nat renaming add_sub_cancel->oR,le_refl->aD,lt_of_lt_of_le->fB,lt_trans->IL,reduceAdd->cV,reduceSub->dC,zero_le->aO
open Option.some renaming inj->cC
open Or renaming inl->gJ,inr->gI
namespace Go.Proofs.YtfplbbphficcjaaGreatDoor
section
open Go.RowKit
theorem aQl (w:World):
  Calls pG 59 #[.string dN] w fun e w'=>e=.returned (.tuple #[.agg #[.string dN,.int .i64 0,.slice none 0 0],.int .i64 1])/\Below w.heap.size w w':=by
 unfold dN;have d:=Arr.new w 107 [.string {data:=#[]},.int .i64 0,.slice none 0 0];have h:=d.cell (i:=0) rfl;have A:=d.cell (i:=1) rfl;have D:=d.cell (i:=2) rfl;have F:=d.free;go_enter func59,ntmps59;go_wp2_with fail;exact fM (EB rfl _ _ w.heap.size _ _ (0,0) _ rfl d underlying107 rfl JX) rfl ⟨rfl,(aH _ _).alloc (aD _) _⟩
theorem aQm (s:ByteArray) (w:World) (h0:0<s.size) (hs:s.size<=65536):
  Calls pG 59 #[.string s] w fun e w'=>∃o v,Ord (cQ s) s.size s.size o/\e=.returned (.tuple #[.agg #[.string (mkS (bY s.data.toList)),.int .i64 ((gX o s.size:Nat):Int),v],.int .i64 0])/\OwI w' w.heap.size v (rN s o)/\Below w.heap.size w w':=by
 have t0:=xK h0;have t1:decide ((65536:Int)<(s.size:Int))=false:=aE (by omega);have t2:decide (65536<s.size)=false:=aE (by omega);go_enter func59,ntmps59;go_wp2_with fail;refine(PX s _ (by omega)).mono ?_;rintro e w1 ⟨rfl,Y⟩;have b2:=Y.size;simp only[fP] at b2;obtain⟨A,d⟩:∃A,A=mkS (bY s.data.toList):=⟨_,rfl⟩;rw[<-d];have b3:=hid d;clear d;go_wp2_with fail;refine(aQa s _ (by omega) (fun w=>aQk s w (by omega))).mono ?_;rintro e w2 ⟨o,Z,rfl,a0⟩;have c8:=a0.size;obtain⟨n,H⟩:∃n,n=gX o s.size:=⟨_,rfl⟩
 have b4:=aAr o s.size;rw[<-H] at b4 ⊢;have HN:=hid H;clear H;obtain⟨L,F⟩:∃L,L=mkS (eM s o s.size):=⟨_,rfl⟩;have d:=b3.out;have I:L.data.toList=eM s o s.size:=by rw[F];rfl
 have G:A.data.toList=bY s.data.toList:=by rw[d];rfl
 have a1:L.size=s.size:=by rw[F,cS,xJ]
 have c9:A.size<=256:=by rw[d,cS];exact vX _
 have a2:A.data.toList.Nodup:=by rw[G];exact JE _
 have J:∀b∈L.data.toList,b∈A.data.toList:=fun b hb=>by
  rw[G,DS];rw[I] at hb;exact(QK s Z).mem_iff.1 hb
 have b5:(dL A.data.toList L.data.toList).length=s.size:=by rw[vQ];simp[a1]
 have O:∀x∈dL A.data.toList L.data.toList,0<=x/\x<=1000000:=fun x hx=>by
  have:=BH L.data.toList A.data.toList J x hx;have hl:A.data.toList.length=A.size:=by simp
  omega
 have a3:rN s o=dM 0 (dL A.data.toList L.data.toList)++[(A.size:Int)+1]:=by
  unfold rN;rw[<-G,<-I];simp
 have a4:=hid a3;have HA:=hid d;rw[<-F];have a5:∀W,Calls pG 76 #[.string A,.string L] W fun e w'=>∃v,e=.returned (.tuple #[v,.int .i64 0])/\OwI w' W.heap.size v (dL A.data.toList L.data.toList)/\Below W.heap.size W w':=fun W=>aAw A L W (by omega) (by omega) a2 J
 have a7:=hid a5;obtain⟨M,hM⟩:∃M,M=dL A.data.toList L.data.toList:=⟨_,rfl⟩;rw[<-hM] at b5 O a4 a7;have b6:=hid O;clear a5 a2 J F d I G a1 hM O a3;go_wp2_with fail;refine(a7.out w2).mono ?_;rintro e T ⟨v3,rfl,b7,a8⟩;have d0:=a8.size;go_wp2_with fail;refine(aP8 v3 M T b7.rd (by omega) (by omega) b6.out).mono ?_;rintro e U ⟨v4,rfl,b8,a9⟩;have d1:=a9.size;have b9:=Arr.new w 107 [.string {data:=#[]},.int .i64 0,.slice none 0 0];have c0:=hid (PM M 0);have e1:aJ.wrap ((A.size:Int)+1)=(A.size:Int)+1:=by rw[aM];omega
 have c1:w.heap.size+1<=U.heap.size:=by omega
 have c2:w.heap.size+1<=T.heap.size:=by omega
 have c3:Below (w.heap.size+1) (w.alloc (.cells #[.string {data:=#[]},.int .i64 0,.slice none 0 0] 107)) U:=(((Y.mono (by simp)).trans (a0.mono (by omega))).trans (a8.mono (by omega))).trans (a9.mono (by omega))
 go_wp2_with (at_builtin;(refine gK rfl _ _ rfl T.heap.size _ _ rfl (b8.alloc _) U.heap.size ((A.size:Int)+1) rfl ?_ ?_ ?_ ?_;(exact bX _ _ _);(have:=c0.out.1;omega);(simp;omega);intro h w6 V b0 _;obtain⟨a6,c6,e6,_,_,_⟩:=V.rd.open;subst e6;have c4:=b0.size;simp only[fP] at c4;have b1:=(c3.alloc c1 _).trans (b0.mono c2);have D:=b9.below b1 (by omega);have p1:=D.cell (i:=0) rfl;have p2:=D.cell (i:=1) rfl;have p3:=D.cell (i:=2) rfl;have p4:=D.free));rw[show(dM 0 M++[(A.size:Int)+1]).length=(dM 0 M).length+1 by simp] at V
 generalize hv:Value.slice a6 ((dM 0 M).length+1) c6=h at*
 have hF:Arr (((w6.setCell ⟨w.heap.size,0,none⟩ (.string A)).setCell ⟨w.heap.size,1,none⟩ (.int .i64 (n:Int))).setCell ⟨w.heap.size,2,none⟩ h) w.heap.size 107 [.string A,.int .i64 (n:Int),h]:=((D.set 0 _).set 1 _).set 2 _;have c5:=V.kept (qS (qS (qS (EA _ (some w.heap.size)) 0 (.string A)) 1 (.int .i64 (n:Int))) 2 h) (fun b e=>by simp at e;omega)
 have c7:=(((((aH w.heap.size w).alloc (aD _) _).trans (b1.mono (by omega))).setCell (p:=⟨w.heap.size,0,none⟩) (aD _) (.string A)).setCell (p:=⟨w.heap.size,1,none⟩) (aD _) (.int .i64 (n:Int))).setCell (p:=⟨w.heap.size,2,none⟩) (aD _) h;refine fM (EB rfl _ _ w.heap.size _ _ (0,0) _ rfl hF underlying107 rfl JX) rfl ⟨o,h,Z,?_,?_,c7⟩
 ·rw[<-HA.out,<-HN.out];rfl
 ·rw[a4.out];exact c5.base (by omega)
theorem aA3 (a:ByteArray) (o:Int) (y:Value) (A:y.oneCell'=true) (w:World) (D:a.size<=140737488355328):
  Calls pG 141 #[.agg #[.string a,.int .i64 o,y]] w fun e w'=>e=.returned (.int .i64 ((a.size:Int)+2))/\Below w.heap.size w w':=by
 have G:aJ.wrap ((a.size:Int)+1+1)=(a.size:Int)+2:=by rw[aM];omega
 have d:=Arr.new w 107 [.string a,.int .i64 o,y];have H:=d.cell (i:=0) rfl;have I:=d.cell (i:=1) rfl;have J:=d.cell (i:=2) rfl;have h:=(aH w.heap.size w).alloc (aD _) (.cells #[.string a,.int .i64 o,y] 107);go_enter func141,ntmps141;go_wp2_with fail;refine(BQ a o y A _ D).mono ?_;rintro e L ⟨rfl,F⟩;go_wp2_with fail;go_ret;exact⟨rfl,h.trans (F.mono h.size)⟩
theorem aQn (a:ByteArray) (o:Int) (y:Value) (_hy:y.oneCell'=true) (w:World) (d:a.size<=140737488355328):
  Calls pG 61 #[.agg #[.string a,.int .i64 o,y]] w fun e w'=>e=.returned (.int .i64 ((a.size:Int)+2))/\Below w.heap.size w w':=by
 have h:aJ.wrap ((a.size:Int)+2)=(a.size:Int)+2:=by rw[aM];omega
 go_enter func61,ntmps61;go_wp2_with fail;go_ret;exact⟨rfl,(aH _ _).alloc (aD _) _⟩
theorem aA4 {a b:ByteArray} (h:a≠b):(a.toList==b.toList)=false:=by
 rw[pY,pY,<-Bool.not_eq_true,beq_iff_eq]
 grind [qB]
def jU (l:List Int) (e:Int):Prop:=0<l.length/\l[l.length-1]? =some e/\∀x∈l.take (l.length-1),0<=x/\x<e
instance (l:List Int) (e:Int):Decidable (jU l e):=inferInstanceAs (Decidable (0<l.length/\l[l.length-1]? =some e/\∀x∈l.take (l.length-1),0<=x/\x<e))
theorem aQo (v:Value) (l:List Int) (e:Int) (w:World) (hr:RdI w v l):
  Calls pG 113 #[v,.int .i64 e] w fun e' w'=>e'=.returned (.bool (decide (jU l e)))/\w'=w:=by
 obtain⟨ad,ca,rfl,M,a1,O⟩:=hr.open;unfold maxLen at a1;go_enter func113,ntmps113
 by_cases h0:l.length=0
 ·have d:decide (jU l e)=false:=aE (fun h=>by have:=h.1;omega);have t1:decide (l.length=0)=true:=aG h0;go_wp2_with fail;go_ret
  first|exact⟨sJ d.symm,rfl⟩|exact⟨rfl,rfl⟩
 ·have T:0<l.length:=by omega
  obtain⟨b0,o0,rfl,a4,F⟩:=O T;obtain⟨m,G⟩:∃m,l.length=m+1:=⟨l.length-1,by omega⟩;obtain⟨y,H⟩:=eG (show m<l.length by omega);have c1:=F m y H;rw[G] at M ⊢;have e1:aJ.wrap (((m+1:Nat):Int)-1)=(m:Int):=by rw[aM];omega
  have e2:(m:Int)<((m+1:Nat):Int):=by omega
  have e4:m+1<=ca:=M;have A:=hid G;have HC:=hid F;have U:=hid H;clear G F O H;have f1:((m:Int)+1==0)=false:=by rw[cB];omega
  have f3:((m:Int)+1=0)=False:=eq_false (by omega)
  by_cases I:y=e
  ·subst I;have f2:(y != y)=false:=by simp
   go_wp2_with fail
   go_loopg [6] m (fun gh s6 wq=>∃k:Nat,k<=m/\gh=m-k/\s6=.int .i64 (k:Int)/\wq=w/\∀x∈l.take k,0<=x/\x<y)
   case atStart=>exact⟨0,aO _,rfl,rfl,rfl,by simp⟩
   case round=>
   obtain⟨k,hk,J,rfl,rfl,V⟩:=hrel;have HG:=hid J;have Y:=hid V;clear J V
   by_cases a2:k<m
   ·have q1:(k:Int)+1<(m:Int)+1:=by omega
    have q2:k<m+1:=by omega
    obtain⟨x,L⟩:=eG (show k<l.length by rw[A.out];exact q2);have c2:=HC.out k x L;have Z:=hid L;clear L
    by_cases hb:0<=x/\x<y
    ·have r1:decide (x<0)=false:=aE (by omega);have r2:decide (y<=x)=false:=aE (by omega);go_wp2_with fail;have J:=HG.out
     go_roundg (m-(k+1))
     case measure=>omega
     case rel=>
      refine⟨k+1,by omega,rfl,by go_num,rfl,fun z D=>?_⟩;rw[cG,Z.out,Option.toList_some,dK,List.mem_singleton] at D;rcases D with D|rfl
      ·exact Y.out z D
      ·exact hb
    ·have d:decide (jU l y)=false:=aE (fun h=>by
      refine hb (h.2.2 x ?_);rw[A.out,oR];refine cN (i:=k) ?_;rw[List.getElem?_take_of_lt a2];exact Z.out)
     by_cases a0:x<0
     ·have r1:decide (x<0)=true:=aG a0;go_wp2_with fail;go_ret
      first|exact⟨sJ d.symm,rfl⟩|exact⟨rfl,rfl⟩
     ·have r1:decide (x<0)=false:=aE a0;have r2:decide (y<=x)=true:=aG (by omega);go_wp2_with fail;go_ret
      first|exact⟨sJ d.symm,rfl⟩|exact⟨rfl,rfl⟩
   ·have a3:k=m:=by omega
    have d:decide (jU l y)=true:=aG ⟨T,by rw[A.out,oR];exact U.out,by rw[A.out,oR,<-a3];exact Y.out⟩;have HN:=hid d;clear d;go_wp2_with fail;go_ret;exact⟨sJ HN.out.symm,rfl⟩
  ·have d:decide (jU l e)=false:=aE (fun h=>by
    have:=h.2.1;rw[A.out,oR,U.out] at this;exact I (cC this))
   have f2:(y != e)=true:=by simp[I]
   go_wp2_with fail;go_ret
   first|exact⟨sJ d.symm,rfl⟩|exact⟨rfl,rfl⟩
def dD (l:List Int):List Int:=dT (l.take (l.length-1))
def rest (a:ByteArray) (o:Int) (l:List Int) (most:Int):ByteArray×Int:=
 if ¬(a.data.toList≠[]/\bY a.data.toList=a.data.toList) then(dN,1)
 else if ¬jU l ((a.size:Int)+1) then(dN,3)
 else if ¬((dD l).length:Int)<=most then(dN,4)
 else if ¬(0<=o/\o<((dD l).length:Int)) then(dN,3)
 else(mkS (qR (unL a.data.toList (dD l)) o.toNat),0)
theorem KB {a:ByteArray} {o:Int} {l:List Int} {most:Int} (h:¬(a.data.toList≠[]/\bY a.data.toList=a.data.toList)):rest a o l most=(dN,1):=aB h
theorem QQ {a:ByteArray} {o:Int} {l:List Int} {most:Int} (h:a.data.toList≠[]/\bY a.data.toList=a.data.toList) (d:¬jU l ((a.size:Int)+1)):rest a o l most=(dN,3):=by grind [rest,bY,jU,dN]
theorem KC {a:ByteArray} {o:Int} {l:List Int} {most:Int} (h:a.data.toList≠[]/\bY a.data.toList=a.data.toList) (d:jU l ((a.size:Int)+1)) (e:¬((dD l).length:Int)<=most):rest a o l most=(dN,4):=by grind [rest,bY,jU,dD,dN]
theorem KD {a:ByteArray} {o:Int} {l:List Int} {most:Int} (h:a.data.toList≠[]/\bY a.data.toList=a.data.toList) (d:jU l ((a.size:Int)+1)) (e:((dD l).length:Int)<=most) (A:¬(0<=o/\o<((dD l).length:Int))):rest a o l most=(dN,3):=by grind [rest,bY,jU,dD,dN]
theorem KE {a:ByteArray} {o:Int} {l:List Int} {most:Int} (h:a.data.toList≠[]/\bY a.data.toList=a.data.toList) (d:jU l ((a.size:Int)+1)) (e:((dD l).length:Int)<=most) (A:0<=o/\o<((dD l).length:Int)):rest a o l most=(mkS (qR (unL a.data.toList (dD l)) o.toNat),0):=by grind [rest,bY,jU,dD,mkS,qR,unL]
theorem aQv:∀(m:List Int) (n p:Nat),∀y∈zx n p m,y=0\/∃x∈m,2<=x/\y=x-1:=by
 intro m
 induction m with
 |nil=>intro n p y d;exact .inl (List.eq_of_mem_replicate d)
 |cons x m e=>
  intro n p y d;unfold zx at d
  by_cases h:x<2
  ·grind
  ·grind
theorem QS {l:List Int} {n:Nat} (h:jU l ((n:Int)+1)) (e:0<n):∀y∈dD l,0<=y/\y<(n:Int):=fun y d=>by
 rcases aQv _ _ _ y d with q|⟨x,A,D,q⟩
 ·omega
 grind [jU,dD]
theorem aA7 {w:World} {d:Option Addr} {n A:Nat} {l:List Int} (h:RdI w (.slice d n A) l) (D:0<l.length):∃b off,d=some ⟨b,off,none⟩/\b<w.heap.size/\∀j x,l[j]? =some x->w.cell? ⟨b,off+j,none⟩=some (.int .i64 x):=by
 obtain⟨a,c,e,_,_,F⟩:=h.open
 grind
theorem KF {w:World} {b off d:Nat} {l:List Int} (h:b<w.heap.size) (D:∀j x,l[j]? =some x->w.cell? ⟨b,off+j,none⟩=some (.int .i64 x)) (k:Nat) (F:k<=l.length) (G:l.length<=d) (A:d<=maxLen):RdI w (.slice (some ⟨b,off,none⟩) k d) (l.take k):=by
 have e:(l.take k).length=k:=by grind
 refine⟨_,_,by rw[e],by rw[e];omega,A,.inr ⟨b,off,rfl,h,fun j H=>?_⟩⟩
 grind
theorem EI {s:ByteArray} (h:s.data.toList=[]):s.toList.isEmpty=true:=by
 rw[pY,h];rfl
theorem xM {s:ByteArray} (h:s.data.toList≠[]):s.toList.isEmpty=false:=by
 rw[pY]
 grind
theorem aQw (a:ByteArray) (o:Int) (v:Value) (l:List Int) (most:Int) (w:World) (ha:a.size<=140737488355328) (hr:RdI w v l) (hl:l.length<=200000) (d2: -9223372036854775808<=o) (d4:o<=9223372036854775807) (d5: -9223372036854775808<=most) (d6:most<=1000000):
  Calls pG 101 #[.agg #[.string a,.int .i64 o,v],.int .i64 most] w fun e w'=>e=.returned (.tuple #[.string (rest a o l most).1,.int .i64 (rest a o l most).2])/\Below w.heap.size w w':=by
 obtain⟨D,A,rfl,d7,b1,hA⟩:=hr.open;have d8:=b1;unfold maxLen at b1;have F:=Arr.new w 107 [.string a,.int .i64 o,.slice D l.length A];have c0:=F.cell (i:=0) rfl;have c1:=F.cell (i:=1) rfl;have c2:=F.cell (i:=2) rfl;have V:=(aH w.heap.size w).alloc (aD _) (.cells #[.string a,.int .i64 o,.slice D l.length A] 107);have d9:(w.alloc (.cells #[.string a,.int .i64 o,.slice D l.length A] 107)).heap.size=w.heap.size+1:=by simp
 have e0:=hr.below V
 by_cases Y:a.data.toList=[]
 ·have d:rest a o l most=(dN,1):=KB (fun h=>h.1 Y);rw[d];have t1:=EI Y;go_enter func101,ntmps101;go_wp2_with fail
  go_quiet (fail)
  go_wp2_with fail
  go_ret2
  exact⟨rfl,kY V _⟩
 have t1:=xM Y
 by_cases I:bY a.data.toList=a.data.toList
 ·have a3:=hid (And.intro Y I);have t2:((mkS (bY a.data.toList)).toList==a.toList)=true:=by rw[I,qB];simp
  have a4:a.data.toList.length=a.size:=by simp
  have f0:a.size<=256:=by rw[<-a4,<-I];exact vX _
  have e1:0<a.size:=by
   rw[<-a4];exact List.length_pos_iff.2 Y
  have e2:a.data.toList.Nodup:=by rw[<-I];exact JE _
  have f1:=hid a4;have b2:=hid I;clear a4 I;have q1:aJ.wrap ((a.size:Int)+1)=(a.size:Int)+1:=by rw[aM];omega
  go_enter func101,ntmps101;go_upto_region 1 with fail;change Arr (w.alloc (.cells #[.string a,.int .i64 o,.slice D l.length A] 107)) _ _ _ at F;generalize w.alloc (.cells #[.string a,.int .i64 o,.slice D l.length A] 107)=L at*
  go_cut [23] (fun a6 wx=>a6=.bool false/\Below w.heap.size w wx/\Arr wx w.heap.size 107 [.string a,.int .i64 o,.slice D l.length A])
  case first=>
   rw[b2.out] at t2
   go_region_with (go_at_call 74;refine(PX a _ ha).mono ?_;rintro e Z ⟨rfl,G⟩;rw[b2.out];have k0:Arr Z w.heap.size 107 [.string a,.int .i64 o,.slice D l.length A]:=by{first|exact Arr.below F G (by omega)|exact Arr.below (w:=L.drew) F G (by show w.heap.size<L.heap.size;omega)};have k1:=k0.cell (i:=0) rfl)
   all_goals go_wp2_with fail
   all_goals go_meet
   all_goals exact⟨rfl,V.trans (by first|exact G.mono (by omega)|exact(aH _ _).drew.trans (G.mono (by show w.heap.size<=L.heap.size;omega))),k0⟩
  case rest=>
   obtain⟨rfl,a0,a1⟩:=hcut;clear c0 c1 c2 F e0 V d9;have c0:=a1.cell (i:=0) rfl;have c1:=a1.cell (i:=1) rfl;have c2:=a1.cell (i:=2) rfl;have b3:=a1.lt;have b4:=hr.below a0;go_wp2_with fail;refine(aQo _ l ((a.size:Int)+1) _ b4).mono ?_;rintro e Z ⟨rfl,rfl⟩
   by_cases H:jU l ((a.size:Int)+1)
   ·rw[aG H];obtain⟨m,hm⟩:∃m,l.length=m+1:=⟨l.length-1,by have:=H.1;omega⟩;obtain⟨b0,o0,rfl,e3,b5⟩:=aA7 b4 (by omega);have b6:=QS H e1;have b7:=KF e3 b5 m (by omega) d7 d8;have b8:∀x∈l.take m,0<=x/\x<=1000000:=fun x hx=>by
     have:=H.2.2 x (by rw[hm,oR];exact hx);omega
    have b9:dD l=dT (l.take m):=by unfold dD;rw[hm,oR]
    have e4:(l.take m).length=m:=by rw[List.length_take];omega
    have hD:=aO3 _ (l.take m) most Z b7 (by omega) b8 d5 d6;have HD:=hid hD;have c3:=hid b6;have a7:=hid b9;have HM:=hid hm;have r1:aJ.wrap ((l.length:Int)-1)=(m:Int):=by rw[aM];omega
    have r2:m<=A:=by omega
    have r3:(m:Int)<=(A:Int):=by omega
    have r4:(0:Int)<=(m:Int):=by omega
    clear hD b6 b9 hm b7 b8 b5 hA e4;go_wp2_with fail;refine HD.out.mono ?_;rintro e w2 ⟨v2,rfl,T,a8⟩;have U:=a0.trans (a8.mono (by omega));have y1:=a1.below a8 b3;have d0:=y1.cell (i:=0) rfl;have d1:=y1.cell (i:=1) rfl
    by_cases J:((dD l).length:Int)<=most
    ·have a5:=BN (m:=l.take m) (by rw[<-a7.out];exact J);rw[a5.2];rw[a5.1,<-a7.out] at T;obtain⟨M,O⟩:∃M,M=dD l:=⟨_,rfl⟩;rw[<-O] at T c3
     by_cases hor:0<=o/\o<((dD l).length:Int)
     ·have d:=hid (KE a3.out H J hor);have e5:0<=o/\o<(M.length:Int):=by rw[O];exact hor
      have e6:M.length<=1000000:=by rw[O];omega
      have c4:=hid (aAx a v2 M w2 (by omega) e6 e2 T.rd c3.out);have a9:(unL a.data.toList M).length=M.length:=sL _ _;have c5:oU (unL a.data.toList M) o=qR (unL a.data.toList M) o.toNat:=by
       unfold oU;rw[aB (by unfold qD;rw[a9];simp;omega)]
      have e7:=hid c5;rw[<-O] at d;obtain⟨S,hS⟩:∃S,S=mkS (unL a.data.toList M):=⟨_,rfl⟩;have f2:S.size=M.length:=by rw[hS,cS,a9]
      rw[<-hS] at c4;have HS:=hid hS;clear hor J a5 O c5 a9 hS;obtain⟨a2,c6,rfl,_,_,_⟩:=T.rd.open;have s2:((M.length:Int)==0)=false:=by rw[cB];omega
      have s3:decide (o<0)=false:=aE (by omega);have s4:decide ((M.length:Int)<=o)=false:=aE (by omega);go_wp2_with fail;refine c4.out.mono ?_;rintro e w3 ⟨rfl,c7⟩;have c8:=U.trans (c7.mono U.size);have y3:=y1.below c7 (fB b3 a8.size);have d3:=y3.cell (i:=1) rfl;go_wp2_with fail;refine(aQu S o w3 (by omega) d2 d4).mono ?_;rintro e w4 ⟨rfl,e8⟩;go_wp2_with fail
      go_ret2
      refine⟨?_,c8.trans (e8.mono c8.size)⟩;rw[d.out,<-e7.out,HS.out];rfl
     ·have d:=hid (KD a3.out H J hor);have e5:¬(0<=o/\o<(M.length:Int)):=by rw[O];exact hor
      clear hor J a5 O;obtain⟨a2,c6,rfl,_,_,_⟩:=T.rd.open
      by_cases e9:M.length=0
      ·have s1:decide (M.length=0)=true:=aG e9;have s2:((M.length:Int)==0)=true:=by rw[beq_iff_eq];omega
       go_wp2_with fail
       go_ret2
       exact⟨by rw[d.out];rfl,U⟩
      ·have s2:((M.length:Int)==0)=false:=by rw[cB];omega
       by_cases ho:o<0
       ·have s3:decide (o<0)=true:=aG ho;go_wp2_with fail
        go_ret2
        exact⟨by rw[d.out];rfl,U⟩
       ·have s3:decide (o<0)=false:=aE ho;have s4:decide ((M.length:Int)<=o)=true:=aG (by omega);go_wp2_with fail
        go_ret2
        exact⟨by rw[d.out];rfl,U⟩
    ·have c9:=vW (m:=l.take m) (by rw[<-a7.out];exact J);have d:=hid (KC (o:=o) a3.out H J);rw[c9.2];clear c9 J;obtain⟨a2,c6,rfl,_,_,_⟩:=T.rd.open;go_wp2_with fail
     go_ret2
     exact⟨by rw[d.out];rfl,U⟩
   ·rw[aE H];have d:=QQ (o:=o) (most:=most) a3.out H;go_wp2_with fail
    go_ret2
    exact⟨by rw[d];rfl,a0⟩
 ·have d:rest a o l most=(dN,1):=KB (fun h=>I h.2);rw[d];have t2:((mkS (bY a.data.toList)).toList==a.toList)=false:=aA4 (fun e=>I (by have:=congrArg (fun s=>s.data.toList) e;simpa using this));go_enter func101,ntmps101;go_upto_region 1 with fail;change Arr (w.alloc (.cells #[.string a,.int .i64 o,.slice D l.length A] 107)) _ _ _ at F;generalize w.alloc (.cells #[.string a,.int .i64 o,.slice D l.length A] 107)=L at*
  go_cut [23] (fun a6 wx=>a6=.bool true/\Below w.heap.size w wx)
  case first=>
   go_region_with (go_at_call 74;refine(PX a _ ha).mono ?_;rintro e Z ⟨rfl,G⟩;have k0:Arr Z w.heap.size 107 [.string a,.int .i64 o,.slice D l.length A]:=by{first|exact Arr.below F G (by omega)|exact Arr.below (w:=L.drew) F G (by show w.heap.size<L.heap.size;omega)};have k1:=k0.cell (i:=0) rfl)
   all_goals go_wp2_with fail
   all_goals go_meet
   all_goals exact⟨rfl,V.trans (by first|exact G.mono (by omega)|exact(aH _ _).drew.trans (G.mono (by show w.heap.size<=L.heap.size;omega)))⟩
  case rest=>
   obtain⟨rfl,a0⟩:=hcut;go_wp2_with fail
   go_ret2
   exact⟨rfl,a0⟩
theorem aA8 {W w w':World} {d:Nat} {x:Value} (h:w.cell? ⟨d,0,none⟩=some x/\Below W.heap.size W w) (A:d<W.heap.size) (e:Below w.heap.size w w'):w'.cell? ⟨d,0,none⟩=some x/\Below W.heap.size W w':=
 ⟨by rw[e.cell (p:=⟨d,0,none⟩) (fB A h.2.size)];exact h.1,h.2.trans (e.mono h.2.size)⟩
theorem aA9 {w:World} {d:Nat} {x:Value} (h:w.cell? ⟨d,0,none⟩=some x):w.drew.cell? ⟨d,0,none⟩=some x/\Below w.heap.size w w.drew:=⟨h,(aH _ _).drew⟩
theorem aQx (d:Nat) (a:ByteArray) (o most:Int) (v T:Value) (b:ByteArray) (w:World) (J:a.size<=140737488355328) (L:Arr w d 227 [.string a,.int .i64 o,v,.int .i64 most,T,.string b]):
  Calls pG 153 #[.pointer (some ⟨d,0,none⟩)] w fun e w'=>e=.returned (.int .i64 (if a.data.toList≠[]/\bY a.data.toList=a.data.toList then 0 else 1))/\Below w.heap.size w w':=by
 have M:=L.cell (i:=0) rfl;have O:=L.lt
 by_cases F:a.data.toList=[]
 ·have U:=EI F;rw[aA (fun h=>h.1 F)];go_enter func153,ntmps153;go_wp2_with fail
  go_quiet (fail)
  go_wp2_with fail;go_ret;exact⟨rfl,kY (aH _ _) _⟩
 have U:=xM F
 by_cases A:bY a.data.toList=a.data.toList
 ·rw[aB ⟨F,A⟩];have V:(a.toList==a.toList)=true:=by simp
  have Y:=hid A;clear A;go_enter func153,ntmps153;go_upto_region 1 with fail
  go_cut [22] (fun G H=>G=.bool false/\Below w.heap.size w H)
  case first=>
   go_region_held3 (fun w'=>w'.cell? ⟨d,0,none⟩=some (.string a)/\Below w.heap.size w w')
    (first
     |with_reducible assumption
     |with_reducible exact aA9 M
     |with_reducible exact aA8 (by assumption) O (by assumption))
    (first
     |(go_at_call 177;refine(PV a _ J).mono ?_;rintro e D ⟨rfl,Z⟩;rw[Y.out,qB]))
   all_goals go_wp2_with fail
   all_goals go_meet
   all_goals exact⟨rfl,And.right (show D.cell? ⟨d,0,none⟩=some (.string a)/\Below w.heap.size w D by assumption)⟩
  case rest=>
   obtain⟨rfl,I⟩:=hcut;go_wp2_with fail;go_ret;exact⟨rfl,I⟩
 ·rw[aA (fun h=>A h.2)];have V:((mkS (bY a.data.toList)).toList==a.toList)=false:=aA4 (fun e=>A (by have:=congrArg (fun s=>s.data.toList) e;simpa using this));go_enter func153,ntmps153;go_upto_region 1 with fail
  go_cut [22] (fun G H=>G=.bool true/\Below w.heap.size w H)
  case first=>
   go_region_held3 (fun w'=>w'.cell? ⟨d,0,none⟩=some (.string a)/\Below w.heap.size w w')
    (first
     |with_reducible assumption
     |with_reducible exact aA9 M
     |with_reducible exact aA8 (by assumption) O (by assumption))
    (first
     |(go_at_call 177;refine(PV a _ J).mono ?_;rintro e D ⟨rfl,Z⟩))
   all_goals go_wp2_with fail
   all_goals go_meet
   all_goals exact⟨rfl,And.right (show D.cell? ⟨d,0,none⟩=some (.string a)/\Below w.heap.size w D by assumption)⟩
  case rest=>
   obtain⟨rfl,I⟩:=hcut;go_wp2_with fail;go_ret;exact⟨rfl,I⟩
end
section
open Go.RowKit Go.Shelf
def KG (w0:World) (g:Nat) (d:Array Value) (p:Int->Bool) (l:List Int):Prop:=
 ∀W,Below w0.heap.size w0 W->∀x∈l,Calls pG g (#[Value.int .i64 x]++d) W fun e h=>e=.returned (.bool (p x))/\Below W.heap.size W h
theorem aQy (g:Nat) (H:Array Value) (p:Int->Bool) (v:Value) (l:List Int) (w:World) (I:RdI w v l) (h:Enters pG g) (J:KG w g H p l):
  Calls pG 191 #[v,.func (.func g) #[] H] w fun e w'=>e=.returned (.int .i64 (iR p l))/\Below w.heap.size w w':=by
 obtain⟨a,ca,rfl,a3,V,L⟩:=I.open;unfold maxLen at V;clear I;have Y:=hid J;have hE:∀args W,(callFunc g args).run pG W=.ok (.enter g args) W:=h;clear J h;go_enter func191,ntmps191;go_wp2_with fail
 go_loopg [8] l.length (fun Z s8 wr=>∃k:Nat,k<=l.length/\Z=l.length-k/\s8=.int .i64 k/\Hid (∀x∈l.take k,p x=false)/\Below w.heap.size w wr)
 case atStart=>exact⟨0,aO _,rfl,rfl,hid (fun x A=>by simp at A),aH _ _⟩
 case round=>
  obtain⟨k,hk,h,rfl,HT,D⟩:=hrel;have HG:=hid h;clear h
  by_cases F:k<l.length
  ·obtain⟨b1,o1,rfl,a0,M⟩:=L (by omega);obtain⟨x,A⟩:=eG F;have c1:=(D.cell (p:=⟨b1,o1+k,none⟩) a0).trans (M k x A);have a1:x∈l:=cN A;have O:=hid A;have hP:=Y.out _ D x a1;clear M A L;go_wp2_with fail;refine hP.mono ?_;rintro e w1 ⟨rfl,a2⟩;have T:=D.trans (a2.mono D.size)
   by_cases G:p x=true
   ·rw[G];go_wp2_with fail;go_ret;refine⟨eI ?_,T⟩;rw[JD HT.out F (by have:=O.out;rw[List.getElem?_eq_getElem F] at this;rw[cC this];exact G)]
   ·have U:p x=false:=by simpa using G
    rw[U];go_wp2_with fail;have h:=HG.out
    go_roundg (l.length-(k+1))
    case measure=>omega
    case rel=>
     refine⟨k+1,by omega,rfl,by go_num,hid (fun y d=>?_),T⟩;rw[cG,O.out] at d;rcases dK.1 d with d|d
     ·exact HT.out y d
     ·simp at d;rw[d];exact U
  ·go_wp2_with fail;go_ret;exact⟨eI (by rw[sK];have:=HT.out;rwa[List.take_of_length_le (by omega)] at this),D⟩
theorem aBa (g:Nat) (d:Array Value) (p:Int->Bool) (v:Value) (l:List Int) (w:World) (h:RdI w v l) (A:Enters pG g) (D:KG w g d p l):
  Calls pG 178 #[v,.func (.func g) #[] d] w fun e w'=>e=.returned (.bool (decide (0<=iR p l)))/\Below w.heap.size w w':=by
 have F:=hid (aQy g d p v l w h A D);obtain⟨i,G⟩:∃i,i=iR p l:=⟨_,rfl⟩;rw[<-G] at F ⊢;clear h A D G;go_enter func178,ntmps178;go_wp2_with fail;refine F.out.mono ?_;rintro e I ⟨rfl,H⟩;go_wp2_with fail;go_ret;exact⟨rfl,H⟩
def pM (e:Int) (x:Int):Bool:=decide (x<0)||decide (e<=x)
theorem aBb (x:Int) (D F:Nat) (a:ByteArray) (o most:Int) (v H:Value) (b:ByteArray) (w:World) (I:a.size<=140737488355328) (J:v.oneCell'=true) (M:w.cell? ⟨D,0,none⟩=some (.pointer (some ⟨F,0,none⟩))) (h:Arr w F 227 [.string a,.int .i64 o,v,.int .i64 most,H,.string b]):
  Calls pG 179 #[.int .i64 x,.pointer (some ⟨D,0,none⟩)] w fun e w'=>e=.returned (.bool (pM ((a.size:Int)+1) x))/\Below w.heap.size w w':=by
 have O:=h.cell (i:=0) rfl;have T:=h.cell (i:=1) rfl;have U:=h.cell (i:=2) rfl
 by_cases G:x<0
 ·have A:decide (x<0)=true:=aG G;have d:pM ((a.size:Int)+1) x=true:=by unfold pM;rw[A];rfl
  rw[d];go_enter func179,ntmps179;go_wp2_with fail;go_ret;exact⟨rfl,aH _ _⟩
 ·have A:decide (x<0)=false:=aE G;have d:pM ((a.size:Int)+1) x=decide ((a.size:Int)+1<=x):=by unfold pM;rw[A];rfl
  rw[d];clear d;go_enter func179,ntmps179;go_wp2_with fail;refine(BQ a o v J _ I).mono ?_;rintro e V ⟨rfl,L⟩;go_wp2_with fail;go_ret;exact⟨rfl,L⟩
abbrev kM (W:World) (d:Nat) (a:ByteArray) (o:Int) (v:Value) (e q:Nat) (y:Int) (w':World):Prop:=
 w'.cell? ⟨W.heap.size,0,none⟩=some (.pointer (some ⟨d,0,none⟩))/\w'.cell? ⟨d,0,none⟩=some (.string a)/\w'.cell? ⟨d,1,none⟩=some (.int .i64 o)/\w'.cell? ⟨d,2,none⟩=some v/\w'.cell? ⟨e,q,none⟩=some (.int .i64 y)/\Below W.heap.size W w'/\W.heap.size<w'.heap.size
theorem kM.keep {W w w':World} {e:Nat} {a:ByteArray} {o:Int} {v:Value} {D q:Nat} {y:Int} (h:kM W e a o v D q y w) (F:e<W.heap.size) (H:D<W.heap.size) (d:Below w.heap.size w w'):kM W e a o v D q y w':=by
 obtain⟨I,J,L,M,O,G,A⟩:=h;refine⟨?_,?_,?_,?_,?_,G.trans (d.mono G.size),fB A d.size⟩
 ·rw[d.cell (p:=⟨W.heap.size,0,none⟩) A];exact I
 ·rw[d.cell (p:=⟨e,0,none⟩) (IL F A)];exact J
 ·rw[d.cell (p:=⟨e,1,none⟩) (IL F A)];exact L
 ·rw[d.cell (p:=⟨e,2,none⟩) (IL F A)];exact M
 ·rw[d.cell (p:=⟨D,q,none⟩) (IL H A)];exact O
theorem kM.drew {W w:World} {d:Nat} {a:ByteArray} {o:Int} {v:Value} {e q:Nat} {y:Int} (h:kM W d a o v e q y w):kM W d a o v e q y w.drew:=
 ⟨h.1,h.2.1,h.2.2.1,h.2.2.2.1,h.2.2.2.2.1,h.2.2.2.2.2.1.drew,h.2.2.2.2.2.2⟩
theorem aQz (d:Nat) (a:ByteArray) (o most:Int) (v V:Value) (l:List Int) (b:ByteArray) (w:World) (ha:a.size<=256) (L:Arr w d 227 [.string a,.int .i64 o,v,.int .i64 most,V,.string b]) (hr:RdI w v l) (a3:¬jU l ((a.size:Int)+1)):
  Calls pG 155 #[.pointer (some ⟨d,0,none⟩)] w fun e w'=>e=.returned (.int .i64 3)/\Below w.heap.size w w':=by
 obtain⟨ad,I,rfl,a4,Y,Z⟩:=hr.open;have a5:=Y;unfold maxLen at Y;have G:=L.lt;have c2:=L.cell (i:=2) rfl
 by_cases h0:l.length=0
 ·have t1:decide ((l.length:Int)-1<0)=true:=aG (by omega);have e1:aJ.wrap ((l.length:Int)-1)= -1:=by rw[aM];omega
  go_enter func155,ntmps155;go_wp2_with fail
  go_quiet (fail)
  go_wp2_with fail;go_ret;exact⟨rfl,kY ((aH _ _).alloc (aD _) _) _⟩
 ·obtain⟨m,hm⟩:∃m,l.length=m+1:=⟨l.length-1,by omega⟩;obtain⟨A,D,rfl,J,T⟩:=Z (by omega);obtain⟨y,U⟩:=eG (show m<l.length by omega);have cy:=T m y U;have r1:aJ.wrap ((l.length:Int)-1)=(m:Int):=by rw[aM];omega
  have r2:m<=I:=by omega
  have r3:(m:Int)<=(I:Int):=by omega
  have r4:(0:Int)<=(m:Int):=by omega
  have r5:m<l.length:=by omega
  have r6:(m:Int)<(l.length:Int):=by omega
  have r7:decide ((m:Int)<0)=false:=aE (by omega);have HM:=hid hm;have HC:=hid T;have HY:=hid U;have c0:=L.cell (i:=0) rfl;have c1:=L.cell (i:=1) rfl;have z0:kM w d a o (.slice (some ⟨A,D,none⟩) l.length I) A (D+m) y (w.alloc (.cells #[.pointer (some ⟨d,0,none⟩)] 230)):=by
   have M:Below w.heap.size w (w.alloc (.cells #[.pointer (some ⟨d,0,none⟩)] 230)):=(aH _ _).alloc (aD _) _;exact⟨bX _ _ _,by rw[M.cell (p:=⟨d,0,none⟩) G];exact c0,by rw[M.cell (p:=⟨d,1,none⟩) G];exact c1,by rw[M.cell (p:=⟨d,2,none⟩) G];exact c2,by rw[M.cell (p:=⟨A,D+m,none⟩) J];exact cy,M,by simp⟩
  clear hm T U Z
  by_cases a0:y=(a.size:Int)+1
  ·subst a0;have f2:(((a.size:Int)+1) != ((a.size:Int)+1))=false:=by simp
   have a1:decide (0<=iR (pM ((a.size:Int)+1)) (l.take m))=true:=by
    refine aG ?_;rcases Int.lt_or_le (iR (pM ((a.size:Int)+1)) (l.take m)) 0 with q|q
    ·exfalso;refine a3 ⟨by omega,by rw[HM.out,oR];exact HY.out,fun x hx=>?_⟩;rw[HM.out,oR] at hx;have:=(JC (pM ((a.size:Int)+1)) (l.take m)).2.2.1 q x hx;unfold pM at this;rw[DL,decide_eq_false_iff_not,decide_eq_false_iff_not] at this;omega
    ·exact q
   have a6:=hid (KF J HC.out m (by omega) a4 a5);have a2:∀W,kM w d a o (.slice (some ⟨A,D,none⟩) l.length I) A (D+m) ((a.size:Int)+1) W->KG W 179 #[.pointer (some ⟨w.heap.size,0,none⟩)] (pM ((a.size:Int)+1)) (l.take m):=fun W hW W' a7 x _=>by
    have hk:=kM.keep hW G J a7;exact aBb x w.heap.size d a o most _ V b W' (by omega) rfl hk.1 (L.below hk.2.2.2.2.2.1 G)
   have a8:=hid a2;have HF:=hid a1;clear a2 a1;go_enter func155,ntmps155;go_upto_region 2 with fail;generalize w.alloc (.cells #[.pointer (some ⟨d,0,none⟩)] 230)=wa at*
   refine rF (S:=(fun w'=>w'.cell? ⟨w.heap.size,0,none⟩=some (.pointer (some ⟨d,0,none⟩))/\w'.cell? ⟨d,0,none⟩=some (.string a)/\w'.cell? ⟨d,1,none⟩=some (.int .i64 o)/\w'.cell? ⟨d,2,none⟩=some (.slice (some ⟨A,D,none⟩) l.length I)/\w'.cell? ⟨A,D+m,none⟩=some (.int .i64 ((a.size:Int)+1))/\Below w.heap.size w w'/\w.heap.size<w'.heap.size)) (by kernel_rfl) (kM.drew z0) (fun a9=>?_)
   iterate 15
    refine fV 0 0 (by simp only[dB,aU,aV,cV,dC]<;>rfl) (by simp only[gA,gH,gB];rfl) (by kernel_rfl) (by exact fun _ _ _ h=>h) (by first|exact gI ⟨by rfl,rfl⟩|(refine gJ ⟨by rfl,?_⟩;intro w' F;(try dsimp only at F);(try go_simp);try with_reducible rfl)) (by assumption) ?_
    try simp only[bJ,bK,bH,bB]
   refine dJ (i:=15) (by kernel_rfl) rfl (fun K H=>?_);go_simp
   go_at_call 147
   refine(BQ a o _ rfl _ (by omega)).mono ?_;rintro e w' ⟨rfl,O⟩
   (try go_wp2_with fail)
   refine H.out _ _ (kM.keep (by assumption) G J O) (fun b1=>?_);clear H K
   try simp only[bJ,bK,bH,bB]
   iterate 11
    refine fV 0 0 (by simp only[dB,aU,aV,cV,dC]<;>rfl) (by simp only[gA,gH,gB];rfl) (by kernel_rfl) (by exact fun _ _ _ h=>h) (by first|exact gI ⟨by rfl,rfl⟩|(refine gJ ⟨by rfl,?_⟩;intro w' F;(try dsimp only at F);(try go_simp);try with_reducible rfl)) (by assumption) ?_
    try simp only[bJ,bK,bH,bB]
   refine dJ (i:=27) (by kernel_rfl) rfl (fun K H=>?_);go_simp
   go_at_call 178
   refine(aBa _ _ (pM ((a.size:Int)+1)) _ (l.take m) _ (a6.out.below (show kM w d a o _ A (D+m) _ _ by assumption).2.2.2.2.2.1) (enters_of func179 rfl rfl) (a8.out _ (by assumption))).mono ?_;rintro e w' ⟨rfl,O⟩;rw[HF.out]
   (try go_wp2_with fail)
   refine H.out _ _ (kM.keep (by assumption) G J O) (fun b2=>?_);clear H K
   try simp only[bJ,bK,bH,bB]
   refine fV 0 0 (by simp only[dB,aU,aV,cV,dC]<;>rfl) (by simp only[gA,gH,gB];rfl) (by kernel_rfl) (by exact fun _ _ _ h=>h) (by first|exact gI ⟨by rfl,rfl⟩|(refine gJ ⟨by rfl,?_⟩;intro w' F;(try dsimp only at F);(try go_simp);try with_reducible rfl)) (by assumption) ?_
   try simp only[bJ,bK,bH,bB]
   refine nY (by kernel_rfl) ?_ _;go_wp2_with fail;go_ret;exact⟨rfl,(show kM w d a o _ A (D+m) _ _ by assumption).2.2.2.2.2.1⟩
  ·have f2:(y != (a.size:Int)+1)=true:=by simp[a0]
   go_enter func155,ntmps155;go_upto_region 2 with fail;generalize w.alloc (.cells #[.pointer (some ⟨d,0,none⟩)] 230)=wa at*
   refine rF (S:=(fun w'=>w'.cell? ⟨w.heap.size,0,none⟩=some (.pointer (some ⟨d,0,none⟩))/\w'.cell? ⟨d,0,none⟩=some (.string a)/\w'.cell? ⟨d,1,none⟩=some (.int .i64 o)/\w'.cell? ⟨d,2,none⟩=some (.slice (some ⟨A,D,none⟩) l.length I)/\w'.cell? ⟨A,D+m,none⟩=some (.int .i64 y)/\Below w.heap.size w w'/\w.heap.size<w'.heap.size)) (by kernel_rfl) (kM.drew z0) (fun a9=>?_)
   iterate 15
    refine fV 0 0 (by simp only[dB,aU,aV,cV,dC]<;>rfl) (by simp only[gA,gH,gB];rfl) (by kernel_rfl) (by exact fun _ _ _ h=>h) (by first|exact gI ⟨by rfl,rfl⟩|(refine gJ ⟨by rfl,?_⟩;intro w' F;(try dsimp only at F);(try go_simp);try with_reducible rfl)) (by assumption) ?_
    try simp only[bJ,bK,bH,bB]
   refine dJ (i:=15) (by kernel_rfl) rfl (fun K H=>?_);go_simp
   go_at_call 147
   refine(BQ a o _ rfl _ (by omega)).mono ?_;rintro e w' ⟨rfl,O⟩
   (try go_wp2_with fail)
   refine H.out _ _ (kM.keep (by assumption) G J O) (fun b1=>?_);clear H K
   try simp only[bJ,bK,bH,bB]
   iterate 13
    refine fV 0 0 (by simp only[dB,aU,aV,cV,dC]<;>rfl) (by simp only[gA,gH,gB];rfl) (by kernel_rfl) (by exact fun _ _ _ h=>h) (by first|exact gI ⟨by rfl,rfl⟩|(refine gJ ⟨by rfl,?_⟩;intro w' F;(try dsimp only at F);(try go_simp);try with_reducible rfl)) (by assumption) ?_
    try simp only[bJ,bK,bH,bB]
   refine nY (by kernel_rfl) ?_ _;go_wp2_with fail;go_ret;exact⟨rfl,(show kM w d a o _ A (D+m) y _ by assumption).2.2.2.2.2.1⟩
theorem vY {w w':World} (h:Below w.heap.size w w') (row:Option Nat):w.grownBy w' row:=⟨h.os,h.tape,h.output,h.size,fun k d _=>h.block k d⟩
theorem EJ {a b c:World} {row:Option Nat} (h:a.grownBy b row) (k:b.grownBy c row):a.grownBy c row:=
 ⟨k.os.trans h.os,k.tape.trans h.tape,k.output.trans h.output,Nat.le_trans h.size k.size,fun i d e=>(k.block i (fB d h.size) e).trans (h.block i d e)⟩
theorem aQ0 (d:Nat) (a:ByteArray) (o most:Int) (v U:Value) (l:List Int) (b:ByteArray) (w:World) (ha:a.size<=256) (G:Arr w d 227 [.string a,.int .i64 o,v,.int .i64 most,U,.string b]) (hr:RdI w v l) (V:jU l ((a.size:Int)+1)):
  Calls pG 155 #[.pointer (some ⟨d,0,none⟩)] w fun e w'=>e=.returned (.int .i64 0)/\w.grownBy w' (some d)/\∃a0,Arr w' d 227 [.string a,.int .i64 o,v,.int .i64 most,a0,.string b]/\∀W,RdI W v l->RdI W a0 (l.take (l.length-1)):=by
 obtain⟨ad,I,rfl,a1,a2,hA⟩:=hr.open;have a3:=a2;unfold maxLen at a2;have F:=G.lt;have c2:=G.cell (i:=2) rfl;obtain⟨m,Y⟩:∃m,l.length=m+1:=⟨l.length-1,by have:=V.1;omega⟩;obtain⟨A,D,rfl,J,Z⟩:=hA (by omega);have hy:l[m]? =some ((a.size:Int)+1):=by have:=V.2.1;rwa[Y,oR] at this
 have cy:=Z m _ hy;have r1:aJ.wrap ((l.length:Int)-1)=(m:Int):=by rw[aM];omega
 have r2:m<=I:=by omega
 have r3:(m:Int)<=(I:Int):=by omega
 have r4:(0:Int)<=(m:Int):=by omega
 have r5:m<l.length:=by omega
 have r6:(m:Int)<(l.length:Int):=by omega
 have r7:decide ((m:Int)<0)=false:=aE (by omega);have HM:=hid Y;have HC:=hid Z;have c0:=G.cell (i:=0) rfl;have c1:=G.cell (i:=1) rfl;have z0:kM w d a o (.slice (some ⟨A,D,none⟩) l.length I) A (D+m) ((a.size:Int)+1) (w.alloc (.cells #[.pointer (some ⟨d,0,none⟩)] 230)):=by
  have L:Below w.heap.size w (w.alloc (.cells #[.pointer (some ⟨d,0,none⟩)] 230)):=(aH _ _).alloc (aD _) _;exact⟨bX _ _ _,by rw[L.cell (p:=⟨d,0,none⟩) F];exact c0,by rw[L.cell (p:=⟨d,1,none⟩) F];exact c1,by rw[L.cell (p:=⟨d,2,none⟩) F];exact c2,by rw[L.cell (p:=⟨A,D+m,none⟩) J];exact cy,L,by simp⟩
 have f2:(((a.size:Int)+1) != ((a.size:Int)+1))=false:=by simp
 have a4:decide (0<=iR (pM ((a.size:Int)+1)) (l.take m))=false:=by
  refine aE (Int.not_le.2 ((JC (pM ((a.size:Int)+1)) (l.take m)).2.2.2 fun x hx=>?_));have:=V.2.2 x (by rw[HM.out,oR];exact hx);unfold pM;rw[DL,decide_eq_false_iff_not,decide_eq_false_iff_not];omega
 have a7:=hid (KF J HC.out m (by omega) a1 a3);have a5:∀W,kM w d a o (.slice (some ⟨A,D,none⟩) l.length I) A (D+m) ((a.size:Int)+1) W->KG W 179 #[.pointer (some ⟨w.heap.size,0,none⟩)] (pM ((a.size:Int)+1)) (l.take m):=fun W hW W' a8 x _=>by
  have hk:=kM.keep hW F J a8;exact aBb x w.heap.size d a o most _ U b W' (by omega) rfl hk.1 (G.below hk.2.2.2.2.2.1 F)
 have a9:=hid a5;have HF:=hid a4;have HY:=hid hy;clear a5 a4 Y Z hy hA;go_enter func155,ntmps155;go_upto_region 2 with fail;generalize w.alloc (.cells #[.pointer (some ⟨d,0,none⟩)] 230)=wa at*
 refine rF (S:=(fun w'=>w'.cell? ⟨w.heap.size,0,none⟩=some (.pointer (some ⟨d,0,none⟩))/\w'.cell? ⟨d,0,none⟩=some (.string a)/\w'.cell? ⟨d,1,none⟩=some (.int .i64 o)/\w'.cell? ⟨d,2,none⟩=some (.slice (some ⟨A,D,none⟩) l.length I)/\w'.cell? ⟨A,D+m,none⟩=some (.int .i64 ((a.size:Int)+1))/\Below w.heap.size w w'/\w.heap.size<w'.heap.size)) (by kernel_rfl) (kM.drew z0) (fun b2=>?_)
 iterate 15
  refine fV 0 0 (by simp only[dB,aU,aV,cV,dC]<;>rfl) (by simp only[gA,gH,gB];rfl) (by kernel_rfl) (by exact fun _ _ _ h=>h) (by first|exact gI ⟨by rfl,rfl⟩|(refine gJ ⟨by rfl,?_⟩;intro w' M;(try dsimp only at M);(try go_simp);try with_reducible rfl)) (by assumption) ?_
  try simp only[bJ,bK,bH,bB]
 refine dJ (i:=15) (by kernel_rfl) rfl (fun K O=>?_);go_simp
 go_at_call 147
 refine(BQ a o _ rfl _ (by omega)).mono ?_;rintro e w' ⟨rfl,hb⟩
 (try go_wp2_with fail)
 refine O.out _ _ (kM.keep (by assumption) F J hb) (fun b3=>?_);clear O K
 try simp only[bJ,bK,bH,bB]
 iterate 11
  refine fV 0 0 (by simp only[dB,aU,aV,cV,dC]<;>rfl) (by simp only[gA,gH,gB];rfl) (by kernel_rfl) (by exact fun _ _ _ h=>h) (by first|exact gI ⟨by rfl,rfl⟩|(refine gJ ⟨by rfl,?_⟩;intro w' M;(try dsimp only at M);(try go_simp);try with_reducible rfl)) (by assumption) ?_
  try simp only[bJ,bK,bH,bB]
 refine dJ (i:=27) (by kernel_rfl) rfl (fun K O=>?_);go_simp
 go_at_call 178
 refine(aBa _ _ (pM ((a.size:Int)+1)) _ (l.take m) _ (a7.out.below (show kM w d a o _ A (D+m) _ _ by assumption).2.2.2.2.2.1) (enters_of func179 rfl rfl) (a9.out _ (by assumption))).mono ?_;rintro e H ⟨rfl,a6⟩;rw[HF.out]
 (try go_wp2_with fail)
 refine O.out _ _ (kM.keep (by assumption) F J a6) (fun b4=>?_);clear O K
 try simp only[bJ,bK,bH,bB]
 refine fV 0 0 (by simp only[dB,aU,aV,cV,dC]<;>rfl) (by simp only[gA,gH,gB];rfl) (by kernel_rfl) (by exact fun _ _ _ h=>h) (by first|exact gI ⟨by rfl,rfl⟩|(refine gJ ⟨by rfl,?_⟩;intro w' M;(try dsimp only at M);(try go_simp);try with_reducible rfl)) (by assumption) ?_
 try simp only[bJ,bK,bH,bB]
 refine nY (by kernel_rfl) ?_ _;clear b2 b3;obtain⟨k0,k1,k2,k3,k4,k5,k6⟩:=b4;have T:=G.below k5 F;have k7:=T.cell (i:=4) rfl;have k8:=T.free;clear a6 hb G z0;go_upto_region 4 with fail
 go_still_tail 10,(by kernel_rfl)
 change wpList _ _ _ _ _ H.drew;have b5:Arr H.drew d 227 _:=T;have b9:H.drew.cell? ⟨w.heap.size,0,none⟩=some (.pointer (some ⟨d,0,none⟩)):=k0;have c3:H.drew.cell? ⟨d,4,none⟩=some U:=k7;have c4:∀i,H.drew.frozen? ⟨d,i,none⟩=false:=k8;have b6:Below w.heap.size w H.drew:=k5.drew;generalize H.drew=w4 at*
 clear T k0 k1 k2 k3 k4 k5 k6 k7 k8;go_wp2_with fail;go_ret;exact⟨rfl,qS (vY b6 _) 4 _,_,b5.set 4 _,fun W hW=>by
  obtain⟨b1,o1,e1,b7,b8⟩:=aA7 hW (by omega);obtain⟨rfl,rfl⟩:A=b1/\D=o1:=by simpa using e1
  rw[HM.out,oR];exact KF b7 b8 m (by omega) a1 a3⟩
end
end Go.Proofs.YtfplbbphficcjaaGreatDoor
