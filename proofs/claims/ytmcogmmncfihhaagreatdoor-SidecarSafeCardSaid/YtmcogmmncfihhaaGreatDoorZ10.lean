/-
  Texts put together (part 10): the walks and the plain laws on which the statement stands.
-/
import Derived.Test.YtmcogmmncfihhaaGreatDoorZ9
set_option maxRecDepth 100000
set_option maxHeartbeats 12800000
set_option linter.unusedVariables false
set_option linter.unusedSimpArgs false
open Go renaming bodyPost_ret->gJ,wpAnyH_ready->fL,wpAnyH_take->aQ,wp_region_held_drew->vI
open Go.Act renaming put->aJ
open Go.AllReadyH renaming cons->fA,nil->fM
open Go.IntKind renaming i64->aI,wrap_i64->aM
open Go.Lib renaming toList_data->AW
open Go.RowKit.Below renaming refl->aB
open Go.World renaming size_alloc->fV
open List renaming eq_of_mem_replicate->aCo,getElem?_cons_succ->aS,getElem?_cons_zero->aP,getElem?_eq_getElem->aN,getElem?_toArray->aR,length_map->bJ,mem_append->cU,mem_cons_of_mem->jD,setIfInBounds_toArray->aK,set_cons_succ->aG,set_cons_zero->aH
open Nat renaming add_sub_cancel->jZ,le_refl->aA,lt_of_lt_of_le->dR,lt_trans->AX
open Option.some renaming inj->bW
open Or renaming inl->aT
namespace Go.Proofs.YtmcogmmncfihhaaGreatDoor
section
open Go.RowKit
theorem aLx (v:Value) (most:Int) (w:World) (hr:RdI w v []) (hm1: -9223372036854775808<=most) (hm2:most<=1000000):
  Calls Tryz.prog 151 #[v,.int .i64 most] w fun e w'=>∃v',e=.returned (.tuple #[v',.int .i64 (nZ [] most)])/\OwI w' w.heap.size v' (oX [] most)/\Below w.heap.size w w':=by
 have hb:Calls Tryz.prog 163 #[v] w fun e w'=>e=.returned (.bool false)/\w'=w:=(JI v [] w hr).mono fun e w' ⟨h1,h2⟩=>by
  rw[oN (fun x hx=>by simp at hx)] at h1;exact⟨h1,h2⟩
 obtain⟨a,ca,rfl,hca,hma,hA⟩:=hr.open;simp only[List.length_nil] at hca hA hb ⊢;go_enter Tryz.func151,Tryz.ntmps151;go_wp2_with fail;refine hb.mono ?_;rintro e w1 ⟨rfl,rfl⟩;go_wp2_with fail
 go_loopg [0,8,9,10] 0 (fun gh s0 _s8 _s9 _s10 wq=>gh=0/\s0=.slice a 0 ca/\wq=w1.alloc (.cells #[.slice none 0 0] 269))
 case atStart=>exact⟨rfl,rfl,rfl⟩
 case round=>
 obtain⟨hg,rfl,rfl⟩:=hrel;have hc:=bS w1 (.slice none 0 0) 269
 by_cases hm:most<0
 ·have t1:decide (most<0)=true:=decide_eq_true hm;have hE:nZ [] most=4:=(rW (by show ¬((([]:List Int).length:Nat):Int)<=most;simp;omega)).2;have hL:oX [] most=[]:=(rW (by show ¬((([]:List Int).length:Nat):Int)<=most;simp;omega)).1;go_wp2_with fail
  go_ret2
  exact⟨.slice none 0 0,by first|(rw[hE];rfl)|rfl,by first|(rw[hL];exact OwI.nil _ _)|exact OwI.nil _ _,(aB _ _).alloc (aA _) _⟩
 ·have t1:decide (most<0)=false:=decide_eq_false hm;have hE:nZ [] most=0:=(wO (by show((([]:List Int).length:Nat):Int)<=most;simp;omega)).2;have hL:oX [] most=[]:=(wO (by show((([]:List Int).length:Nat):Int)<=most;simp;omega)).1;go_wp2_with fail
  go_ret2
  exact⟨.slice none 0 0,by first|(rw[hE];rfl)|rfl,by first|(rw[hL];exact OwI.nil _ _)|exact OwI.nil _ _,(aB _ _).alloc (aA _) _⟩
theorem aLy (v:Value) (m:List Int) (most:Int) (w:World) (hr:RdI w v m) (hlen:m.length<=1000000) (hv:∀x∈m,0<=x/\x<=1000000) (hm1: -9223372036854775808<=most) (hm2:most<=1000000):
  Calls Tryz.prog 151 #[v,.int .i64 most] w fun e w'=>∃v',e=.returned (.tuple #[v',.int .i64 (nZ m most)])/\OwI w' w.heap.size v' (oX m most)/\Below w.heap.size w w':=by
 rcases Nat.eq_zero_or_pos m.length with h0|h0
 ·obtain rfl:=List.length_eq_zero_iff.1 h0;exact aLx v most w hr hm1 hm2
 ·exact aLp v m most w hr hlen hv hm1 hm2 h0
theorem wP (a:ByteArray) (o:Int) (y:Value) (_hy:y.oneCell'=true) (w:World) (ha:a.size<=140737488355328):
  Calls Tryz.prog 118 #[.agg #[.string a,.int .i64 o,y]] w fun e w'=>e=.returned (.int .i64 ((a.size:Int)+1))/\Below w.heap.size w w':=by
 have e1:aI.wrap ((a.size:Int)+1)=(a.size:Int)+1:=by rw[aM];omega
 go_enter Tryz.func118,Tryz.ntmps118;go_wp2_with fail;go_ret;exact⟨rfl,(aB _ _).alloc (aA _) _⟩
def oA (s:ByteArray) (o:Nat->Int):List Int:=cZ 0 (cM (bK s.data.toList) (dM s o s.size))++[((bK s.data.toList).length:Int)+1]
theorem EA:(Tryz.prog.info? 106).map (·.size)=some 3:=by kernel_rfl
def cW:ByteArray:={data:=#[]}
theorem rX (s:List UInt8):(bK s).length<=256:=by
 unfold bK jH;rw[bJ];have:=List.length_filter_le (dB s) (List.range 256)
 simpa using this
theorem rY {s:ByteArray} (h:0<s.size):s.toList.isEmpty=false:=by
 rw[AW]
 cases e:s.data.toList with
 |nil=>
  have:s.data.toList.length=s.size:=by simp
  rw[e] at this;simp at this;omega
 |cons b l=>rfl
theorem aL3 (w:World):
  Calls Tryz.prog 53 #[.string cW] w fun e w'=>e=.returned (.tuple #[.agg #[.string cW,.int .i64 0,.slice none 0 0],.int .i64 1])/\Below w.heap.size w w':=by
 unfold cW;have harr:=Arr.new w 106 [.string {data:=#[]},.int .i64 0,.slice none 0 0];have f0:=harr.cell (i:=0) rfl;have f1:=harr.cell (i:=1) rfl;have f2:=harr.cell (i:=2) rfl;have f3:=harr.free;go_enter Tryz.func53,Tryz.ntmps53;go_wp2_with fail;exact gJ (zI rfl _ _ w.heap.size _ _ (0,0) _ rfl harr Tryz.underlying106 rfl EA) rfl ⟨rfl,(aB _ _).alloc (aA _) _⟩
theorem aL4 (s:ByteArray) (w:World) (h0:0<s.size) (hs:s.size<=65536):
  Calls Tryz.prog 53 #[.string s] w fun e w'=>∃o v,Ord (bX s) s.size s.size o/\e=.returned (.tuple #[.agg #[.string (mkS (bK s.data.toList)),.int .i64 ((fD o s.size:Nat):Int),v],.int .i64 0])/\OwI w' w.heap.size v (oA s o)/\Below w.heap.size w w':=by
 have t0:=rY h0;have t1:decide ((65536:Int)<(s.size:Int))=false:=decide_eq_false (by omega);have t2:decide (65536<s.size)=false:=decide_eq_false (by omega);go_enter Tryz.func53,Tryz.ntmps53;go_wp2_with fail;refine(KZ s _ (by omega)).mono ?_;rintro e w1 ⟨rfl,hb1⟩;have hz1:=hb1.size;simp only[fV] at hz1;obtain⟨A,hA⟩:∃A,A=mkS (bK s.data.toList):=⟨_,rfl⟩;rw[<-hA];have HA0:=hid hA;clear hA;go_wp2_with fail;refine(aG7 s _ (by omega) (fun w=>aHh s w (by omega))).mono ?_;rintro e w2 ⟨o,hO,rfl,hb2⟩;have hz2:=hb2.size
 obtain⟨n,hn⟩:∃n,n=fD o s.size:=⟨_,rfl⟩;have hnl:=RQ o s.size;rw[<-hn] at hnl ⊢;have HN:=hid hn;clear hn;obtain⟨L,hL⟩:∃L,L=mkS (dM s o s.size):=⟨_,rfl⟩;have hA:=HA0.out;have hLl:L.data.toList=dM s o s.size:=by rw[hL];rfl
 have hAl:A.data.toList=bK s.data.toList:=by rw[hA];rfl
 have hLs:L.size=s.size:=by rw[hL,cP,sY]
 have hAs:A.size<=256:=by rw[hA,cP];exact rX _
 have hnd:A.data.toList.Nodup:=by rw[hAl];exact BS _
 have hsub:∀b∈L.data.toList,b∈A.data.toList:=fun b hb=>by
  rw[hAl,yC];rw[hLl] at hb;exact(LN s hO).mem_iff.1 hb
 have hml:(cM A.data.toList L.data.toList).length=s.size:=by rw[rH];simp[hLs]
 have hmr:∀x∈cM A.data.toList L.data.toList,0<=x/\x<=1000000:=fun x hx=>by
  have:=vT L.data.toList A.data.toList hsub x hx;have hl:A.data.toList.length=A.size:=by simp
  omega
 have hsym:oA s o=cZ 0 (cM A.data.toList L.data.toList)++[(A.size:Int)+1]:=by
  unfold oA;rw[<-hAl,<-hLl];simp
 have HSYM:=hid hsym;have HA:=hid hA;rw[<-hL];have hFR:∀W,Calls Tryz.prog 69 #[.string A,.string L] W fun e w'=>∃v,e=.returned (.tuple #[v,.int .i64 0])/\OwI w' W.heap.size v (cM A.data.toList L.data.toList)/\Below W.heap.size W w':=fun W=>TL A L W (by omega) (by omega) hnd hsub
 have HFR:=hid hFR;obtain⟨M,hM⟩:∃M,M=cM A.data.toList L.data.toList:=⟨_,rfl⟩;rw[<-hM] at hml hmr HSYM HFR;have HMR:=hid hmr;clear hFR hnd hsub hL hA hLl hAl hLs hM hmr hsym;go_wp2_with fail;refine(HFR.out w2).mono ?_;rintro e w3 ⟨v3,rfl,hown3,hb3⟩;have hz3:=hb3.size;go_wp2_with fail;refine(aL2 v3 M w3 hown3.rd (by omega) (by omega) HMR.out).mono ?_;rintro e w4 ⟨v4,rfl,hown4,hb4⟩;have hz4:=hb4.size;have harr:=Arr.new w 106 [.string {data:=#[]},.int .i64 0,.slice none 0 0];have hlen:=hid (IT M 0)
 have e1:aI.wrap ((A.size:Int)+1)=(A.size:Int)+1:=by rw[aM];omega
 have hz04:w.heap.size+1<=w4.heap.size:=by omega
 have hz03:w.heap.size+1<=w3.heap.size:=by omega
 have hb04:Below (w.heap.size+1) (w.alloc (.cells #[.string {data:=#[]},.int .i64 0,.slice none 0 0] 106)) w4:=(((hb1.mono (by simp)).trans (hb2.mono (by omega))).trans (hb3.mono (by omega))).trans (hb4.mono (by omega))
 go_wp2_with (at_builtin;(refine eN rfl _ _ rfl w3.heap.size _ _ rfl (hown4.alloc _) w4.heap.size ((A.size:Int)+1) rfl ?_ ?_ ?_ ?_;(exact bS _ _ _);(have:=hlen.out.1;omega);(simp;omega);intro v6 w6 hown6 hb6 _;obtain⟨a6,c6,e6,_,_,_⟩:=hown6.rd.open;subst e6;have hz6:=hb6.size;simp only[fV] at hz6;have hbE:=(hb04.alloc hz04 _).trans (hb6.mono hz03);have p0:=harr.below hbE (by omega);have p1:=p0.cell (i:=0) rfl;have p2:=p0.cell (i:=1) rfl;have p3:=p0.cell (i:=2) rfl;have p4:=p0.free));rw[show(cZ 0 M++[(A.size:Int)+1]).length=(cZ 0 M).length+1 by simp] at hown6
 generalize hv:Value.slice a6 ((cZ 0 M).length+1) c6=v6 at*
 have hF:Arr (((w6.setCell ⟨w.heap.size,0,none⟩ (.string A)).setCell ⟨w.heap.size,1,none⟩ (.int .i64 (n:Int))).setCell ⟨w.heap.size,2,none⟩ v6) w.heap.size 106 [.string A,.int .i64 (n:Int),v6]:=((p0.set 0 _).set 1 _).set 2 _;have ho2:=hown6.kept (nK (nK (nK (zH _ (some w.heap.size)) 0 (.string A)) 1 (.int .i64 (n:Int))) 2 v6) (fun b e=>by simp at e;omega)
 have hbF:=(((((aB w.heap.size w).alloc (aA _) _).trans (hbE.mono (by omega))).setCell (p:=⟨w.heap.size,0,none⟩) (aA _) (.string A)).setCell (p:=⟨w.heap.size,1,none⟩) (aA _) (.int .i64 (n:Int))).setCell (p:=⟨w.heap.size,2,none⟩) (aA _) v6;refine gJ (zI rfl _ _ w.heap.size _ _ (0,0) _ rfl hF Tryz.underlying106 rfl EA) rfl ⟨o,v6,hO,?_,?_,hbF⟩
 ·rw[<-HA.out,<-HN.out];rfl
 ·rw[HSYM.out];exact ho2.base (by omega)
theorem WV (a:ByteArray) (o:Int) (y:Value) (hy:y.oneCell'=true) (w:World) (ha:a.size<=140737488355328):
  Calls Tryz.prog 112 #[.agg #[.string a,.int .i64 o,y]] w fun e w'=>e=.returned (.int .i64 ((a.size:Int)+2))/\Below w.heap.size w w':=by
 have e1:aI.wrap ((a.size:Int)+1+1)=(a.size:Int)+2:=by rw[aM];omega
 have harr:=Arr.new w 106 [.string a,.int .i64 o,y];have c0:=harr.cell (i:=0) rfl;have c1:=harr.cell (i:=1) rfl;have c2:=harr.cell (i:=2) rfl;have hb:=(aB w.heap.size w).alloc (aA _) (.cells #[.string a,.int .i64 o,y] 106);go_enter Tryz.func112,Tryz.ntmps112;go_wp2_with fail;refine(wP a o y hy _ ha).mono ?_;rintro e w1 ⟨rfl,hb1⟩;go_wp2_with fail;go_ret;exact⟨rfl,hb.trans (hb1.mono hb.size)⟩
theorem aL5 (a:ByteArray) (o:Int) (y:Value) (_hy:y.oneCell'=true) (w:World) (ha:a.size<=140737488355328):
  Calls Tryz.prog 55 #[.agg #[.string a,.int .i64 o,y]] w fun e w'=>e=.returned (.int .i64 ((a.size:Int)+2))/\Below w.heap.size w w':=by
 have e1:aI.wrap ((a.size:Int)+2)=(a.size:Int)+2:=by rw[aM];omega
 go_enter Tryz.func55,Tryz.ntmps55;go_wp2_with fail;go_ret;exact⟨rfl,(aB _ _).alloc (aA _) _⟩
theorem WW {a b:ByteArray} (h:a≠b):(a.toList==b.toList)=false:=by
 rw[AW,AW,<-Bool.not_eq_true,beq_iff_eq];exact fun e=>h (by rw[<-pL a,e,pL])
def gW (l:List Int) (e:Int):Prop:=0<l.length/\l[l.length-1]? =some e/\∀x∈l.take (l.length-1),0<=x/\x<e
instance (l:List Int) (e:Int):Decidable (gW l e):=inferInstanceAs (Decidable (0<l.length/\l[l.length-1]? =some e/\∀x∈l.take (l.length-1),0<=x/\x<e))
def cE (l:List Int):List Int:=dA (l.take (l.length-1))
def rest (a:ByteArray) (o:Int) (l:List Int) (most:Int):ByteArray×Int:=
 if ¬(a.data.toList≠[]/\bK a.data.toList=a.data.toList) then(cW,1)
 else if ¬gW l ((a.size:Int)+1) then(cW,3)
 else if ¬((cE l).length:Int)<=most then(cW,4)
 else if ¬(0<=o/\o<((cE l).length:Int)) then(cW,3)
 else(mkS (nF (unL a.data.toList (cE l)) o.toNat),0)
theorem wQ {a:ByteArray} {o:Int} {l:List Int} {most:Int} (h:¬(a.data.toList≠[]/\bK a.data.toList=a.data.toList)):rest a o l most=(cW,1):=if_pos h
theorem zK {a:ByteArray} {o:Int} {l:List Int} {most:Int} (h:a.data.toList≠[]/\bK a.data.toList=a.data.toList) (h2:¬gW l ((a.size:Int)+1)):rest a o l most=(cW,3):=by
 unfold rest;rw[if_neg (fun k=>k h),if_pos h2]
theorem zL {a:ByteArray} {o:Int} {l:List Int} {most:Int} (h:a.data.toList≠[]/\bK a.data.toList=a.data.toList) (h2:gW l ((a.size:Int)+1)) (h3:¬((cE l).length:Int)<=most):rest a o l most=(cW,4):=by
 unfold rest;rw[if_neg (fun k=>k h),if_neg (fun k=>k h2),if_pos h3]
theorem zM {a:ByteArray} {o:Int} {l:List Int} {most:Int} (h:a.data.toList≠[]/\bK a.data.toList=a.data.toList) (h2:gW l ((a.size:Int)+1)) (h3:((cE l).length:Int)<=most) (h4:¬(0<=o/\o<((cE l).length:Int))):rest a o l most=(cW,3):=by
 unfold rest;rw[if_neg (fun k=>k h),if_neg (fun k=>k h2),if_neg (fun k=>k h3),if_pos h4]
theorem wR {a:ByteArray} {o:Int} {l:List Int} {most:Int} (h:a.data.toList≠[]/\bK a.data.toList=a.data.toList) (h2:gW l ((a.size:Int)+1)) (h3:((cE l).length:Int)<=most) (h4:0<=o/\o<((cE l).length:Int)):rest a o l most=(mkS (nF (unL a.data.toList (cE l)) o.toNat),0):=by
 unfold rest;rw[if_neg (fun k=>k h),if_neg (fun k=>k h2),if_neg (fun k=>k h3),if_neg (fun k=>k h4)]
theorem aMd:∀(m:List Int) (n p:Nat),∀y∈zx n p m,y=0\/∃x∈m,2<=x/\y=x-1:=by
 intro m
 induction m with
 |nil=>intro n p y hy;exact .inl (aCo hy)
 |cons x m ih=>
  intro n p y hy;unfold zx at hy
  by_cases h:x<2
  ·rw[if_pos h] at hy;rcases ih _ _ y hy with q|⟨z,hz,q⟩
   ·exact .inl q
   ·exact .inr ⟨z,jD _ hz,q⟩
  ·rw[if_neg h,cU,List.mem_cons] at hy;rcases hy with hy|rfl|hy
   ·exact .inl (aCo hy)
   ·exact .inr ⟨x,by simp,by omega,rfl⟩
   ·rcases ih _ _ y hy with q|⟨z,hz,q⟩
    ·exact .inl q
    ·exact .inr ⟨z,jD _ hz,q⟩
theorem LQ {l:List Int} {n:Nat} (h:gW l ((n:Int)+1)) (hn:0<n):∀y∈cE l,0<=y/\y<(n:Int):=fun y hy=>by
 rcases aMd _ _ _ y hy with q|⟨x,hx,h2,q⟩
 ·omega
 ·have:=h.2.2 x hx;omega
theorem WZ {w:World} {ad:Option Addr} {n ca:Nat} {l:List Int} (h:RdI w (.slice ad n ca) l) (h0:0<l.length):∃b off,ad=some ⟨b,off,none⟩/\b<w.heap.size/\∀j x,l[j]? =some x->w.cell? ⟨b,off+j,none⟩=some (.int .i64 x):=by
 obtain⟨a,c,e,_,_,hA⟩:=h.open;obtain⟨b,off,rfl,q⟩:=hA h0;exact⟨b,off,by injection e,q⟩
theorem EB {w:World} {b off ca:Nat} {l:List Int} (hb:b<w.heap.size) (hc:∀j x,l[j]? =some x->w.cell? ⟨b,off+j,none⟩=some (.int .i64 x)) (k:Nat) (hk:k<=l.length) (hca:l.length<=ca) (hma:ca<=maxLen):RdI w (.slice (some ⟨b,off,none⟩) k ca) (l.take k):=by
 have hl:(l.take k).length=k:=by rw[List.length_take];omega
 refine⟨_,_,by rw[hl],by rw[hl];omega,hma,.inr ⟨b,off,rfl,hb,fun j hj=>?_⟩⟩;rw[bJ] at hj;have hj':j<l.length:=by omega
 rw[hc j _ (aN hj')];simp[List.getD,hj',show j<k by omega]
theorem vA {s:ByteArray} (h:s.data.toList=[]):s.toList.isEmpty=true:=by
 rw[AW,h];rfl
theorem LR {s:ByteArray} (h:s.data.toList≠[]):s.toList.isEmpty=false:=by
 rw[AW]
 cases e:s.data.toList with
 |nil=>exact absurd e h
 |cons b l=>rfl
theorem XF {W w w':World} {wb:Nat} {x:Value} (h:w.cell? ⟨wb,0,none⟩=some x/\Below W.heap.size W w) (hl:wb<W.heap.size) (hb:Below w.heap.size w w'):w'.cell? ⟨wb,0,none⟩=some x/\Below W.heap.size W w':=
 ⟨by rw[hb.cell (p:=⟨wb,0,none⟩) (dR hl h.2.size)];exact h.1,h.2.trans (hb.mono h.2.size)⟩
theorem XG {w:World} {wb:Nat} {x:Value} (h:w.cell? ⟨wb,0,none⟩=some x):w.drew.cell? ⟨wb,0,none⟩=some x/\Below w.heap.size w w.drew:=⟨h,(aB _ _).drew⟩
theorem aMi (wb:Nat) (a:ByteArray) (o most:Int) (v lv:Value) (b:ByteArray) (w:World) (ha:a.size<=140737488355328) (harr:Arr w wb 210 [.string a,.int .i64 o,v,.int .i64 most,lv,.string b]):
  Calls Tryz.prog 124 #[.pointer (some ⟨wb,0,none⟩)] w fun e w'=>e=.returned (.int .i64 (if a.data.toList≠[]/\bK a.data.toList=a.data.toList then 0 else 1))/\Below w.heap.size w w':=by
 have c0:=harr.cell (i:=0) rfl;have hlt:=harr.lt
 by_cases hne:a.data.toList=[]
 ·have t1:=vA hne;rw[if_neg (fun h=>h.1 hne)];go_enter Tryz.func124,Tryz.ntmps124;go_wp2_with fail
  go_quiet (fail)
  go_wp2_with fail;go_ret;exact⟨rfl,iI (aB _ _) _⟩
 have t1:=LR hne
 by_cases hal:bK a.data.toList=a.data.toList
 ·rw[if_pos ⟨hne,hal⟩];have t2:(a.toList==a.toList)=true:=by simp
  have HAL:=hid hal;clear hal;go_enter Tryz.func124,Tryz.ntmps124;go_upto_region 1 with fail
  go_cut [22] (fun s22 wx=>s22=.bool false/\Below w.heap.size w wx)
  case first=>
   go_region_held3 (fun w'=>w'.cell? ⟨wb,0,none⟩=some (.string a)/\Below w.heap.size w w')
    (first
     |with_reducible assumption
     |with_reducible exact XG c0
     |with_reducible exact XF (by assumption) hlt (by assumption))
    (first
     |(go_at_call 148;refine(KY a _ ha).mono ?_;rintro e w1 ⟨rfl,hb⟩;rw[HAL.out,pL]))
   all_goals go_wp2_with fail
   all_goals go_meet
   all_goals exact⟨rfl,And.right (show w1.cell? ⟨wb,0,none⟩=some (.string a)/\Below w.heap.size w w1 by assumption)⟩
  case rest=>
   obtain⟨rfl,hbx⟩:=hcut;go_wp2_with fail;go_ret;exact⟨rfl,hbx⟩
 ·rw[if_neg (fun h=>hal h.2)];have t2:((mkS (bK a.data.toList)).toList==a.toList)=false:=WW (fun e=>hal (by have:=congrArg (fun s=>s.data.toList) e;simpa using this));go_enter Tryz.func124,Tryz.ntmps124;go_upto_region 1 with fail
  go_cut [22] (fun s22 wx=>s22=.bool true/\Below w.heap.size w wx)
  case first=>
   go_region_held3 (fun w'=>w'.cell? ⟨wb,0,none⟩=some (.string a)/\Below w.heap.size w w')
    (first
     |with_reducible assumption
     |with_reducible exact XG c0
     |with_reducible exact XF (by assumption) hlt (by assumption))
    (first
     |(go_at_call 148;refine(KY a _ ha).mono ?_;rintro e w1 ⟨rfl,hb⟩))
   all_goals go_wp2_with fail
   all_goals go_meet
   all_goals exact⟨rfl,And.right (show w1.cell? ⟨wb,0,none⟩=some (.string a)/\Below w.heap.size w w1 by assumption)⟩
  case rest=>
   obtain⟨rfl,hbx⟩:=hcut;go_wp2_with fail;go_ret;exact⟨rfl,hbx⟩
end
section
open Go.RowKit Go.Shelf
def EC (w0:World) (g:Nat) (caps:Array Value) (p:Int->Bool) (l:List Int):Prop:=
 ∀W,Below w0.heap.size w0 W->∀x∈l,Calls Tryz.prog g (#[Value.int .i64 x]++caps) W fun e W'=>e=.returned (.bool (p x))/\Below W.heap.size W W'
theorem aMj (g:Nat) (caps:Array Value) (p:Int->Bool) (v:Value) (l:List Int) (w:World) (hr:RdI w v l) (hg:Enters Tryz.prog g) (hp:EC w g caps p l):
  Calls Tryz.prog 162 #[v,.func (.func g) #[] caps] w fun e w'=>e=.returned (.int .i64 (fP p l))/\Below w.heap.size w w':=by
 obtain⟨a,ca,rfl,hca,hma,hA⟩:=hr.open;unfold maxLen at hma;clear hr;have HP:=hid hp;have hE:∀args W,(callFunc g args).run Tryz.prog W=.ok (.enter g args) W:=hg;clear hp hg;go_enter Tryz.func162,Tryz.ntmps162;go_wp2_with fail
 go_loopg [8] l.length (fun gh s8 wr=>∃k:Nat,k<=l.length/\gh=l.length-k/\s8=.int .i64 k/\Hid (∀x∈l.take k,p x=false)/\Below w.heap.size w wr)
 case atStart=>exact⟨0,Nat.zero_le _,rfl,rfl,hid (fun x hx=>by simp at hx),aB _ _⟩
 case round=>
  obtain⟨k,hk,hg,rfl,HT,hbel⟩:=hrel;have HG:=hid hg;clear hg
  by_cases hlt:k<l.length
  ·obtain⟨b1,o1,rfl,hb1,hc1⟩:=hA (by omega);obtain⟨x,hx⟩:=dH hlt;have c1:=(hbel.cell (p:=⟨b1,o1+k,none⟩) hb1).trans (hc1 k x hx);have hmem:x∈l:=List.mem_of_getElem? hx;have HX:=hid hx;have hP:=HP.out _ hbel x hmem;clear hc1 hx hA;go_wp2_with fail;refine hP.mono ?_;rintro e w1 ⟨rfl,hb1'⟩;have hbN:=hbel.trans (hb1'.mono hbel.size)
   by_cases hpx:p x=true
   ·rw[hpx];go_wp2_with fail;go_ret;refine⟨fX ?_,hbN⟩;rw[BR HT.out hlt (by have:=HX.out;rw[aN hlt] at this;rw[bW this];exact hpx)]
   ·have hpf:p x=false:=by simpa using hpx
    rw[hpf];go_wp2_with fail;have hg:=HG.out
    go_roundg (l.length-(k+1))
    case measure=>omega
    case rel=>
     refine⟨k+1,by omega,rfl,by go_num,hid (fun y hy=>?_),hbN⟩;rw[List.take_add_one,HX.out] at hy;rcases cU.1 hy with hy|hy
     ·exact HT.out y hy
     ·simp at hy;rw[hy];exact hpf
  ·go_wp2_with fail;go_ret;exact⟨fX (by rw[oN];have:=HT.out;rwa[List.take_of_length_le (by omega)] at this),hbel⟩
theorem XH (g:Nat) (caps:Array Value) (p:Int->Bool) (v:Value) (l:List Int) (w:World) (hr:RdI w v l) (hg:Enters Tryz.prog g) (hp:EC w g caps p l):
  Calls Tryz.prog 149 #[v,.func (.func g) #[] caps] w fun e w'=>e=.returned (.bool (decide (0<=fP p l)))/\Below w.heap.size w w':=by
 have HI:=hid (aMj g caps p v l w hr hg hp);obtain⟨i,hi⟩:∃i,i=fP p l:=⟨_,rfl⟩;rw[<-hi] at HI ⊢;clear hr hg hp hi;go_enter Tryz.func149,Tryz.ntmps149;go_wp2_with fail;refine HI.out.mono ?_;rintro e w1 ⟨rfl,hbI⟩;go_wp2_with fail;go_ret;exact⟨rfl,hbI⟩
def lV (e:Int) (x:Int):Bool:=decide (x<0)||decide (e<=x)
theorem XI (x:Int) (bx wb:Nat) (a:ByteArray) (o most:Int) (v lv:Value) (b:ByteArray) (w:World) (ha:a.size<=140737488355328) (hv:v.oneCell'=true) (hbx:w.cell? ⟨bx,0,none⟩=some (.pointer (some ⟨wb,0,none⟩))) (harr:Arr w wb 210 [.string a,.int .i64 o,v,.int .i64 most,lv,.string b]):
  Calls Tryz.prog 150 #[.int .i64 x,.pointer (some ⟨bx,0,none⟩)] w fun e w'=>e=.returned (.bool (lV ((a.size:Int)+1) x))/\Below w.heap.size w w':=by
 have c0:=harr.cell (i:=0) rfl;have c1:=harr.cell (i:=1) rfl;have c2:=harr.cell (i:=2) rfl
 by_cases hx:x<0
 ·have t1:decide (x<0)=true:=decide_eq_true hx;have e1:lV ((a.size:Int)+1) x=true:=by unfold lV;rw[t1];rfl
  rw[e1];go_enter Tryz.func150,Tryz.ntmps150;go_wp2_with fail;go_ret;exact⟨rfl,aB _ _⟩
 ·have t1:decide (x<0)=false:=decide_eq_false hx;have e1:lV ((a.size:Int)+1) x=decide ((a.size:Int)+1<=x):=by unfold lV;rw[t1];rfl
  rw[e1];clear e1;go_enter Tryz.func150,Tryz.ntmps150;go_wp2_with fail;refine(wP a o v hv _ ha).mono ?_;rintro e w1 ⟨rfl,hb1⟩;go_wp2_with fail;go_ret;exact⟨rfl,hb1⟩
abbrev iE (W:World) (wb:Nat) (a:ByteArray) (o:Int) (v:Value) (b0 q:Nat) (y:Int) (w':World):Prop:=
 w'.cell? ⟨W.heap.size,0,none⟩=some (.pointer (some ⟨wb,0,none⟩))/\w'.cell? ⟨wb,0,none⟩=some (.string a)/\w'.cell? ⟨wb,1,none⟩=some (.int .i64 o)/\w'.cell? ⟨wb,2,none⟩=some v/\w'.cell? ⟨b0,q,none⟩=some (.int .i64 y)/\Below W.heap.size W w'/\W.heap.size<w'.heap.size
theorem iE.keep {W w w':World} {wb:Nat} {a:ByteArray} {o:Int} {v:Value} {b0 q:Nat} {y:Int} (h:iE W wb a o v b0 q y w) (hwb:wb<W.heap.size) (hb0:b0<W.heap.size) (hb:Below w.heap.size w w'):iE W wb a o v b0 q y w':=by
 obtain⟨h1,h2,h3,h4,h5,h6,h7⟩:=h;refine⟨?_,?_,?_,?_,?_,h6.trans (hb.mono h6.size),dR h7 hb.size⟩
 ·rw[hb.cell (p:=⟨W.heap.size,0,none⟩) h7];exact h1
 ·rw[hb.cell (p:=⟨wb,0,none⟩) (AX hwb h7)];exact h2
 ·rw[hb.cell (p:=⟨wb,1,none⟩) (AX hwb h7)];exact h3
 ·rw[hb.cell (p:=⟨wb,2,none⟩) (AX hwb h7)];exact h4
 ·rw[hb.cell (p:=⟨b0,q,none⟩) (AX hb0 h7)];exact h5
theorem iE.drew {W w:World} {wb:Nat} {a:ByteArray} {o:Int} {v:Value} {b0 q:Nat} {y:Int} (h:iE W wb a o v b0 q y w):iE W wb a o v b0 q y w.drew:=
 ⟨h.1,h.2.1,h.2.2.1,h.2.2.2.1,h.2.2.2.2.1,h.2.2.2.2.2.1.drew,h.2.2.2.2.2.2⟩
theorem aMk (wb:Nat) (a:ByteArray) (o most:Int) (v lv:Value) (l:List Int) (b:ByteArray) (w:World) (ha:a.size<=256) (harr:Arr w wb 210 [.string a,.int .i64 o,v,.int .i64 most,lv,.string b]) (hr:RdI w v l) (hno:¬gW l ((a.size:Int)+1)):
  Calls Tryz.prog 126 #[.pointer (some ⟨wb,0,none⟩)] w fun e w'=>e=.returned (.int .i64 3)/\Below w.heap.size w w':=by
 obtain⟨ad,ca,rfl,hca,hma,hA⟩:=hr.open;have hma0:=hma;unfold maxLen at hma;have hlt:=harr.lt;have c2:=harr.cell (i:=2) rfl
 by_cases h0:l.length=0
 ·have t1:decide ((l.length:Int)-1<0)=true:=decide_eq_true (by omega);have e1:aI.wrap ((l.length:Int)-1)= -1:=by rw[aM];omega
  go_enter Tryz.func126,Tryz.ntmps126;go_wp2_with fail
  go_quiet (fail)
  go_wp2_with fail;go_ret;exact⟨rfl,iI ((aB _ _).alloc (aA _) _) _⟩
 ·obtain⟨m,hm⟩:∃m,l.length=m+1:=⟨l.length-1,by omega⟩;obtain⟨b0,o0,rfl,hb0,hc0⟩:=hA (by omega);obtain⟨y,hy⟩:=dH (show m<l.length by omega);have cy:=hc0 m y hy;have r1:aI.wrap ((l.length:Int)-1)=(m:Int):=by rw[aM];omega
  have r2:m<=ca:=by omega
  have r3:(m:Int)<=(ca:Int):=by omega
  have r4:(0:Int)<=(m:Int):=by omega
  have r5:m<l.length:=by omega
  have r6:(m:Int)<(l.length:Int):=by omega
  have r7:decide ((m:Int)<0)=false:=decide_eq_false (by omega);have HM:=hid hm;have HC:=hid hc0;have HY:=hid hy;have c0:=harr.cell (i:=0) rfl;have c1:=harr.cell (i:=1) rfl;have z0:iE w wb a o (.slice (some ⟨b0,o0,none⟩) l.length ca) b0 (o0+m) y (w.alloc (.cells #[.pointer (some ⟨wb,0,none⟩)] 213)):=by
   have hB:Below w.heap.size w (w.alloc (.cells #[.pointer (some ⟨wb,0,none⟩)] 213)):=(aB _ _).alloc (aA _) _;exact⟨bS _ _ _,by rw[hB.cell (p:=⟨wb,0,none⟩) hlt];exact c0,by rw[hB.cell (p:=⟨wb,1,none⟩) hlt];exact c1,by rw[hB.cell (p:=⟨wb,2,none⟩) hlt];exact c2,by rw[hB.cell (p:=⟨b0,o0+m,none⟩) hb0];exact cy,hB,by simp⟩
  clear hm hc0 hy hA
  by_cases hye:y=(a.size:Int)+1
  ·subst hye;have f2:(((a.size:Int)+1) != ((a.size:Int)+1))=false:=by simp
   have hfind:decide (0<=fP (lV ((a.size:Int)+1)) (l.take m))=true:=by
    refine decide_eq_true ?_;rcases Int.lt_or_le (fP (lV ((a.size:Int)+1)) (l.take m)) 0 with q|q
    ·exfalso;refine hno ⟨by omega,by rw[HM.out,jZ];exact HY.out,fun x hx=>?_⟩;rw[HM.out,jZ] at hx;have:=(BQ (lV ((a.size:Int)+1)) (l.take m)).2.2.1 q x hx;unfold lV at this;rw[Bool.or_eq_false_iff,decide_eq_false_iff_not,decide_eq_false_iff_not] at this;omega
    ·exact q
   have HTK:=hid (EB hb0 HC.out m (by omega) hca hma0);have hpr:∀W,iE w wb a o (.slice (some ⟨b0,o0,none⟩) l.length ca) b0 (o0+m) ((a.size:Int)+1) W->EC W 150 #[.pointer (some ⟨w.heap.size,0,none⟩)] (lV ((a.size:Int)+1)) (l.take m):=fun W hW W' hW' x _=>by
    have hk:=iE.keep hW hlt hb0 hW';exact XI x w.heap.size wb a o most _ lv b W' (by omega) rfl hk.1 (harr.below hk.2.2.2.2.2.1 hlt)
   have HPR:=hid hpr;have HF:=hid hfind;clear hpr hfind;go_enter Tryz.func126,Tryz.ntmps126;go_upto_region 2 with fail;generalize w.alloc (.cells #[.pointer (some ⟨wb,0,none⟩)] 213)=wa at*
   refine vI (S:=(fun w'=>w'.cell? ⟨w.heap.size,0,none⟩=some (.pointer (some ⟨wb,0,none⟩))/\w'.cell? ⟨wb,0,none⟩=some (.string a)/\w'.cell? ⟨wb,1,none⟩=some (.int .i64 o)/\w'.cell? ⟨wb,2,none⟩=some (.slice (some ⟨b0,o0,none⟩) l.length ca)/\w'.cell? ⟨b0,o0+m,none⟩=some (.int .i64 ((a.size:Int)+1))/\Below w.heap.size w w'/\w.heap.size<w'.heap.size)) (by kernel_rfl) (iE.drew z0) (fun hHeld=>?_);refine aQ (i:=0) (oi:=?oi0) (v:=?v0) ?hi0 (by kernel_rfl) (by kernel_rfl) (by kernel_rfl) ?hq0 ?hy0 (by assumption) ?_
   case hi0=>(simp only[aR,aP];rfl)
   case hq0=>exact fun _ _ _ h=>h
   case hy0=>(refine aT ⟨by rfl,?_⟩;intro w' hSw;(try dsimp only at hSw);(try go_simp);try with_reducible rfl)
   try simp only[aJ,aK,aH,aG]
   refine aQ (i:=1) (oi:=?oi1) (v:=?v1) ?hi1 (by kernel_rfl) (by kernel_rfl) (by kernel_rfl) ?hq1 ?hy1 (by assumption) ?_
   case hi1=>(simp only[aR,aS,aP];rfl)
   case hq1=>exact fun _ _ _ h=>h
   case hy1=>(refine aT ⟨by rfl,?_⟩;intro w' hSw;(try dsimp only at hSw);(try go_simp);try with_reducible rfl)
   try simp only[aJ,aK,aH,aG]
   refine aQ (i:=2) (oi:=?oi2) (v:=?v2) ?hi2 (by kernel_rfl) (by kernel_rfl) (by kernel_rfl) ?hq2 ?hy2 (by assumption) ?_
   case hi2=>(simp only[aR,aS,aP];rfl)
   case hq2=>exact fun _ _ _ h=>h
   case hy2=>(refine aT ⟨by rfl,?_⟩;intro w' hSw;(try dsimp only at hSw);(try go_simp);try with_reducible rfl)
   try simp only[aJ,aK,aH,aG]
   refine aQ (i:=3) (oi:=?oi3) (v:=?v3) ?hi3 (by kernel_rfl) (by kernel_rfl) (by kernel_rfl) ?hq3 ?hy3 (by assumption) ?_
   case hi3=>(simp only[aR,aS,aP];rfl)
   case hq3=>exact fun _ _ _ h=>h
   case hy3=>(refine aT ⟨by rfl,?_⟩;intro w' hSw;(try dsimp only at hSw);(try go_simp);try with_reducible rfl)
   try simp only[aJ,aK,aH,aG]
   refine aQ (i:=4) (oi:=?oi4) (v:=?v4) ?hi4 (by kernel_rfl) (by kernel_rfl) (by kernel_rfl) ?hq4 ?hy4 (by assumption) ?_
   case hi4=>(simp only[aR,aS,aP];rfl)
   case hq4=>exact fun _ _ _ h=>h
   case hy4=>(refine aT ⟨by rfl,?_⟩;intro w' hSw;(try dsimp only at hSw);(try go_simp);try with_reducible rfl)
   try simp only[aJ,aK,aH,aG]
   refine aQ (i:=5) (oi:=?oi5) (v:=?v5) ?hi5 (by kernel_rfl) (by kernel_rfl) (by kernel_rfl) ?hq5 ?hy5 (by assumption) ?_
   case hi5=>(simp only[aR,aS,aP];rfl)
   case hq5=>exact fun _ _ _ h=>h
   case hy5=>(refine aT ⟨by rfl,?_⟩;intro w' hSw;(try dsimp only at hSw);(try go_simp);try with_reducible rfl)
   try simp only[aJ,aK,aH,aG]
   refine aQ (i:=6) (oi:=?oi6) (v:=?v6) ?hi6 (by kernel_rfl) (by kernel_rfl) (by kernel_rfl) ?hq6 ?hy6 (by assumption) ?_
   case hi6=>(simp only[aR,aS,aP];rfl)
   case hq6=>exact fun _ _ _ h=>h
   case hy6=>(refine aT ⟨by rfl,?_⟩;intro w' hSw;(try dsimp only at hSw);(try go_simp);try with_reducible rfl)
   try simp only[aJ,aK,aH,aG]
   refine aQ (i:=7) (oi:=?oi7) (v:=?v7) ?hi7 (by kernel_rfl) (by kernel_rfl) (by kernel_rfl) ?hq7 ?hy7 (by assumption) ?_
   case hi7=>(simp only[aR,aS,aP];rfl)
   case hq7=>exact fun _ _ _ h=>h
   case hy7=>(refine aT ⟨by rfl,?_⟩;intro w' hSw;(try dsimp only at hSw);(try go_simp);try with_reducible rfl)
   try simp only[aJ,aK,aH,aG]
   refine aQ (i:=8) (oi:=?oi8) (v:=?v8) ?hi8 (by kernel_rfl) (by kernel_rfl) (by kernel_rfl) ?hq8 ?hy8 (by assumption) ?_
   case hi8=>(simp only[aR,aS,aP];rfl)
   case hq8=>exact fun _ _ _ h=>h
   case hy8=>(refine aT ⟨by rfl,?_⟩;intro w' hSw;(try dsimp only at hSw);(try go_simp);try with_reducible rfl)
   try simp only[aJ,aK,aH,aG]
   refine aQ (i:=9) (oi:=?oi9) (v:=?v9) ?hi9 (by kernel_rfl) (by kernel_rfl) (by kernel_rfl) ?hq9 ?hy9 (by assumption) ?_
   case hi9=>(simp only[aR,aS,aP];rfl)
   case hq9=>exact fun _ _ _ h=>h
   case hy9=>(refine aT ⟨by rfl,?_⟩;intro w' hSw;(try dsimp only at hSw);(try go_simp);try with_reducible rfl)
   try simp only[aJ,aK,aH,aG]
   refine aQ (i:=10) (oi:=?oi10) (v:=?v10) ?hi10 (by kernel_rfl) (by kernel_rfl) (by kernel_rfl) ?hq10 ?hy10 (by assumption) ?_
   case hi10=>(simp only[aR,aS,aP];rfl)
   case hq10=>exact fun _ _ _ h=>h
   case hy10=>(refine aT ⟨by rfl,?_⟩;intro w' hSw;(try dsimp only at hSw);(try go_simp);try with_reducible rfl)
   try simp only[aJ,aK,aH,aG]
   refine aQ (i:=11) (oi:=?oi11) (v:=?v11) ?hi11 (by kernel_rfl) (by kernel_rfl) (by kernel_rfl) ?hq11 ?hy11 (by assumption) ?_
   case hi11=>(simp only[aR,aS,aP];rfl)
   case hq11=>exact fun _ _ _ h=>h
   case hy11=>(refine aT ⟨by rfl,?_⟩;intro w' hSw;(try dsimp only at hSw);(try go_simp);try with_reducible rfl)
   try simp only[aJ,aK,aH,aG]
   refine aQ (i:=12) (oi:=?oi12) (v:=?v12) ?hi12 (by kernel_rfl) (by kernel_rfl) (by kernel_rfl) ?hq12 ?hy12 (by assumption) ?_
   case hi12=>(simp only[aR,aS,aP];rfl)
   case hq12=>exact fun _ _ _ h=>h
   case hy12=>(refine aT ⟨by rfl,?_⟩;intro w' hSw;(try dsimp only at hSw);(try go_simp);try with_reducible rfl)
   try simp only[aJ,aK,aH,aG]
   refine aQ (i:=13) (oi:=?oi13) (v:=?v13) ?hi13 (by kernel_rfl) (by kernel_rfl) (by kernel_rfl) ?hq13 ?hy13 (by assumption) ?_
   case hi13=>(simp only[aR,aS,aP];rfl)
   case hq13=>exact fun _ _ _ h=>h
   case hy13=>(refine aT ⟨by rfl,?_⟩;intro w' hSw;(try dsimp only at hSw);(try go_simp);try with_reducible rfl)
   try simp only[aJ,aK,aH,aG]
   refine aQ (i:=14) (oi:=?oi14) (v:=?v14) ?hi14 (by kernel_rfl) (by kernel_rfl) (by kernel_rfl) ?hq14 ?hy14 (by assumption) ?_
   case hi14=>(simp only[aR,aS,aP];rfl)
   case hq14=>exact fun _ _ _ h=>h
   case hy14=>(refine aT ⟨by rfl,?_⟩;intro w' hSw;(try dsimp only at hSw);(try go_simp);try with_reducible rfl)
   try simp only[aJ,aK,aH,aG]
   refine fL (rs:=[15]) (by kernel_rfl) (by simp) ?_;refine fA rfl (fun K hK=>?_) ?_
   rotate_left
   ·exact fM
   go_simp
   go_at_call 118
   refine(wP a o _ rfl _ (by omega)).mono ?_;rintro e w' ⟨rfl,hb⟩
   (try go_wp2_with fail)
   refine hK.out _ _ (iE.keep (by assumption) hlt hb0 hb) (fun hHeld2=>?_);clear hK K
   try simp only[aJ,aK,aH,aG]
   refine aQ (i:=16) (oi:=?oi16) (v:=?v16) ?hi16 (by kernel_rfl) (by kernel_rfl) (by kernel_rfl) ?hq16 ?hy16 (by assumption) ?_
   case hi16=>(simp only[aR,aS,aP];rfl)
   case hq16=>exact fun _ _ _ h=>h
   case hy16=>(refine aT ⟨by rfl,?_⟩;intro w' hSw;(try dsimp only at hSw);(try go_simp);try with_reducible rfl)
   try simp only[aJ,aK,aH,aG]
   refine aQ (i:=17) (oi:=?oi17) (v:=?v17) ?hi17 (by kernel_rfl) (by kernel_rfl) (by kernel_rfl) ?hq17 ?hy17 (by assumption) ?_
   case hi17=>(simp only[aR,aS,aP];rfl)
   case hq17=>exact fun _ _ _ h=>h
   case hy17=>(refine aT ⟨by rfl,?_⟩;intro w' hSw;(try dsimp only at hSw);(try go_simp);try with_reducible rfl)
   try simp only[aJ,aK,aH,aG]
   refine aQ (i:=18) (oi:=?oi18) (v:=?v18) ?hi18 (by kernel_rfl) (by kernel_rfl) (by kernel_rfl) ?hq18 ?hy18 (by assumption) ?_
   case hi18=>(simp only[aR,aS,aP];rfl)
   case hq18=>exact fun _ _ _ h=>h
   case hy18=>(refine aT ⟨by rfl,?_⟩;intro w' hSw;(try dsimp only at hSw);(try go_simp);try with_reducible rfl)
   try simp only[aJ,aK,aH,aG]
   refine aQ (i:=19) (oi:=?oi19) (v:=?v19) ?hi19 (by kernel_rfl) (by kernel_rfl) (by kernel_rfl) ?hq19 ?hy19 (by assumption) ?_
   case hi19=>(simp only[aR,aS,aP];rfl)
   case hq19=>exact fun _ _ _ h=>h
   case hy19=>(refine aT ⟨by rfl,?_⟩;intro w' hSw;(try dsimp only at hSw);(try go_simp);try with_reducible rfl)
   try simp only[aJ,aK,aH,aG]
   refine aQ (i:=20) (oi:=?oi20) (v:=?v20) ?hi20 (by kernel_rfl) (by kernel_rfl) (by kernel_rfl) ?hq20 ?hy20 (by assumption) ?_
   case hi20=>(simp only[aR,aS,aP];rfl)
   case hq20=>exact fun _ _ _ h=>h
   case hy20=>(refine aT ⟨by rfl,?_⟩;intro w' hSw;(try dsimp only at hSw);(try go_simp);try with_reducible rfl)
   try simp only[aJ,aK,aH,aG]
   refine aQ (i:=21) (oi:=?oi21) (v:=?v21) ?hi21 (by kernel_rfl) (by kernel_rfl) (by kernel_rfl) ?hq21 ?hy21 (by assumption) ?_
   case hi21=>(simp only[aR,aS,aP];rfl)
   case hq21=>exact fun _ _ _ h=>h
   case hy21=>(refine aT ⟨by rfl,?_⟩;intro w' hSw;(try dsimp only at hSw);(try go_simp);try with_reducible rfl)
   try simp only[aJ,aK,aH,aG]
   refine aQ (i:=22) (oi:=?oi22) (v:=?v22) ?hi22 (by kernel_rfl) (by kernel_rfl) (by kernel_rfl) ?hq22 ?hy22 (by assumption) ?_
   case hi22=>(simp only[aR,aS,aP];rfl)
   case hq22=>exact fun _ _ _ h=>h
   case hy22=>(refine aT ⟨by rfl,?_⟩;intro w' hSw;(try dsimp only at hSw);(try go_simp);try with_reducible rfl)
   try simp only[aJ,aK,aH,aG]
   refine aQ (i:=23) (oi:=?oi23) (v:=?v23) ?hi23 (by kernel_rfl) (by kernel_rfl) (by kernel_rfl) ?hq23 ?hy23 (by assumption) ?_
   case hi23=>(simp only[aR,aS,aP];rfl)
   case hq23=>exact fun _ _ _ h=>h
   case hy23=>(refine aT ⟨by rfl,?_⟩;intro w' hSw;(try dsimp only at hSw);(try go_simp);try with_reducible rfl)
   try simp only[aJ,aK,aH,aG]
   refine aQ (i:=24) (oi:=?oi24) (v:=?v24) ?hi24 (by kernel_rfl) (by kernel_rfl) (by kernel_rfl) ?hq24 ?hy24 (by assumption) ?_
   case hi24=>(simp only[aR,aS,aP];rfl)
   case hq24=>exact fun _ _ _ h=>h
   case hy24=>(refine aT ⟨by rfl,?_⟩;intro w' hSw;(try dsimp only at hSw);(try go_simp);try with_reducible rfl)
   try simp only[aJ,aK,aH,aG]
   refine aQ (i:=25) (oi:=?oi25) (v:=?v25) ?hi25 (by kernel_rfl) (by kernel_rfl) (by kernel_rfl) ?hq25 ?hy25 (by assumption) ?_
   case hi25=>(simp only[aR,aS,aP];rfl)
   case hq25=>exact fun _ _ _ h=>h
   case hy25=>(refine aT ⟨by rfl,?_⟩;intro w' hSw;(try dsimp only at hSw);(try go_simp);try with_reducible rfl)
   try simp only[aJ,aK,aH,aG]
   refine aQ (i:=26) (oi:=?oi26) (v:=?v26) ?hi26 (by kernel_rfl) (by kernel_rfl) (by kernel_rfl) ?hq26 ?hy26 (by assumption) ?_
   case hi26=>(simp only[aR,aS,aP];rfl)
   case hq26=>exact fun _ _ _ h=>h
   case hy26=>(refine aT ⟨by rfl,?_⟩;intro w' hSw;(try dsimp only at hSw);(try go_simp);try with_reducible rfl)
   try simp only[aJ,aK,aH,aG]
   refine fL (rs:=[27]) (by kernel_rfl) (by simp) ?_;refine fA rfl (fun K hK=>?_) ?_
   rotate_left
   ·exact fM
   go_simp
   go_at_call 149
   refine(XH _ _ (lV ((a.size:Int)+1)) _ (l.take m) _ (HTK.out.below (show iE w wb a o _ b0 (o0+m) _ _ by assumption).2.2.2.2.2.1) (enters_of Tryz.func150 rfl rfl) (HPR.out _ (by assumption))).mono ?_;rintro e w' ⟨rfl,hb⟩;rw[HF.out]
   (try go_wp2_with fail)
   refine hK.out _ _ (iE.keep (by assumption) hlt hb0 hb) (fun hHeld3=>?_);clear hK K
   try simp only[aJ,aK,aH,aG]
   refine aQ (i:=28) (oi:=?oi28) (v:=?v28) ?hi28 (by kernel_rfl) (by kernel_rfl) (by kernel_rfl) ?hq28 ?hy28 (by assumption) ?_
   case hi28=>(simp only[aR,aS,aP];rfl)
   case hq28=>exact fun _ _ _ h=>h
   case hy28=>(refine aT ⟨by rfl,?_⟩;intro w' hSw;(try dsimp only at hSw);(try go_simp);try with_reducible rfl)
   try simp only[aJ,aK,aH,aG]
   refine wpAnyH_done (by kernel_rfl) ?_ _;go_wp2_with fail;go_ret;exact⟨rfl,(show iE w wb a o _ b0 (o0+m) _ _ by assumption).2.2.2.2.2.1⟩
  ·have f2:(y != (a.size:Int)+1)=true:=by simp[hye]
   go_enter Tryz.func126,Tryz.ntmps126;go_upto_region 2 with fail;generalize w.alloc (.cells #[.pointer (some ⟨wb,0,none⟩)] 213)=wa at*
   refine vI (S:=(fun w'=>w'.cell? ⟨w.heap.size,0,none⟩=some (.pointer (some ⟨wb,0,none⟩))/\w'.cell? ⟨wb,0,none⟩=some (.string a)/\w'.cell? ⟨wb,1,none⟩=some (.int .i64 o)/\w'.cell? ⟨wb,2,none⟩=some (.slice (some ⟨b0,o0,none⟩) l.length ca)/\w'.cell? ⟨b0,o0+m,none⟩=some (.int .i64 y)/\Below w.heap.size w w'/\w.heap.size<w'.heap.size)) (by kernel_rfl) (iE.drew z0) (fun hHeld=>?_);refine aQ (i:=0) (oi:=?oib0) (v:=?vb0) ?hib0 (by kernel_rfl) (by kernel_rfl) (by kernel_rfl) ?hqb0 ?hyb0 (by assumption) ?_
   case hib0=>(simp only[aR,aP];rfl)
   case hqb0=>exact fun _ _ _ h=>h
   case hyb0=>(refine aT ⟨by rfl,?_⟩;intro w' hSw;(try dsimp only at hSw);(try go_simp);try with_reducible rfl)
   try simp only[aJ,aK,aH,aG]
   refine aQ (i:=1) (oi:=?oib1) (v:=?vb1) ?hib1 (by kernel_rfl) (by kernel_rfl) (by kernel_rfl) ?hqb1 ?hyb1 (by assumption) ?_
   case hib1=>(simp only[aR,aS,aP];rfl)
   case hqb1=>exact fun _ _ _ h=>h
   case hyb1=>(refine aT ⟨by rfl,?_⟩;intro w' hSw;(try dsimp only at hSw);(try go_simp);try with_reducible rfl)
   try simp only[aJ,aK,aH,aG]
   refine aQ (i:=2) (oi:=?oib2) (v:=?vb2) ?hib2 (by kernel_rfl) (by kernel_rfl) (by kernel_rfl) ?hqb2 ?hyb2 (by assumption) ?_
   case hib2=>(simp only[aR,aS,aP];rfl)
   case hqb2=>exact fun _ _ _ h=>h
   case hyb2=>(refine aT ⟨by rfl,?_⟩;intro w' hSw;(try dsimp only at hSw);(try go_simp);try with_reducible rfl)
   try simp only[aJ,aK,aH,aG]
   refine aQ (i:=3) (oi:=?oib3) (v:=?vb3) ?hib3 (by kernel_rfl) (by kernel_rfl) (by kernel_rfl) ?hqb3 ?hyb3 (by assumption) ?_
   case hib3=>(simp only[aR,aS,aP];rfl)
   case hqb3=>exact fun _ _ _ h=>h
   case hyb3=>(refine aT ⟨by rfl,?_⟩;intro w' hSw;(try dsimp only at hSw);(try go_simp);try with_reducible rfl)
   try simp only[aJ,aK,aH,aG]
   refine aQ (i:=4) (oi:=?oib4) (v:=?vb4) ?hib4 (by kernel_rfl) (by kernel_rfl) (by kernel_rfl) ?hqb4 ?hyb4 (by assumption) ?_
   case hib4=>(simp only[aR,aS,aP];rfl)
   case hqb4=>exact fun _ _ _ h=>h
   case hyb4=>(refine aT ⟨by rfl,?_⟩;intro w' hSw;(try dsimp only at hSw);(try go_simp);try with_reducible rfl)
   try simp only[aJ,aK,aH,aG]
   refine aQ (i:=5) (oi:=?oib5) (v:=?vb5) ?hib5 (by kernel_rfl) (by kernel_rfl) (by kernel_rfl) ?hqb5 ?hyb5 (by assumption) ?_
   case hib5=>(simp only[aR,aS,aP];rfl)
   case hqb5=>exact fun _ _ _ h=>h
   case hyb5=>(refine aT ⟨by rfl,?_⟩;intro w' hSw;(try dsimp only at hSw);(try go_simp);try with_reducible rfl)
   try simp only[aJ,aK,aH,aG]
   refine aQ (i:=6) (oi:=?oib6) (v:=?vb6) ?hib6 (by kernel_rfl) (by kernel_rfl) (by kernel_rfl) ?hqb6 ?hyb6 (by assumption) ?_
   case hib6=>(simp only[aR,aS,aP];rfl)
   case hqb6=>exact fun _ _ _ h=>h
   case hyb6=>(refine aT ⟨by rfl,?_⟩;intro w' hSw;(try dsimp only at hSw);(try go_simp);try with_reducible rfl)
   try simp only[aJ,aK,aH,aG]
   refine aQ (i:=7) (oi:=?oib7) (v:=?vb7) ?hib7 (by kernel_rfl) (by kernel_rfl) (by kernel_rfl) ?hqb7 ?hyb7 (by assumption) ?_
   case hib7=>(simp only[aR,aS,aP];rfl)
   case hqb7=>exact fun _ _ _ h=>h
   case hyb7=>(refine aT ⟨by rfl,?_⟩;intro w' hSw;(try dsimp only at hSw);(try go_simp);try with_reducible rfl)
   try simp only[aJ,aK,aH,aG]
   refine aQ (i:=8) (oi:=?oib8) (v:=?vb8) ?hib8 (by kernel_rfl) (by kernel_rfl) (by kernel_rfl) ?hqb8 ?hyb8 (by assumption) ?_
   case hib8=>(simp only[aR,aS,aP];rfl)
   case hqb8=>exact fun _ _ _ h=>h
   case hyb8=>(refine aT ⟨by rfl,?_⟩;intro w' hSw;(try dsimp only at hSw);(try go_simp);try with_reducible rfl)
   try simp only[aJ,aK,aH,aG]
   refine aQ (i:=9) (oi:=?oib9) (v:=?vb9) ?hib9 (by kernel_rfl) (by kernel_rfl) (by kernel_rfl) ?hqb9 ?hyb9 (by assumption) ?_
   case hib9=>(simp only[aR,aS,aP];rfl)
   case hqb9=>exact fun _ _ _ h=>h
   case hyb9=>(refine aT ⟨by rfl,?_⟩;intro w' hSw;(try dsimp only at hSw);(try go_simp);try with_reducible rfl)
   try simp only[aJ,aK,aH,aG]
   refine aQ (i:=10) (oi:=?oib10) (v:=?vb10) ?hib10 (by kernel_rfl) (by kernel_rfl) (by kernel_rfl) ?hqb10 ?hyb10 (by assumption) ?_
   case hib10=>(simp only[aR,aS,aP];rfl)
   case hqb10=>exact fun _ _ _ h=>h
   case hyb10=>(refine aT ⟨by rfl,?_⟩;intro w' hSw;(try dsimp only at hSw);(try go_simp);try with_reducible rfl)
   try simp only[aJ,aK,aH,aG]
   refine aQ (i:=11) (oi:=?oib11) (v:=?vb11) ?hib11 (by kernel_rfl) (by kernel_rfl) (by kernel_rfl) ?hqb11 ?hyb11 (by assumption) ?_
   case hib11=>(simp only[aR,aS,aP];rfl)
   case hqb11=>exact fun _ _ _ h=>h
   case hyb11=>(refine aT ⟨by rfl,?_⟩;intro w' hSw;(try dsimp only at hSw);(try go_simp);try with_reducible rfl)
   try simp only[aJ,aK,aH,aG]
   refine aQ (i:=12) (oi:=?oib12) (v:=?vb12) ?hib12 (by kernel_rfl) (by kernel_rfl) (by kernel_rfl) ?hqb12 ?hyb12 (by assumption) ?_
   case hib12=>(simp only[aR,aS,aP];rfl)
   case hqb12=>exact fun _ _ _ h=>h
   case hyb12=>(refine aT ⟨by rfl,?_⟩;intro w' hSw;(try dsimp only at hSw);(try go_simp);try with_reducible rfl)
   try simp only[aJ,aK,aH,aG]
   refine aQ (i:=13) (oi:=?oib13) (v:=?vb13) ?hib13 (by kernel_rfl) (by kernel_rfl) (by kernel_rfl) ?hqb13 ?hyb13 (by assumption) ?_
   case hib13=>(simp only[aR,aS,aP];rfl)
   case hqb13=>exact fun _ _ _ h=>h
   case hyb13=>(refine aT ⟨by rfl,?_⟩;intro w' hSw;(try dsimp only at hSw);(try go_simp);try with_reducible rfl)
   try simp only[aJ,aK,aH,aG]
   refine aQ (i:=14) (oi:=?oib14) (v:=?vb14) ?hib14 (by kernel_rfl) (by kernel_rfl) (by kernel_rfl) ?hqb14 ?hyb14 (by assumption) ?_
   case hib14=>(simp only[aR,aS,aP];rfl)
   case hqb14=>exact fun _ _ _ h=>h
   case hyb14=>(refine aT ⟨by rfl,?_⟩;intro w' hSw;(try dsimp only at hSw);(try go_simp);try with_reducible rfl)
   try simp only[aJ,aK,aH,aG]
   refine fL (rs:=[15]) (by kernel_rfl) (by simp) ?_;refine fA rfl (fun K hK=>?_) ?_
   rotate_left
   ·exact fM
   go_simp
   go_at_call 118
   refine(wP a o _ rfl _ (by omega)).mono ?_;rintro e w' ⟨rfl,hb⟩
   (try go_wp2_with fail)
   refine hK.out _ _ (iE.keep (by assumption) hlt hb0 hb) (fun hHeld2=>?_);clear hK K
   try simp only[aJ,aK,aH,aG]
   refine aQ (i:=16) (oi:=?oib16) (v:=?vb16) ?hib16 (by kernel_rfl) (by kernel_rfl) (by kernel_rfl) ?hqb16 ?hyb16 (by assumption) ?_
   case hib16=>(simp only[aR,aS,aP];rfl)
   case hqb16=>exact fun _ _ _ h=>h
   case hyb16=>(refine aT ⟨by rfl,?_⟩;intro w' hSw;(try dsimp only at hSw);(try go_simp);try with_reducible rfl)
   try simp only[aJ,aK,aH,aG]
   refine aQ (i:=17) (oi:=?oib17) (v:=?vb17) ?hib17 (by kernel_rfl) (by kernel_rfl) (by kernel_rfl) ?hqb17 ?hyb17 (by assumption) ?_
   case hib17=>(simp only[aR,aS,aP];rfl)
   case hqb17=>exact fun _ _ _ h=>h
   case hyb17=>(refine aT ⟨by rfl,?_⟩;intro w' hSw;(try dsimp only at hSw);(try go_simp);try with_reducible rfl)
   try simp only[aJ,aK,aH,aG]
   refine aQ (i:=18) (oi:=?oib18) (v:=?vb18) ?hib18 (by kernel_rfl) (by kernel_rfl) (by kernel_rfl) ?hqb18 ?hyb18 (by assumption) ?_
   case hib18=>(simp only[aR,aS,aP];rfl)
   case hqb18=>exact fun _ _ _ h=>h
   case hyb18=>(refine aT ⟨by rfl,?_⟩;intro w' hSw;(try dsimp only at hSw);(try go_simp);try with_reducible rfl)
   try simp only[aJ,aK,aH,aG]
   refine aQ (i:=19) (oi:=?oib19) (v:=undef) ?hib19 (by kernel_rfl) (by kernel_rfl) (by kernel_rfl) ?hqb19 ?hyb19 (by assumption) ?_
   case hib19=>(simp only[aR,aS,aP];rfl)
   case hqb19=>exact fun _ _ _ h=>h
   case hyb19=>exact Or.inr ⟨by rfl,rfl⟩
   try simp only[aJ,aK,aH,aG]
   refine aQ (i:=20) (oi:=?oib20) (v:=undef) ?hib20 (by kernel_rfl) (by kernel_rfl) (by kernel_rfl) ?hqb20 ?hyb20 (by assumption) ?_
   case hib20=>(simp only[aR,aS,aP];rfl)
   case hqb20=>exact fun _ _ _ h=>h
   case hyb20=>exact Or.inr ⟨by rfl,rfl⟩
   try simp only[aJ,aK,aH,aG]
   refine aQ (i:=21) (oi:=?oib21) (v:=undef) ?hib21 (by kernel_rfl) (by kernel_rfl) (by kernel_rfl) ?hqb21 ?hyb21 (by assumption) ?_
   case hib21=>(simp only[aR,aS,aP];rfl)
   case hqb21=>exact fun _ _ _ h=>h
   case hyb21=>exact Or.inr ⟨by rfl,rfl⟩
   try simp only[aJ,aK,aH,aG]
   refine aQ (i:=22) (oi:=?oib22) (v:=undef) ?hib22 (by kernel_rfl) (by kernel_rfl) (by kernel_rfl) ?hqb22 ?hyb22 (by assumption) ?_
   case hib22=>(simp only[aR,aS,aP];rfl)
   case hqb22=>exact fun _ _ _ h=>h
   case hyb22=>exact Or.inr ⟨by rfl,rfl⟩
   try simp only[aJ,aK,aH,aG]
   refine aQ (i:=23) (oi:=?oib23) (v:=undef) ?hib23 (by kernel_rfl) (by kernel_rfl) (by kernel_rfl) ?hqb23 ?hyb23 (by assumption) ?_
   case hib23=>(simp only[aR,aS,aP];rfl)
   case hqb23=>exact fun _ _ _ h=>h
   case hyb23=>exact Or.inr ⟨by rfl,rfl⟩
   try simp only[aJ,aK,aH,aG]
   refine aQ (i:=24) (oi:=?oib24) (v:=undef) ?hib24 (by kernel_rfl) (by kernel_rfl) (by kernel_rfl) ?hqb24 ?hyb24 (by assumption) ?_
   case hib24=>(simp only[aR,aS,aP];rfl)
   case hqb24=>exact fun _ _ _ h=>h
   case hyb24=>exact Or.inr ⟨by rfl,rfl⟩
   try simp only[aJ,aK,aH,aG]
   refine aQ (i:=25) (oi:=?oib25) (v:=undef) ?hib25 (by kernel_rfl) (by kernel_rfl) (by kernel_rfl) ?hqb25 ?hyb25 (by assumption) ?_
   case hib25=>(simp only[aR,aS,aP];rfl)
   case hqb25=>exact fun _ _ _ h=>h
   case hyb25=>exact Or.inr ⟨by rfl,rfl⟩
   try simp only[aJ,aK,aH,aG]
   refine aQ (i:=26) (oi:=?oib26) (v:=undef) ?hib26 (by kernel_rfl) (by kernel_rfl) (by kernel_rfl) ?hqb26 ?hyb26 (by assumption) ?_
   case hib26=>(simp only[aR,aS,aP];rfl)
   case hqb26=>exact fun _ _ _ h=>h
   case hyb26=>exact Or.inr ⟨by rfl,rfl⟩
   try simp only[aJ,aK,aH,aG]
   refine aQ (i:=27) (oi:=?oib27) (v:=undef) ?hib27 (by kernel_rfl) (by kernel_rfl) (by kernel_rfl) ?hqb27 ?hyb27 (by assumption) ?_
   case hib27=>(simp only[aR,aS,aP];rfl)
   case hqb27=>exact fun _ _ _ h=>h
   case hyb27=>exact Or.inr ⟨by rfl,rfl⟩
   try simp only[aJ,aK,aH,aG]
   refine aQ (i:=28) (oi:=?oib28) (v:=?vb28) ?hib28 (by kernel_rfl) (by kernel_rfl) (by kernel_rfl) ?hqb28 ?hyb28 (by assumption) ?_
   case hib28=>(simp only[aR,aS,aP];rfl)
   case hqb28=>exact fun _ _ _ h=>h
   case hyb28=>(refine aT ⟨by rfl,?_⟩;intro w' hSw;(try dsimp only at hSw);(try go_simp);try with_reducible rfl)
   try simp only[aJ,aK,aH,aG]
   refine wpAnyH_done (by kernel_rfl) ?_ _;go_wp2_with fail;go_ret;exact⟨rfl,(show iE w wb a o _ b0 (o0+m) y _ by assumption).2.2.2.2.2.1⟩
end
end Go.Proofs.YtmcogmmncfihhaaGreatDoor
