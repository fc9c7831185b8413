/-
  Texts put together (W3): walks and plain laws on which the statement stands.
-/
import Derived.Test.YtpgmbhpbgkljdaaGreatDoorW2
import Derived.Test.YtpgmbhpbgkljdaaGreatDoorW1
import Derived.Test.YtpgmbhpbgkljdaaGreatDoorZ23
import Derived.Test.YtpgmbhpbgkljdaaGreatDoorZ6
set_option maxRecDepth 100000
set_option maxHeartbeats 12800000
set_option linter.unusedVariables false
set_option linter.unusedSimpArgs false
namespace Go.Proofs.YtpgmbhpbgkljdaaGreatDoor
section
open Go.RowKit Go Go.Shelf
attribute [local go_sem] Oper.semAt_some
abbrev PrtE:=Prt×Int
def encPE (x:PrtE):Array Value:=#[.agg #[.string x.1.t,.int .u32 x.1.y,.int .i64 x.1.a,.int .i64 x.1.z,.int .i64 x.1.r],.int .i64 x.2]
def TyCons:List TypeId:=[83,90,26]
def TyIter:List TypeId:=[190,34,9]
structure KeepR (B:Nat) (W W':World):Prop where
 bel:Below B W W'
 ty:TyKept TyCons none W W'
theorem KeepR.trans {B:Nat} {X Y Z:World} (h:KeepR B X Y) (k:KeepR B Y Z):KeepR B X Z:=⟨h.bel.trans k.bel,h.ty.trans k.ty⟩
theorem KeepR.of {B:Nat} {X Y:World} (h:Below X.heap.size X Y) (hB:B<=X.heap.size):KeepR B X Y:=⟨h.mono hB,.of_below h⟩
theorem KeepR.drew (B:Nat) (X:World):KeepR B X X.drew:=⟨(Below.refl B X).drew,Nat.le_refl _,fun _ _ _ _ h _ _=>h⟩
theorem KeepR.drewN (B:Nat) (X:World) (n:Nat):KeepR B X (X.drewN n):=⟨⟨rfl,rfl,rfl,Nat.le_refl _,fun _ _=>rfl⟩,Nat.le_refl _,fun _ _ _ _ h _ _=>h⟩
theorem KeepR.set {B b i:Nat} {X:World} {l:List Value} (h:Arr X b 190 l) (hB:B<=b) (v:Value):KeepR B X (X.setCell ⟨b,i,none⟩ v):=
 ⟨(Below.refl B X).setCell (p:=⟨b,i,none⟩) hB v,.box h (by unfold TyCons;decide) v⟩
theorem KeepR.grown {B b:Nat} {X Y:World} {l:List Value} (h:X.grownBy Y (some b)) (ha:Arr X b 190 l) (hB:B<=b):KeepR B X Y:=
 ⟨(Below.refl B X).grown h (by have:=ha.lt;omega) (fun k hk=>by cases hk;exact hB),.grownBox h ha (by unfold TyCons;decide)⟩
abbrev JOk (B:Nat) (J:List PrtE->World->Prop):Prop:=∀s X Y,J s X->KeepR B X Y->J s Y
abbrev YOk (n l B:Nat) (T:List PrtE) (J Jx:List PrtE->World->Prop):Prop:=∀pre x W1,J pre W1->B<=W1.heap.size->(∃r,T=pre++x::r)->
 YieldAt Fence.wide n Tryz.prog l (encPE x) W1 fun e W'=>(e=.returned (.bool true)/\J (pre++[x]) W'/\TyKept TyIter none W1 W')\/(e=.returned (.bool false)/\Jx (pre++[x]) W')
def sumsB (l:List Prt):List (BitVec 32):=l.map (fun p=>BitVec.ofInt 32 p.y)
theorem SRd.kept {W W':World} {b:Nat} {s:ByteArray} {a:Int} {v:Value} (h:SRd W b s a v) (k:TyKept TyIter none W W'):SRd W' b s a v:=k.arr h (by unfold TyIter;decide) (fun e=>by cases e)
theorem OwS.kept {W W':World} {B:Nat} {v:Value} {l:List (BitVec 32)} (h:OwS W B v l) (k:TyKept TyIter none W W'):OwS W' B v l:=TyKept.own k h (by unfold TyIter;decide)
theorem stream_err {s:List UInt8} {a:Int} {pre T:List PrtE} {acc:List Prt} {E:Int} (h:InT s a pre T) (h1:(strD s a).1=acc) (h2:(strD s a).2.2=E) (hE:E≠0):T=(pre++okP acc)++[(zeroP,E)]:=by
 have:=h.bad (by rw[h2];exact hE);rw[h1,h2] at this;exact this
theorem run_appU {w:World} (ty:TypeId) (base:Nat) (v:Value) (l:List (BitVec 32)) (hown:OwS w base v l) (g:Nat) (n:BitVec 32) (hc:w.cell? ⟨g,0,none⟩=some (.int .u32 (n.toNat:Int))) (hroom:(l.length+1)*4<=140737488355328) (hbase:base<=w.heap.size):
  ∃v' w',(Builtin.append_ #[44,44] ty #[v,.slice (some ⟨g,0,none⟩) 1 1]).run Tryz.prog w=.ok v' w'/\OwS w' base v' (l++[n])/\Below base w w'/\w.grownBy w' v.ownBlock:=by
 obtain⟨i,hi,hz,h2,h3⟩:=info_parts (show(Tryz.prog.info? 34).map (fun i=>(i.zero,i.size,i.bytes))=some (some (.int .u32 0),1,4) by kernel_rfl);obtain⟨v',w',q1,q2,q3,_⟩:=run_append_own (P:=Tryz.prog) w base 44 ty 34 i _ 1 4 Tryz.underlying44 hi hz h2 h3 rfl (by decide) v (sumV l).length (sumV l) hown ⟨g,0,none⟩ 1 1 [.int .u32 (n.toNat:Int)] rfl (fun j u' hj=>by
  cases j with
  |zero=>simp at hj;subst hj;simpa [Addr.add] using hc
  |succ j=>simp at hj) (fun u' hu=>by obtain rfl:=List.mem_singleton.1 hu;rfl) (by rw[sumV_length];simp only[maxLen];omega) (by rw[sumV_length];exact hroom) hbase
 refine⟨v',w',q1,?_,rC hown q3 hbase,q3⟩;unfold OwS sumV;rw[List.map_append];unfold Ow;rw[List.length_append];exact q2
theorem bad_yield {n l B:Nat} {T pre:List PrtE} {J Jx:List PrtE->World->Prop} {E:Int} {X:World} (hY:YOk n l B T J Jx) (hT:T=pre++[(zeroP,E)]) (hJ:J pre X) (hB:B<=X.heap.size):
  ∃fn tmps assign body,(Instr.yield l #[.agg #[.string ⟨#[]⟩,.int .u32 0,.int .i64 0,.int .i64 0,.int .i64 0],.int .i64 E]).run Tryz.prog X=.ok (.round l fn tmps assign body) X/\
   RoundIn Fence.wide n Tryz.prog l fn tmps assign body X (fun e W'=>(∃c,e=.returned (.bool c))/\(J T W'\/∃p,Jx p W')):=by
 obtain⟨fn,tmps,assign,body,hy,hR⟩:=hY _ (zeroP,E) X hJ hB ⟨[],hT⟩;refine⟨fn,tmps,assign,body,hy,hR.mono ?_⟩;rintro e W' (⟨rfl,hj,-⟩|⟨rfl,hj⟩)
 ·exact⟨⟨_,rfl⟩,.inl (by rw[hT];exact hj)⟩
 ·exact⟨⟨_,rfl⟩,.inr ⟨_,hj⟩⟩
theorem Arr.otherRow {w w':World} {z e B e' size n:Nat} {l:List Value} {v:Value} {xs:List Value} (h:Arr w z e l) (ho:w.ownsRow B e' size v n xs) (hg:w.grownBy w' v.ownBlock) (he:e≠e'):Arr w' z e l:=by
 refine h.grown hg ?_;rcases ho.2 with⟨rfl,_⟩|⟨g,cap,cur,rfl,_,hgc,_⟩
 ·exact fun q=>by cases q
 ·intro q;obtain rfl:=Option.some.inj q;have h2:w.heap[z]? =some (.cells l.toArray e (0,0)):=h;rw[h2] at hgc
  injection hgc with hgc
  injection hgc with _ q2 _
  exact he q2
theorem ofNat_sum {y:Nat} (h:y<4294967296):(BitVec.ofNat 32 y).toNat=y:=by rw[BitVec.toNat_ofNat];exact Nat.mod_eq_of_lt h
theorem keepZ {w0 w1 w2:World} {b z:Nat} {u0 u1:Value} (h:w1.cell? ⟨b,0,none⟩=some u0/\w1.cell? ⟨b,1,none⟩=some u1/\(∃y0 y1 y2 y3,Arr w1 z 36 [y0,y1,y2,y3])/\Below z w0 w1/\z+1<=w1.heap.size) (hb:Below w1.heap.size w1 w2):w2.cell? ⟨b,0,none⟩=some u0/\w2.cell? ⟨b,1,none⟩=some u1/\(∃y0 y1 y2 y3,Arr w2 z 36 [y0,y1,y2,y3])/\Below z w0 w2/\z+1<=w2.heap.size:=by
 obtain⟨h1,h2,⟨y0,y1,y2,y3,h3⟩,h4,h5⟩:=h;exact⟨(hb.cell (World.block_lt_of_cell? w1 _ h1)).trans h1,(hb.cell (World.block_lt_of_cell? w1 _ h2)).trans h2,⟨y0,y1,y2,y3,h3.below hb h3.lt⟩,h4.trans (hb.mono (by omega)),Nat.le_trans h5 hb.size⟩
theorem keepZS {w0 w1:World} {b z:Nat} {u0 u1:Value} (h:w1.cell? ⟨b,0,none⟩=some u0/\w1.cell? ⟨b,1,none⟩=some u1/\(∃y0 y1 y2 y3,Arr w1 z 36 [y0,y1,y2,y3])/\Below z w0 w1/\z+1<=w1.heap.size) (hbz:b<z) (v0 v1 v2 v3:Value) (w2:World) (hw:w2=(((w1.setCell ⟨z,0,none⟩ v0).setCell ⟨z,1,none⟩ v1).setCell ⟨z,2,none⟩ v2).setCell ⟨z,3,none⟩ v3):w2.cell? ⟨b,0,none⟩=some u0/\w2.cell? ⟨b,1,none⟩=some u1/\(∃y0 y1 y2 y3,Arr w2 z 36 [y0,y1,y2,y3])/\Below z w0 w2/\z+1<=w2.heap.size:=by
 obtain⟨h1,h2,⟨y0,y1,y2,y3,h3⟩,h4,h5⟩:=h;have hB:Below z w1 w2:=by rw[hw];exact((((Below.refl z w1).setCell (p:=⟨z,0,none⟩) (Nat.le_refl _) v0).setCell (p:=⟨z,1,none⟩) (Nat.le_refl _) v1).setCell (p:=⟨z,2,none⟩) (Nat.le_refl _) v2).setCell (p:=⟨z,3,none⟩) (Nat.le_refl _) v3
 have hA:Arr w2 z 36 [v0,v1,v2,v3]:=by rw[hw];exact(((h3.set 0 v0).set 1 v1).set 2 v2).set 3 v3
 exact⟨(hB.cell (p:=⟨b,0,none⟩) hbz).trans h1,(hB.cell (p:=⟨b,1,none⟩) hbz).trans h2,⟨v0,v1,v2,v3,hA⟩,h4.trans hB,by have:=hA.lt;omega⟩
def StQ (s:List UInt8) (R:Int) (P:List Prt×Int×Int) (g:Nat) (E:Int) (acc:List Prt) (a:Nat):Prop:=
 (E=0/\P=strF s R g (a:Int) acc/\40<=R/\R<=360/\a<=8*s.length/\8*s.length+33<=g+a/\acc.length+g<=8*s.length+1)\/(E≠0/\P.1=acc/\P.2.2=E)
theorem strF_succ (s:List UInt8) (r:Int) (f:Nat) (a:Int) (acc:List Prt):strF s r (f+1) a acc=if aO s.length a 48≠0 then(acc,a,aO s.length a 48)
  else if aE s a 48=0x177245385090 then(acc,(endD s a (allB (sumsB acc))).1,(endD s a (allB (sumsB acc))).2)
  else if aE s a 48≠0x314159265359 then(acc,a,3)
  else if(cL s a r).2.2.2≠0 then(acc,a,(cL s a r).2.2.2)
  else strF s r f (cL s a r).2.2.1 (acc++[⟨(cL s a r).1,(cL s a r).2.1,a,(cL s a r).2.2.1,r⟩]):=rfl
theorem stream_in (n:Nat) (hn:1<=n) (l b B0 k:Nat) (s:ByteArray) (v0:Value) (pre0 T:List PrtE) (J Jx:List PrtE->World->Prop) (W:World) (hs:s.size<=120000) (hk:k<s.size)
  (hA:SRd W b s ((8*k:Nat):Int) v0) (hbB:B0<=b) (hJ:JOk B0 J) (hJE:∀p X,J p X->iF X) (hY:YOk (n-1) l B0 T J Jx) (hIn:InT s.data.toList ((8*k:Nat):Int) pre0 T) (h0:J pre0 W):
  CallsIn Fence.wide n Tryz.prog 120 #[.pointer (some ⟨b,0,none⟩),.func (.yield l) #[] #[]] W fun e W'=>
   (e=.returned (.bool true)/\(strD s.data.toList ((8*k:Nat):Int)).2.2=0/\J (pre0++okP (strD s.data.toList ((8*k:Nat):Int)).1) W'/\∃v,SRd W' b s (strD s.data.toList ((8*k:Nat):Int)).2.1 v)\/
   (e=.returned (.bool false)/\(J T W'\/∃pre,Jx pre W')):=by
 refine callsIn_of_wp Tryz.func120 rfl trivial ?_ rfl;simp only[Tryz.ntmps120,List.size_toArray,List.length_cons,List.length_nil,Nat.reduceAdd,Nat.reduceSub,Array.replicate_succ,Array.replicate_zero,List.push_toArray,List.append_toArray,List.nil_append,List.cons_append];have HL:=hid (show s.data.toList.length=s.size by simp);have hbW:b<W.heap.size:=Arr.lt hA;have hroom:=fun X=>room_any s k X (by omega) (by omega)
 obtain⟨R,E0,hRE⟩:∃R E0,roomL s.data.toList k=(R,E0):=⟨_,_,rfl⟩;rw[hRE] at hroom;have hrok:E0=0->40<=R/\R<=360/\R%40=0/\k+4<=s.size:=fun h=>by
  have h1:=room_ok (s:=s.data.toList) (k:=k) (by rw[hRE];exact h);rw[hRE] at h1;refine⟨h1.1,h1.2.1,h1.2.2,?_⟩;refine Nat.le_of_not_lt fun q=>?_
  have:roomL s.data.toList k=(0,2):=by unfold roomL;rw[if_pos (by rw[HL.out];exact q)]
  rw[hRE] at this
  injection this with _ h2
  rw[h] at h2;exact absurd h2 (by decide)
 have hD:strD s.data.toList ((8*k:Nat):Int)=if E0≠0 then([],((8*k:Nat):Int),E0) else strF s.data.toList R (8*s.size+1) ((8*k+32:Nat):Int) []:=by
  unfold strD;rw[show(((8*k:Nat):Int)/8).toNat=k by omega,hRE,HL.out];rfl
 obtain⟨P1,P2,P3,hP⟩:∃P1 P2 P3,strD s.data.toList ((8*k:Nat):Int)=(P1,P2,P3):=⟨_,_,_,rfl⟩;have herr:=fun acc E h1 h2 hE=>stream_err (acc:=acc) (E:=E) hIn h1 h2 hE
 have hpart:=hIn.part;rw[hP] at hD herr hpart ⊢;simp only at herr hpart ⊢;obtain⟨A0,hA0⟩:∃A0,A0=8*k:=⟨_,rfl⟩;rw[<-hA0] at hA;have m1:(A0:Int).tdiv 8=(k:Int):=by rw[Int.tdiv_eq_ediv_of_nonneg (by omega)];omega
 have m1':IntKind.i64.wrap (k:Int)=(k:Int):=by rw[IntKind.wrap_i64];omega
 obtain⟨A1,hA1⟩:∃A1,A1=A0+32:=⟨_,rfl⟩;have m2:IntKind.i64.wrap ((A0:Int)+32)=(A1:Int):=by rw[IntKind.wrap_i64];omega
 have m2':(A0:Int)+32=(A1:Int):=by omega
 rw[show 8*k+32=A1 by omega] at hD;have HP:=hid hP;have HD:=hid hD;have c0:=Arr.cell hA (i:=0) rfl;have c1:=Arr.cell hA (i:=1) rfl;have hA1b:A1<=1000000:=by omega
 have hA0b:A0<=1000000:=by omega
 have HA0:=hid hA0;have HA1:=hid hA1;clear hD hP hIn hRE hA0 hA1
 gi_wp2_with fail
 refine wpIn_wide.2 ?_
 go_quiet (first|(go_at_call 139;exact Calls.quiet_of_same (hroom _)))
 generalize hWn:W.drewN nq=W1 at*
 have hA1':SRd W1 b s (A0:Int) v0:=by rw[<-hWn];exact hA
 have hJ1:J pre0 W1:=hJ _ _ _ h0 (by rw[<-hWn];exact KeepR.drewN _ _ _);have d1:=Arr.cell hA1' (i:=1) rfl;have f1:=Arr.free hA1' 1;have hA2:SRd (W1.setCell ⟨b,1,none⟩ (.int .i64 (A1:Int))) b s (A1:Int) v0:=Arr.set hA1' 1 _;have d2:=Arr.cell hA2 (i:=2) rfl;have f2:=Arr.free hA2 2;have hA3:SRd ((W1.setCell ⟨b,1,none⟩ (.int .i64 (A1:Int))).setCell ⟨b,2,none⟩ (.slice none 0 0)) b s (A1:Int) (.slice none 0 0):=Arr.set hA2 2 _;have hJ3:J pre0 ((W1.setCell ⟨b,1,none⟩ (.int .i64 (A1:Int))).setCell ⟨b,2,none⟩ (.slice none 0 0)):=hJ _ _ _ hJ1 ((KeepR.set hA1' hbB _).trans (KeepR.set hA2 hbB _))
 have hbW3:=Arr.lt hA3;have HQ:=hid (show StQ s.data.toList R (P1,P2,P3) (8*s.size+1) E0 [] A1 by
  have h:=HD.out;have hA0:=HA0.out;have hA1:=HA1.out;unfold StQ;rw[HL.out]
  by_cases q:E0=0
  ·obtain⟨r1,r2,-,r4⟩:=hrok q;rw[if_neg (fun z=>z q)] at h;exact .inl ⟨q,h,r1,r2,by omega,by omega,by simp⟩
  ·rw[if_pos q] at h
   injection h with x1 x2
   injection x2 with x2 x3
   exact .inr ⟨q,x1,x3⟩)
 clear hWn hA h0 c0 c1 hrok hroom HD hbW m1 m1' HA0 HA1
 gi_wp2_with fail
 generalize (W1.setCell ⟨b,1,none⟩ (.int .i64 (A1:Int))).setCell ⟨b,2,none⟩ (.slice none 0 0)=W3 at*
 obtain⟨B1,hB1⟩:∃B1,B1=W3.heap.size:=⟨_,rfl⟩;have hbB1:b<B1:=by omega
 have hsz3:B1<=W3.heap.size:=by omega
 clear d1 f1 d2 f2 hA1' hJ1 hA2 m2 m2' hB1 hbW3
 gi_loopg [4,6,7,8] (8*s.size+1) (fun g c4 c6 _c7 _c8 wr=>∃(E:Int) (acc:List Prt) (a:Nat) (v:Value),c4=.bool false/\c6=.int .i64 E/\J (pre0++okP acc) wr/\SRd wr b s (a:Int) v/\OwS wr B1 v (sumsB acc)/\B1<=wr.heap.size/\Hid (StQ s.data.toList R (P1,P2,P3) g E acc a))
 case atStart=>exact⟨E0,[],A1,.slice none 0 0,rfl,rfl,by simpa [okP] using hJ3,hA3,Ow.nil _ _ _,hsz3,HQ⟩
 case round=>
  clear hJ3 hA3 HQ hsz3;obtain⟨E,acc,a,v,rfl,rfl,hJr,hAr,hor,hszr,HQ⟩:=hrel;rcases HQ.out with⟨rfl,hP',hR1,hR2,ha1,ha2,ha3⟩|⟨hE0,hp1,hp3⟩
  rotate_left
  ·have t1:(E==0)=false:=by rw[beq_eq_false_iff_ne];exact hE0
   have hT:=herr acc E hp1 hp3 hE0;obtain⟨fn,tmps,assign,body,hy,hR⟩:=bad_yield hY hT hJr (by omega);clear hp1 hp3 HQ herr hpart hE0 hT
   gi_wp2_with fail
   refine hR.mono ?_;rintro e W5 ⟨⟨c,rfl⟩,hfin⟩
   gi_wp2_with fail
   go_ret;exact .inr ⟨rfl,hfin⟩
  obtain⟨f,rfl⟩:∃f,gk=f+1:=⟨gk-1,by omega⟩;rw[strF_succ,HL.out] at hP';rw[HL.out] at ha1 ha2 ha3;have hg:=fun X=>sT s (a:Int) 48 X (by omega) (by decide) (by omega) (by omega)
  obtain⟨E1,hE1⟩:∃E1,E1=aO s.size (a:Int) 48:=⟨_,rfl⟩;obtain⟨V,hV⟩:∃V,V=aE s.data.toList (a:Int) 48:=⟨_,rfl⟩;rw[<-hE1,<-hV] at hg hP';have HPP:=hid hP';have c0:=Arr.cell hAr (i:=0) rfl;have c1:=Arr.cell hAr (i:=1) rfl;clear hE1 hV hP' HQ
  gi_wp2_with fail
  refine wpIn_wide.2 ?_
  go_quiet (first|(go_at_call 25;exact Calls.quiet_of_same (hg _)))
  generalize hWn:wr.drewN nq=W4 at*
  have hA4:SRd W4 b s (a:Int) v:=by rw[<-hWn];exact hAr
  have hJ4:J (pre0++okP acc) W4:=hJ _ _ _ hJr (by rw[<-hWn];exact KeepR.drewN _ _ _);have ho4:OwS W4 B1 v (sumsB acc):=by rw[<-hWn];exact hor
  have hs4:B1<=W4.heap.size:=by rw[<-hWn];exact hszr
  clear hWn hAr hJr hor hszr c0 c1 hg
  by_cases h1:E1=0
  rotate_left
  ·have t1:(E1 != 0)=true:=by rw[bne_iff_ne];exact h1
   have hP:=HPP.out;rw[if_pos h1] at hP
   injection hP with x1 x2
   injection x2 with x2 x3
   have hT:=herr acc E1 x1 x3 h1;obtain⟨fn,tmps,assign,body,hy,hR⟩:=bad_yield hY hT hJ4 (by omega);clear x1 x2 x3 herr hpart h1 hT
   gi_wp2_with fail
   refine hR.mono ?_;rintro e W5 ⟨⟨c,rfl⟩,hfin⟩
   gi_wp2_with fail
   go_ret;exact .inr ⟨rfl,hfin⟩
  subst h1;have hP:=HPP.out;rw[if_neg (fun z=>z rfl)] at hP
  by_cases h2:V=25779555029136
  ·rw[if_pos h2] at hP;subst h2;obtain⟨Q1,Q2,hQ⟩:∃Q1 Q2,endD s.data.toList (a:Int) (allB (sumsB acc))=(Q1,Q2):=⟨_,_,rfl⟩;have hend:=strEnd_any b B1 s a v (sumsB acc) W4 hA4 ho4 hbB1 (by omega) (by omega);rw[hQ] at hend hP
   injection hP with x1 x2
   injection x2 with x2 x3
   have HX:=hid (show P1=acc/\P2=Q1/\P3=Q2 from⟨x1,x2,x3⟩);clear x1 x2 x3 hQ HPP
   gi_wp2_with fail
   refine⟨trivial,(callsIn_wide.2 hend).mono ?_⟩;rintro e W5 ⟨rfl,hg5,a',hA5,hpos⟩;have hJ5:=hJ _ _ _ hJ4 (KeepR.grown hg5 hA4 hbB);have hs5:=hg5.size
   by_cases h3:Q2=0
   ·subst h3;have HP2:=hid (hpos rfl);clear hpos hend herr hpart
    gi_wp2_with fail
    refine⟨fun _ _=>trivial,?_⟩
    gi_wp2_with fail
    go_ret;obtain⟨y1,y2,y3⟩:=HX.out;exact .inl ⟨rfl,y3,by rw[y1];exact hJ5,v,by rw[y2,<-HP2.out];exact hA5⟩
   ·have t1:(Q2==0)=false:=by rw[beq_eq_false_iff_ne];exact h3
    have hT:=herr acc Q2 HX.out.1 HX.out.2.2 h3;obtain⟨fn,tmps,assign,body,hy,hR⟩:=bad_yield hY hT hJ5 (by omega);clear hpos hend herr hpart h3 hT
    gi_wp2_with fail
    refine hR.mono ?_;rintro e W6 ⟨⟨c,rfl⟩,hfin⟩
    gi_wp2_with fail
    go_ret;exact .inr ⟨rfl,hfin⟩
  have u1:((V:Int)==25779555029136)=false:=by rw[beq_eq_false_iff_ne];omega
  have u1':(V==25779555029136)=false:=by rw[beq_eq_false_iff_ne];exact h2
  rw[if_neg h2] at hP
  by_cases h3:V=54156738319193
  rotate_left
  ·have u2:((V:Int)==54156738319193)=false:=by rw[beq_eq_false_iff_ne];omega
   have u2':(V==54156738319193)=false:=by rw[beq_eq_false_iff_ne];exact h3
   rw[if_pos h3] at hP
   injection hP with x1 x2
   injection x2 with x2 x3
   have HX:=hid (show P1=acc/\P3=3 from⟨x1,x3⟩);clear x1 x2 x3 HPP h2 h3 herr hpart
   gi_wp2_with fail
   gi_roundg 0
   case measure=>omega
   case rel=>exact⟨3,acc,a,v,rfl,rfl,hJ4,hA4,ho4,hs4,hid (.inr ⟨by decide,HX.out.1,HX.out.2⟩)⟩
  rw[if_neg (fun z=>z h3)] at hP;subst h3;have hdec:=fun X (hX:iF X)=>MW s (a:Int) R X hX (by omega) (by omega) (by omega) (by omega) (by omega)
  unfold EV at hdec;have hok:=YK (s:=s.data.toList) (at':=(a:Int)) (room:=R);obtain⟨D1,D2,D3,D4,hD⟩:∃D1 D2 D3 D4,cL s.data.toList (a:Int) R=(D1,D2,D3,D4):=⟨_,_,_,_,rfl⟩;rw[hD] at hdec hP hok;unfold wT at hdec;simp only at hdec hP hok;obtain⟨A',hA'⟩:∃A':Int,A'=if D4=0 then(a:Int) else 0:=⟨_,rfl⟩;rw[<-hA'] at hdec;have HA':=hid hA';clear hA';have hE4:=hJE _ _ hJ4;have HP2:=hid hP;have HOK:=hid hok;have c0:=Arr.cell hA4 (i:=0) rfl;have c1:=Arr.cell hA4 (i:=1) rfl;clear HPP u1 u1' h2 hD hP hok
  gi_wp2_with fail
  have hb46:Below W4.heap.size W4 (W4.alloc (.cells #[.string ⟨#[]⟩,.int .u32 0,.int .i64 0,.int .i64 0] 36)):=bD (Below.refl _ _) _;have hE6:iF (W4.alloc (.cells #[.string ⟨#[]⟩,.int .u32 0,.int .i64 0,.int .i64 0] 36)):=hE4.below (bD (Below.refl _ _) _);have hz6:Arr (W4.alloc (.cells #[.string ⟨#[]⟩,.int .u32 0,.int .i64 0,.int .i64 0] 36)) W4.heap.size 36 [.string ⟨#[]⟩,.int .u32 0,.int .i64 0,.int .i64 0]:=Arr.new W4 _ [_,_,_,_];generalize W4.alloc (.cells #[.string ⟨#[]⟩,.int .u32 0,.int .i64 0,.int .i64 0] 36)=W6 at*
  obtain⟨z,hz⟩:∃z,z=W4.heap.size:=⟨_,rfl⟩;rw[<-hz] at hz6 ⊢;have hzB:B1<=z:=by omega
  have hz1:1<z:=by have:=hE4.lt;omega
  have hzs:=Arr.lt hz6;have c0:=(hb46.cell (p:=⟨b,0,none⟩) (Arr.lt hA4)).trans c0;have c1:=(hb46.cell (p:=⟨b,1,none⟩) (Arr.lt hA4)).trans c1;have HZ:=hid hz;have hbz:b<z:=by omega
  clear hz hE4;refine wpIn_wide.2 ?_;have hS0:=keepZ (w0:=W6) (z:=z) ⟨c0,c1,⟨_,_,_,_,hz6⟩,Below.refl _ _,by omega⟩ (Below.refl W6.heap.size W6).drew;have HE:=fun wx (h:wx.cell? ⟨b,0,none⟩=some (.string s)/\wx.cell? ⟨b,1,none⟩=some (.int .i64 (a:Int))/\(∃y0 y1 y2 y3,Arr wx z 36 [y0,y1,y2,y3])/\Below z W6 wx/\z+1<=wx.heap.size)=>show iF wx from(h.2.2.2.1.cell (p:=⟨1,0,none⟩) hz1).trans hE6
  go_region_held3 (fun wx=>wx.cell? ⟨b,0,none⟩=some (.string s)/\wx.cell? ⟨b,1,none⟩=some (.int .i64 (a:Int))/\(∃y0 y1 y2 y3,Arr wx z 36 [y0,y1,y2,y3])/\Below z W6 wx/\z+1<=wx.heap.size)
   (first
    |with_reducible assumption
    |with_reducible exact keepZ (by assumption) (by assumption)
    |exact keepZS (by assumption) hbz _ _ _ _ _ rfl)
   (first|(go_at_call 141;refine(hdec _ (HE _ (by assumption))).mono ?_;rintro e W7 ⟨rfl,hb7⟩;obtain⟨-,-,⟨y0,y1,y2,y3,hz7⟩,hb67,hs7⟩:=keepZ (by assumption) hb7;have g0:=hz7.cell (i:=0) rfl;have g1:=hz7.cell (i:=1) rfl;have g2:=hz7.cell (i:=2) rfl;have g3:=hz7.cell (i:=3) rfl;have f0:=hz7.free 0;have f1:=hz7.free 1;have f2:=hz7.free 2;have f3:=hz7.free 3))
  have hz8:=(((hz7.set 0 (.string D1)).set 1 (.int .u32 D2)).set 2 (.int .i64 A')).set 3 (.int .i64 D3);have hb48:Below W4.heap.size W4 ((((W7.setCell ⟨z,0,none⟩ (.string D1)).setCell ⟨z,1,none⟩ (.int .u32 D2)).setCell ⟨z,2,none⟩ (.int .i64 A')).setCell ⟨z,3,none⟩ (.int .i64 D3)):=by
   rw[<-HZ.out] at hb46 ⊢;exact hb46.trans ((((hb67.setCell (p:=⟨z,0,none⟩) (Nat.le_refl _) _).setCell (p:=⟨z,1,none⟩) (Nat.le_refl _) _).setCell (p:=⟨z,2,none⟩) (Nat.le_refl _) _).setCell (p:=⟨z,3,none⟩) (Nat.le_refl _) _)
  change Arr ((((W7.setCell ⟨z,0,none⟩ (.string D1)).setCell ⟨z,1,none⟩ (.int .u32 D2)).setCell ⟨z,2,none⟩ (.int .i64 A')).setCell ⟨z,3,none⟩ (.int .i64 D3)) z 36 [.string D1,.int .u32 D2,.int .i64 A',.int .i64 D3] at hz8;generalize (((W7.setCell ⟨z,0,none⟩ (.string D1)).setCell ⟨z,1,none⟩ (.int .u32 D2)).setCell ⟨z,2,none⟩ (.int .i64 A')).setCell ⟨z,3,none⟩ (.int .i64 D3)=W8 at*
  have hA8:SRd W8 b s (a:Int) v:=Arr.below hA4 hb48 (Arr.lt hA4);have ho8:OwS W8 B1 v (sumsB acc):=Ow.below ho4 hb48 (Nat.le_refl _);have hJ8:=hJ _ _ _ hJ4 (KeepR.of hb48 (by omega));have hs8:B1<=W8.heap.size:=Nat.le_trans hs4 hb48.size;clear g0 g1 g2 g3 f0 f1 f2 f3 hz7 hb67 hs7 hb7 y0 y1 y2 y3 HE hS0 c0 c1 hz6 hE6 hb46 hdec hA4 ho4 hJ4 hs4 hb48 hz1 hzs HZ
  by_cases h4:D4=0
  rotate_left
  ·have t1:(D4 != 0)=true:=by rw[bne_iff_ne];exact h4
   have hP:=HP2.out;rw[if_pos h4] at hP
   injection hP with x1 x2
   injection x2 with x2 x3
   have HX:=hid (show D4≠0/\P1=acc/\P3=D4 from⟨h4,x1,x3⟩);clear x1 x2 x3 h4 herr hpart HOK HP2 HA'
   gi_wp2_with fail
   gi_roundg 0
   case measure=>omega
   case rel=>exact⟨D4,acc,a,v,rfl,rfl,hJ8,hA8,ho8,hs8,hid (.inr HX.out)⟩
  subst h4;obtain⟨-,-,-,-,-,k6,k7,k8,-⟩:=HOK.out rfl;rw[HL.out] at k8;obtain⟨Z,rfl⟩:∃Z:Nat,D3=(Z:Int):=⟨D3.toNat,by omega⟩;have hyb:=(fG D1.data.toList).isLt;obtain⟨y,hy⟩:∃y,y=(fG D1.data.toList).toNat:=⟨_,rfl⟩;rw[<-hy] at k6 hyb;subst k6;have hyb:y<4294967296:=hyb;have hA':=HA'.out;rw[if_pos rfl] at hA';subst hA';have hP:=HP2.out;rw[if_neg (fun q=>q rfl)] at hP;obtain⟨p,hp⟩:∃p:Prt,p=⟨D1,(y:Int),(a:Int),(Z:Int),R⟩:=⟨_,rfl⟩;rw[<-hp] at hP;have hpart2:∃r,T=pre0++okP acc++(p,0)::r:=by
   obtain⟨m,hm⟩:=strF_acc (s:=s.data.toList) (r:=R) f (Z:Int) (acc++[p]);rw[<-hP,List.append_assoc] at hm;exact hpart acc p m hm
  have HP:=hid hP;have hZb:Z<=1000000:=by omega
  have hk7:a+96<Z:=by omega
  have hk8:Z<=8*s.size:=by omega
  have d1:=Arr.cell hA8 (i:=1) rfl;have f1:=Arr.free hA8 1;have e3:=hz8.cell (i:=3) rfl;have hA9:SRd (W8.setCell ⟨b,1,none⟩ (.int .i64 (Z:Int))) b s (Z:Int) v:=Arr.set hA8 1 _;have hz9:Arr (W8.setCell ⟨b,1,none⟩ (.int .i64 (Z:Int))) z 36 [.string D1,.int .u32 (y:Int),.int .i64 (a:Int),.int .i64 (Z:Int)]:=hz8.other _ (by show b≠z;omega) _;have ho9:OwS (W8.setCell ⟨b,1,none⟩ (.int .i64 (Z:Int))) B1 v (sumsB acc):=Ow.box ho8 (gbS _ _ _ _) hbB1;have hJ9:=hJ _ _ _ hJ8 (KeepR.set (i:=1) hA8 hbB (.int .i64 (Z:Int)))
  have hs9:B1<=(W8.setCell ⟨b,1,none⟩ (.int .i64 (Z:Int))).heap.size:=by simpa using hs8
  clear hP HP2 HA' HOK k7 k8 hy herr hpart
  gi_wp2_with fail
  generalize W8.setCell ⟨b,1,none⟩ (.int .i64 (Z:Int))=W9 at*
  clear hA8 hz8 ho8 hJ8 hs8 d1 f1 e3;obtain⟨W9a,hW9a⟩:∃W9a,W9a=(W9.alloc (.cells #[.int .u32 (y:Int)] 34)).drew:=⟨_,rfl⟩;have hka:KeepR B0 W9 W9a:=by rw[hW9a];exact(KeepR.of (bD (Below.refl _ _) _) (by omega)).trans (KeepR.drew _ _)
  have hA9a:SRd W9a b s (Z:Int) v:=by rw[hW9a];exact Arr.alloc hA9 _
  have hz9a:Arr W9a z 36 [.string D1,.int .u32 (y:Int),.int .i64 (a:Int),.int .i64 (Z:Int)]:=by rw[hW9a];exact Arr.alloc hz9 _
  have ho9a:OwS W9a B1 v (sumsB acc):=by rw[hW9a];exact Ow.alloc ho9 _
  have hc9a:W9a.cell? ⟨W9.heap.size,0,none⟩=some (.int .u32 ((BitVec.ofNat 32 y).toNat:Int)):=by rw[hW9a,ofNat_sum hyb];exact bS _ _ _
  have hs9a:B1<=W9a.heap.size:=Nat.le_trans hs9 hka.bel.size;have hacc:(sumsB acc).length=acc.length:=List.length_map ..;obtain⟨v',W10,hr,ho10,hb10,hg10⟩:=run_appU (w:=W9a) 44 B1 v (sumsB acc) ho9a W9.heap.size (BitVec.ofNat 32 y) hc9a (by rw[hacc];omega) hs9a;have hA10:SRd W10 b s (Z:Int) v:=Arr.below hA9a hb10 hbB1;have hz10:Arr W10 z 36 [.string D1,.int .u32 (y:Int),.int .i64 (a:Int),.int .i64 (Z:Int)]:=hz9a.otherRow ho9a hg10 (by decide);have hk10:KeepR B0 W9a W10:=⟨hb10.mono (by omega),.app ho9a hg10 (by unfold TyCons;decide)⟩;obtain⟨va,vc,hv,-⟩:=(OwS.rd ho9).open
  obtain⟨vn,hvn⟩:∃vn,vn=(sumsB acc).length:=⟨_,rfl⟩;rw[<-hvn] at hv;obtain⟨va',vc',hv',-⟩:=(OwS.rd ho10).open;obtain⟨vn',hvn'⟩:∃vn',vn'=(sumsB acc++[BitVec.ofNat 32 y]).length:=⟨_,rfl⟩;rw[<-hvn'] at hv';subst hv hv';have c2:=Arr.cell hA9 (i:=2) rfl;have c2a:(W9.alloc (.cells #[.int .u32 (y:Int)] 34)).cell? ⟨b,2,none⟩=some (.slice va vn vc):=(Arr.alloc hA9 _).cell (i:=2) rfl;have x1:=hz9.cell (i:=1) rfl;have d2:=Arr.cell hA10 (i:=2) rfl;have f2:=Arr.free hA10 2;rw[hW9a] at hr;have hA11:SRd (W10.setCell ⟨b,2,none⟩ (.slice va' vn' vc')) b s (Z:Int) (.slice va' vn' vc'):=Arr.set hA10 2 _
  have hz11:Arr (W10.setCell ⟨b,2,none⟩ (.slice va' vn' vc')) z 36 [.string D1,.int .u32 (y:Int),.int .i64 (a:Int),.int .i64 (Z:Int)]:=hz10.other _ (by show b≠z;omega) _;have ho11:OwS (W10.setCell ⟨b,2,none⟩ (.slice va' vn' vc')) B1 (.slice va' vn' vc') (sumsB acc++[BitVec.ofNat 32 y]):=Ow.box ho10 (gbS _ _ _ _) hbB1;have hJ11:=hJ _ _ _ hJ9 ((hka.trans hk10).trans (KeepR.set (i:=2) hA10 hbB (.slice va' vn' vc')));have hs11:B1<=(W10.setCell ⟨b,2,none⟩ (.slice va' vn' vc')).heap.size:=by have:=hb10.size;simp only[World.size_setCell];omega
  clear hka hA9a hz9a ho9a hc9a hs9a hacc ho10 hb10 hg10 hk10 hA10 hz10 hvn hvn' hW9a;have HSU:=hid (show sumsB acc++[BitVec.ofNat 32 y]=sumsB (acc++[p]) by
   unfold sumsB;rw[List.map_append,List.map_cons,List.map_nil,hp,BitVec.ofInt_natCast])
  refine wpIn_wide.2 ?_
  go_region_law (refine xC rfl (.tmp 89) (.tmp 92) 44 rfl (.slice va vn vc) (.slice (some ⟨W9.heap.size,0,none⟩) 1 1) (.slice va' vn' vc') W10 (by simp[Act.eval]) (by simp[Act.eval]) hr ?_)
  all_goals
   generalize W10.setCell ⟨b,2,none⟩ (.slice va' vn' vc')=W11 at*
   obtain⟨fn,tmps,assign,body,hy,hR⟩:=hY _ (p,0) W11 hJ11 (by omega) hpart2;unfold encPE at hy;rw[hp] at hy;dsimp only at hy;have HPE:=hid hp;have z0:=hz11.cell (i:=0) rfl;have z1:=hz11.cell (i:=1) rfl;have z2:=hz11.cell (i:=2) rfl;have z3:=hz11.cell (i:=3) rfl;clear hp hpart2 hz11 hz9 hA9 ho9 hJ9 hs9 hr c2 c2a x1 d2 f2
   gi_wp2_with fail
   refine hR.mono ?_;rintro e W12 (⟨rfl,hJ12,hk12⟩|⟨rfl,hJx⟩)
   ·gi_wp2_with fail
    gi_roundg f
    case measure=>omega
    case rel=>exact⟨0,acc++[p],Z,_,rfl,rfl,by rw[okP_append,okP_one,<-List.append_assoc];exact hJ12,hA11.kept hk12,by rw[<-HSU.out];exact OwS.kept ho11 hk12,Nat.le_trans hs11 hk12.1,hid (.inl ⟨rfl,HP.out,hR1,hR2,by rw[HL.out];exact hk8,by rw[HL.out];omega,by rw[HL.out,List.length_append,List.length_singleton];omega⟩)⟩
   ·gi_wp2_with fail
    go_ret;exact .inr ⟨rfl,.inr ⟨_,hJx⟩⟩
end
section
open Go.RowKit Go Go.Shelf
attribute [local go_sem] Oper.semAt_some
theorem yok_any {n l B:Nat} {T:List PrtE} {J Jx:List PrtE->World->Prop} (h:YOk n l B T J Jx) (m:Nat):YOk m l B T J Jx:=fun pre x W1 a b c=>
 let⟨fn,tmps,assign,body,hy,hR⟩:=h pre x W1 a b c
 ⟨fn,tmps,assign,body,hy,hR.1,fun c cs _=>hR.2 c cs (room_wide _)⟩
def PaQ (s:List UInt8) (g:Nat) (a:Nat) (acc:List Prt):Prop:=arcD s=arcF s g (8*(a:Int)) acc/\8*a<=8*s.length/\8*s.length+1<=g+8*a
theorem parts1_in (n:Nat) (hn:2<=n) (l Ab:Nat) (s:ByteArray) (J Jx:List PrtE->World->Prop) (W:World) (hs:s.size<=120000) (hA:Arr W Ab 9 [.string s])
  (hJ:JOk W.heap.size J) (hJE:∀p X,J p X->iF X) (hY:YOk (n-1) l W.heap.size (arcT s.data.toList) J Jx) (h0:J [] W):
  CallsIn Fence.wide n Tryz.prog 119 #[.func (.yield l) #[] #[],.pointer (some ⟨Ab,0,none⟩)] W fun e W'=>(∃v,e=.returned v)/\(J (arcT s.data.toList) W'\/∃pre,Jx pre W'):=by
 refine callsIn_of_wp Tryz.func119 rfl trivial ?_ rfl;simp only[Tryz.ntmps119,List.size_toArray,List.length_cons,List.length_nil,Nat.reduceAdd,Nat.reduceSub,Array.replicate_succ,Array.replicate_zero,List.push_toArray,List.append_toArray,List.nil_append,List.cons_append];have HL:=hid (show s.data.toList.length=s.size by simp);have c0:=hA.cell (i:=0) rfl
 by_cases he:s.data.toList=[]
 ·have te:s.toList.isEmpty=true:=by rw[Lib.toList_data,he];rfl
  have hT:arcT s.data.toList=[]++[(zeroP,3)]:=by rw[he];exact arcT_nil
  obtain⟨fn,tmps,assign,body,hy,hR⟩:=bad_yield hY hT h0 (Nat.le_refl _);clear he hT
  gi_wp2_with fail
  refine⟨fun _=>by omega,hR.mono ?_⟩;rintro e W5 ⟨⟨c,rfl⟩,hfin⟩
  gi_wp2_with fail
  refine bodyPost_ret (results_none rfl _ _ _) rfl ?_;exact⟨⟨_,rfl⟩,hfin⟩
 have te:s.toList.isEmpty=false:=LR he;have hpos:0<s.size:=by rw[<-HL.out];exact List.length_pos_iff.2 he
 have HQ:=hid (show PaQ s.data.toList (8*s.size+1) 0 [] by
  unfold PaQ;refine⟨?_,by omega,by rw[HL.out];omega⟩;unfold arcD;rw[if_neg he,HL.out];rfl)
 clear he
 gi_wp2_with fail
 have hA1:SRd (W.alloc (.cells #[.string s,.int .i64 0,.slice none 0 0] 190)) W.heap.size s ((0:Nat):Int) (.slice none 0 0):=Arr.new W _ [_,_,_];have hS1:=Arr.alloc hA (.cells #[.string s,.int .i64 0,.slice none 0 0] 190);have hJ1:=hJ _ _ (W.alloc (.cells #[.string s,.int .i64 0,.slice none 0 0] 190)) h0 (KeepR.of (bD (Below.refl _ _) _) (Nat.le_refl _));generalize W.alloc (.cells #[.string s,.int .i64 0,.slice none 0 0] 190)=W1 at*
 have hAbW:Ab<W.heap.size:=hA.lt;obtain⟨B0,hB0⟩:∃B0,B0=W.heap.size:=⟨_,rfl⟩;rw[<-hB0] at hA1 hAbW hJ hY ⊢;have HB:=hid hB0;clear h0 hA c0 hB0;have hm1:(8*s.size)<=1000000:=by omega
 have hJA:∀X Y,Arr X Ab 9 [.string s]->KeepR B0 X Y->Arr Y Ab 9 [.string s]:=fun X Y h k=>h.below k.bel hAbW
 have hY':∀m,YOk m l B0 (arcT s.data.toList) (fun p X=>J p X/\Arr X Ab 9 [.string s]) Jx:=fun m pre x X1 hj hb hr=>by
  obtain⟨fn,tmps,assign,body,hy,hR⟩:=yok_any hY m pre x X1 hj.1 hb hr;refine⟨fn,tmps,assign,body,hy,hR.mono ?_⟩;rintro e W' (⟨rfl,h1,h2⟩|⟨rfl,h1⟩)
  ·exact .inl ⟨rfl,⟨h1,h2.arr hj.2 (by unfold TyIter;decide) (fun q=>by cases q)⟩,h2⟩
  ·exact .inr ⟨rfl,h1⟩
 gi_loopg [] (8*s.size+1) (fun g wr=>∃(acc:List Prt) (a:Nat) (v:Value),J (okP acc) wr/\SRd wr B0 s (8*(a:Int)) v/\Arr wr Ab 9 [.string s]/\Hid (PaQ s.data.toList g a acc))
 case atStart=>exact⟨[],0,_,hJ1,hA1,hS1,HQ⟩
 case round=>
  clear hA1 hS1 hJ1 HQ;obtain⟨acc,a,v,hJr,hAr,hSr,HQ⟩:=hrel;obtain⟨hq1,hq2,hq3⟩:=HQ.out;rw[HL.out] at hq2 hq3;obtain⟨A,hAe⟩:∃A,A=8*a:=⟨_,rfl⟩;obtain⟨Sz,hSz⟩:∃Sz,Sz=8*s.size:=⟨_,rfl⟩;have hAI:8*(a:Int)=(A:Int):=by omega
  have hSI:8*(s.size:Int)=(Sz:Int):=by omega
  have hAb:A<=1000000:=by omega
  have hSb:Sz<=1000000:=by omega
  rw[hAI] at hAr;have hw:IntKind.i64.wrap (8*(s.size:Int))=(Sz:Int):=by rw[hSI];exact nat_wI _ (by omega)
  have c0:=Arr.cell hAr (i:=1) rfl;have s0:=Arr.cell hSr (i:=0) rfl
  by_cases hlt:A<Sz
  rotate_left
  ·have t1:decide ((A:Int)<(Sz:Int))=false:=decide_eq_false (by omega);obtain⟨f,rfl⟩:∃f,gk=f+1:=⟨gk-1,by omega⟩;have hdone:=hid (arc_done hq1 (by rw[HL.out];omega)).1;clear hq1 hq2 hq3 hAe hSz HQ hAI
   gi_wp2_with fail
   refine wpIn_wide.2 ?_
   go_quiet (fail)
   gi_wp2_with fail
   go_end0
   exact⟨⟨_,rfl⟩,.inl (by rw[hdone.out];exact hJ _ _ _ hJr (KeepR.drewN _ _ _))⟩
  have t1:decide ((A:Int)<(Sz:Int))=true:=decide_eq_true (by omega);obtain⟨f,rfl⟩:∃f,gk=f+1:=⟨gk-1,by omega⟩;have hin:=inT_of hq1 (by rw[HL.out];omega);rw[show(8*(a:Int))=((8*a:Nat):Int) by omega] at hin;have hnx:=fun hb=>arc_next hq1 (by rw[HL.out];omega) hb
  have hmod:=fun hb=>strD_mod (s:=s.data.toList) (a:=8*(a:Int)) (by omega) hb
  have hok:=fun hb=>strD_ok (s:=s.data.toList) (a:=8*(a:Int)) hb
  rw[show(8*(a:Int))=((8*a:Nat):Int) by omega] at hnx hmod hok;rw[HL.out] at hok;have HNX:=hid hnx;have HMOD:=hid hmod;have HOK:=hid hok;have HIN:=hid hin;have ha8:a<s.size:=by omega
  have HAE:=hid hAe;have hfq:8*s.size<=f+8*a:=by omega
  clear hq1 hq2 hq3 hAe hSz HQ hAI hnx hmod hok hin
  gi_wp2_with fail
  refine wpIn_wide.2 ?_
  go_quiet (fail)
  generalize hWn:wr.drewN nq=W4 at*
  have hA4:SRd W4 B0 s ((8*a:Nat):Int) v:=by rw[<-hWn,<-HAE.out];exact hAr
  have hS4:Arr W4 Ab 9 [.string s]:=by rw[<-hWn];exact hSr
  have hJ4:J (okP acc) W4:=by rw[<-hWn];exact hJ _ _ _ hJr (KeepR.drewN _ _ _)
  clear hWn hAr hSr hJr c0 s0;have hcall:=stream_in (n-1) (by omega) l B0 B0 a s v (okP acc) (arcT s.data.toList) (fun p X=>J p X/\Arr X Ab 9 [.string s]) Jx W4 hs ha8 hA4 (Nat.le_refl _) (fun p X Y h k=>⟨hJ _ _ _ h.1 k,hJA _ _ h.2 k⟩) (fun p X h=>hJE _ _ h.1) (hY' _) HIN.out ⟨hJ4,hS4⟩
  gi_wp2_with fail
  refine⟨trivial,fun _=>by omega,hcall.mono ?_⟩;rintro e W5 (⟨rfl,hd3,⟨hJ5,hS5⟩,v5,hA5⟩|⟨rfl,hfin⟩)
  ·have hm:=HMOD.out hd3;have hk:=HOK.out hd3;obtain⟨a',ha'⟩:∃a':Nat,(strD s.data.toList ((8*a:Nat):Int)).2.1=8*(a':Int):=⟨((strD s.data.toList ((8*a:Nat):Int)).2.1/8).toNat,by omega⟩;have hn:=HNX.out hd3;rw[ha'] at hn hA5 hk;have HN:=hid (show PaQ s.data.toList f a' (acc++(strD s.data.toList ((8*a:Nat):Int)).1) from⟨hn,by rw[HL.out];omega,by rw[HL.out];omega⟩);have hmeas:f<f+1:=Nat.lt_succ_self f;rw[<-okP_append] at hJ5;clear hcall hm hk ha' hn hd3 HMOD HOK HNX HIN
   gi_wp2_with fail
   gi_roundg f
   case measure=>exact hmeas
   case rel=>exact⟨_,a',v5,hJ5,hA5,hS5,HN⟩
  ·gi_wp2_with fail
   refine bodyPost_ret (results_none rfl _ _ _) rfl ?_;exact⟨⟨_,rfl⟩,hfin.elim (fun h=>.inl h.1) .inr⟩
theorem parts_seq (n:Nat) (hn:2<=n) (Ab:Nat) (s:ByteArray) (w:World) (hA:Arr w Ab 9 [.string s]) (hs:s.size<=120000):
  SeqTy n Tryz.prog 119 #[.pointer (some ⟨Ab,0,none⟩)] encPE (TyKept TyCons none) (TyKept TyIter none) iF (fun pre x=>∃r,arcT s.data.toList=pre++x::r) (fun xs=>xs=arcT s.data.toList) w:=fun l J Jx W hW hJ _ hJE hY h0=>
 (parts1_in n hn l Ab s J Jx W hs (hA.below hW hA.lt) (fun p X Y h k=>hJ p X Y h k.bel k.ty) hJE (fun pre x W1 a b c=>hY pre x W1 a b c) h0).mono fun _ _ h=>⟨h.1,h.2.elim (fun k=>.inl ⟨_,rfl,k⟩) .inr⟩
end
section
open Go.RowKit Go Go.Shelf
attribute [local go_sem] Oper.semAt_some
def blkC (p:Prt):List Value:=[.string p.t,.int .u32 p.y,.int .i64 p.a,.int .i64 p.z]
def prtC (p:Prt):List Value:=[.string p.t,.int .u32 p.y,.int .i64 p.a,.int .i64 p.z,.int .i64 p.r]
theorem prtC_wide (l:List Prt):Wide 5 (l.map prtC):=fun q hq=>by
 obtain⟨p,_,rfl⟩:=List.mem_map.1 hq;exact⟨rfl,fun u hu=>by unfold prtC at hu;simp only[List.mem_cons,List.not_mem_nil,or_false] at hu;rcases hu with rfl|rfl|rfl|rfl|rfl<;>rfl⟩
theorem blkC_wide (l:List Prt):Wide 4 (l.map blkC):=fun q hq=>by
 obtain⟨p,_,rfl⟩:=List.mem_map.1 hq;exact⟨rfl,fun u hu=>by unfold blkC at hu;simp only[List.mem_cons,List.not_mem_nil,or_false] at hu;rcases hu with rfl|rfl|rfl|rfl<;>rfl⟩
theorem elPrt:ElR Tryz.prog 83 90 5 48 (.agg #[.string ⟨#[]⟩,.int .u32 0,.int .i64 0,.int .i64 0,.int .i64 0]):=ElR.mk' (by kernel_rfl) Tryz.underlying83 rfl (by decide) (by decide)
theorem elBlk:ElR Tryz.prog 31 36 4 40 (.agg #[.string ⟨#[]⟩,.int .u32 0,.int .i64 0,.int .i64 0]):=ElR.mk' (by kernel_rfl) Tryz.underlying31 rfl (by decide) (by decide)
def resP (s:List UInt8):List Prt:=if(arcD s).2=0 then(arcD s).1 else[]
theorem appR1_in {F:Fence} {n:Nat} {P:Program} {t e k bytes:Nat} {z:Value} (E:ElR P t e k bytes z) {ops:Array Oper} {rest:List Oper} {o:Oper} {a:Act} {Q:Exit->Act->World->Prop} {w:World} (hgd:o.guard=none) (s x:Operand)
  (ho:o.op=.call {callee:=.builtin .append,args:=#[s,x],argTypes:=#[t,t]}) (base:Nat) (v:Value) (l:RowCells) (hs:a.eval s=v) (hown:OwR w base e k v l)
  (g:Nat) (q:List Value) (hx:a.eval x=.slice (some ⟨g,0,none⟩) 1 1) (hc:Arr w g e q) (hq:q.length=k) (h1:∀u∈q,u.oneCell'=true) (hroom:(l.length+1)*bytes<=140737488355328) (hbase:base<=w.heap.size)
  (h:∀v' w',OwR w' base e k v' (l++[q])->Below base w w'->w.grownBy w' v.ownBlock->wpListIn F n P ops Q rest (a.put o.dst v') w'):wpListIn F n P ops Q (o::rest) a w:=by
 obtain⟨i,hi,hz,h2,h3⟩:=E.info;have hpos:=E.pos;have hn:l.length+1<=140737488355328:=Nat.le_trans (Nat.le_mul_of_pos_right _ hpos) hroom;refine wpListIn_append_own w hgd s x t ho base e i z k bytes E.under hi hz h2 h3 E.cells E.some' v l.length l.flatten hs hown ⟨g,0,none⟩ 1 1 q hx (by rw[hq,Nat.one_mul]) (fun j u hj=>?_) h1 (by simp only[maxLen];omega) hroom hbase (fun v' w' q1 q2 _=>h v' w' ?_ (rC hown q2 hbase) q2)
 ·rw[show(⟨g,0,none⟩:Addr).add j=⟨g,j,none⟩ by unfold Addr.add;split<;>simp_all];exact hc.cell hj
 ·unfold OwR;rw[List.flatten_append,List.length_append,List.flatten_cons,List.flatten_nil,List.append_nil];exact q1
theorem rest_app {w w':World} {B e size n:Nat} {v:Value} {xs:List Value} (ho:w.ownsRow B e size v n xs) (hg:w.grownBy w' v.ownBlock) (k:Nat) (o:Obj) (hk:w.heap[k]? =some o) (hc:o.isCells=false):w'.heap[k]? =some o:=by
 refine(hg.block k (Array.getElem?_eq_some_iff.1 hk).1 (fun q=>?_)).trans hk;rcases ho.2 with⟨rfl,_⟩|⟨g,cap,cur,rfl,_,hgc,_⟩
 ·cases q
 ·obtain rfl:=Option.some.inj q;rw[hk] at hgc
  injection hgc with hgc
  rw[hgc] at hc;exact Bool.noConfusion hc
theorem rest_set {w:World} {z e i:Nat} {l:List Value} (ha:Arr w z e l) (v:Value) (k:Nat) (o:Obj) (hk:w.heap[k]? =some o) (hc:o.isCells=false):(w.setCell ⟨z,i,none⟩ v).heap[k]? =some o:=by
 rw[heap_setCell_other w ⟨z,i,none⟩ k v (fun q=>?_)]
 ·exact hk
 ·have q:k=z:=q;have h2:w.heap[z]? =some (.cells l.toArray e (0,0)):=ha;rw[q,h2] at hk
  injection hk with hk
  rw[<-hk] at hc;exact Bool.noConfusion hc
theorem keepsRest {B:Nat} {W W':World} (hs:W.heap.size<=W'.heap.size) (h:∀(k:Nat) (o:Obj),W.heap[k]? =some o->o.isCells=false->W'.heap[k]? =some o):KeepsFrom B W W':=⟨hs,fun k o _ ho hc=>h k o ho hc⟩
theorem own_not_deferred {w:World} {B e size n D:Nat} {v:Value} {xs:List Value} {o:Obj} (ho:w.ownsRow B e size v n xs) (hD:w.heap[D]? =some o) (hc:o.isCells=false:=by rfl):v.ownBlock=none\/v.ownBlock≠some D:=by
 rcases ho.2 with⟨rfl,_⟩|⟨g,cap,cur,rfl,_,hgc,_⟩
 ·exact .inl rfl
 ·refine .inr fun q=>?_
  obtain rfl:=Option.some.inj q;rw[hD] at hgc
  injection hgc with hgc
  rw[hgc] at hc;exact Bool.noConfusion hc
theorem parts_in (n:Nat) (all:ByteArray) (w:World):
  CallsIn Fence.wide n Tryz.prog 82 #[.string all] w fun e w'=>e=.returned (.func (.func 119) #[] #[.pointer (some ⟨w.heap.size,0,none⟩)])/\w'=w.alloc (.cells #[.string all] 9):=by
 refine callsIn_of_wp Tryz.func82 rfl trivial ?_ rfl;simp only[Tryz.ntmps82,List.size_toArray,List.length_cons,List.length_nil,Nat.reduceAdd,Nat.reduceSub,Array.replicate_succ,Array.replicate_zero,List.push_toArray,List.append_toArray,List.nil_append,List.cons_append]
 gi_wp2
 go_ret;exact⟨rfl,rfl⟩
theorem all_in (n:Nat) (hn:6<=n) (s:ByteArray) (w:World) (hE:iF w) (hs:s.size<=120000):
  CallsIn Fence.wide n Tryz.prog 46 #[.string s] w fun e w'=>∃v,e=.returned (.tuple #[v,.int .i64 (arcD s.data.toList).2])/\RdR w' v ((resP s.data.toList).map prtC)/\Below w.heap.size w w':=by
 have h1:1<=n:=by omega
 refine callsIn_of_wp_marks Tryz.func46 rfl trivial ?_ rfl;simp only[Tryz.ntmps46,List.size_toArray,List.length_cons,List.length_nil,Nat.reduceAdd,Nat.reduceSub,Array.replicate_succ,Array.replicate_zero,List.push_toArray,List.append_toArray,List.nil_append,List.cons_append]
 gi_wp2_with fail
 refine⟨trivial,(parts_in (n-1) s _).mono ?_⟩;rintro e w' ⟨rfl,rfl⟩
 gi_wp2_with fail
 have hA2:=(((Arr.new w 83 [.slice none 0 0]).alloc (.cells #[.int .i64 0] 26)).alloc (.cells #[.string s] 9));have hA3:=((Arr.new (w.alloc (.cells #[.slice none 0 0] 83)) 26 [.int .i64 0]).alloc (.cells #[.string s] 9));have hA4:=Arr.new ((w.alloc (.cells #[.slice none 0 0] 83)).alloc (.cells #[.int .i64 0] 26)) 9 [.string s];have hb1:Below w.heap.size w (((w.alloc (.cells #[.slice none 0 0] 83)).alloc (.cells #[.int .i64 0] 26)).alloc (.cells #[.string s] 9)):=(((Below.refl _ w).alloc (Nat.le_refl _) _).alloc (by simp) _).alloc (by simp;omega) _
 have hs1:(((w.alloc (.cells #[.slice none 0 0] 83)).alloc (.cells #[.int .i64 0] 26)).alloc (.cells #[.string s] 9)).heap.size=w.heap.size+1+1+1:=by simp
 simp only[World.size_alloc] at hA3 hA4;change Arr (((w.alloc (.cells #[.slice none 0 0] 83)).alloc (.cells #[.int .i64 0] 26)).alloc (.cells #[.string s] 9)) _ _ _ at hA2;change Arr (((w.alloc (.cells #[.slice none 0 0] 83)).alloc (.cells #[.int .i64 0] 26)).alloc (.cells #[.string s] 9)) _ _ _ at hA3;change Arr (((w.alloc (.cells #[.slice none 0 0] 83)).alloc (.cells #[.int .i64 0] 26)).alloc (.cells #[.string s] 9)) _ _ _ at hA4;generalize ((w.alloc (.cells #[.slice none 0 0] 83)).alloc (.cells #[.int .i64 0] 26)).alloc (.cells #[.string s] 9)=w1 at*
 obtain⟨z,hz⟩:∃z,z=w.heap.size:=⟨_,rfl⟩;rw[<-hz] at hA2 hA3 hA4 hb1 hs1 ⊢;have HZ:=hid hz;clear hz;obtain⟨E,hEE⟩:∃E,E=(arcD s.data.toList).2:=⟨_,rfl⟩;obtain⟨T,hT⟩:∃T,T=arcT s.data.toList:=⟨_,rfl⟩;have hbad:∀(pre r:List PrtE) (x:PrtE),T=pre++x::r->x.2≠0->x.2=E/\E≠0:=fun pre r x h hx=>by
  have:=arcT_bad (by rw[<-hT];exact h) hx;rw[this.1];exact⟨hEE.symm,by rw[hEE];exact this.2⟩
 have hcnt:T.length<=8*s.size+2:=arcT_count s hT;have HEE:=hid hEE;have HT:=hid hT;have hseq:=parts_seq (n-1) (by omega) (z+1+1) s w1 hA4 hs;rw[<-hT] at hseq;clear hEE hT;have hzw:z+1+1+1<=w1.heap.size:=by omega
 refine wpIn_range_ty (w0:=w1) (Ri:=TyKept TyCons none) (Kp:=TyKept TyIter none) (Ok:=iF) (Pre:=fun pre x=>∃r,T=pre++x::r) (encs:=encPE) h1 (gf:=119) (lb:=#[.pointer (some ⟨z+1+1,0,none⟩)]) rfl (enters_of Tryz.func119 (by kernel_rfl) rfl)
  hseq (Below.refl _ _) (fun _=>rfl) (fun h k=>h.trans k) (fun _ _ h=>.of_kept h) (fun _ _ h=>.of_kept h)
  (fun pre W=>(∀x∈pre,x.2=0)/\(∃v,Arr W z 83 [v]/\OwR W (z+1+1+1) 90 5 v (pre.map (fun x=>prtC x.1)))/\Arr W (z+1) 26 [.int .i64 0]/\Below z w W/\z+1+1+1<=W.heap.size)
  (fun c _ W=>c=.ret/\Arr W z 83 [.slice none 0 0]/\Arr W (z+1) 26 [.int .i64 E]/\E≠0/\Below z w W/\z+1+1+1<=W.heap.size)
  (fun pre A B ⟨k1,⟨v,k2,k3⟩,k4,k5,k6⟩ hAB hk=>⟨k1,⟨v,k2.below hAB (by omega),TyKept.own hk k3 (by unfold TyCons;decide)⟩,k4.below hAB (by omega),k5.trans (hAB.mono (by omega)),Nat.le_trans k6 hAB.size⟩)
  (fun c pre A B ⟨k1,k2,k3,k4,k5,k6⟩ hAB hk=>⟨k1,k2.below hAB (by omega),k3.below hAB (by omega),k4,k5.trans (hAB.mono (by omega)),Nat.le_trans k6 hAB.size⟩)
  ⟨fun x hx=>by simp at hx,⟨_,hA2,OwR.nil _ _ _ _⟩,hA3,hb1,hzw⟩ (fun pre A k=>hE.below (by rw[<-HZ.out];exact k.2.2.2.1))
  (fun x a' W=>∃zb,z+1+1+1<=zb/\Arr W zb 90 (prtC x.1)/\a'={tmps:=#[.string s,undef,.pointer (some ⟨z,0,none⟩),.pointer (some ⟨z+1,0,none⟩),.pointer (some ⟨zb,0,none⟩),.int .i64 x.2,.string s,.func (.func 119) #[] #[.pointer (some ⟨z+1+1,0,none⟩)],.agg #[.string x.1.t,.int .u32 x.1.y,.int .i64 x.1.a,.int .i64 x.1.z,.int .i64 x.1.r],.int .i64 x.2,undef,undef,undef,undef,undef,undef,undef,undef],defers:=[]})
  (fun x a' A A' ⟨zb,k1,k2,k3⟩ hk=>⟨zb,k1,hk.arr k2 (by simp),k3⟩) ?assign ?body ?done ?stop
 case assign=>
  rintro l0 pre ⟨p,E0⟩ W K hI hB hpre hK;unfold encPE;have hzW:=hI.2.2.2.2
  gi_wp2
  exact hK _ _ (bD (Below.refl _ _) _) ⟨W.heap.size,hzW,Arr.new W _ [_,_,_,_,_],rfl⟩
 case body=>
  rintro l0 pre ⟨p,E0⟩ a' W ⟨k1,⟨v,k2,k3⟩,k4,k5,k6⟩ hB ⟨r,hr⟩ ⟨zb,hzb,hS,rfl⟩;dsimp only at hS hr ⊢;have hzW:=k2.lt
  by_cases hE0:E0=0
  rotate_left
  ·have t1:(E0 != 0)=true:=by rw[bne_iff_ne];exact hE0
   obtain⟨rfl,hEn⟩:=hbad pre r (p,E0) hr hE0;have c0:=k2.cell (i:=0) rfl;have f0:=k2.free 0;have k4':=k4.other ⟨z,0,none⟩ (by show z≠z+1;omega) (.slice none 0 0);have c1:=k4'.cell (i:=0) rfl;have f1:=k4'.free 0;clear hbad hE0
   gi_wp2_with fail
   refine⟨keepsRest (by simp) (fun k o ho hc=>?_),rfl,(k2.set 0 _).other _ (by show z+1≠z;omega) _,k4'.set 0 _,(k5.setCell (p:=⟨z,0,none⟩) (Nat.le_refl _) _).setCell (p:=⟨z+1,0,none⟩) (by show z<=z+1;omega) _,by simpa using k6⟩;exact rest_set k4' _ k o (rest_set k2 _ k o ho hc) hc
  subst hE0;have hlen:pre.length+1<=960100:=by
   have h:=congrArg List.length hr;rw[List.length_append,List.length_cons] at h;omega
  obtain⟨va,vc,hv,-⟩:=(OwR.rd k3).open (by intro q hq;obtain⟨x,-,rfl⟩:=List.mem_map.1 hq;exact prtC_wide [x.1] _ (by simp)) (by decide:1<=5);obtain⟨vn,hvn⟩:∃vn,vn=(pre.map (fun x:PrtE=>prtC x.1)).length:=⟨_,rfl⟩;rw[<-hvn] at hv;subst hv;have c0:=k2.cell (i:=0) rfl;have q0:=hS.cell (i:=0) rfl;have q1:=hS.cell (i:=1) rfl;have q2:=hS.cell (i:=2) rfl;have q3:=hS.cell (i:=3) rfl;have q4:=hS.cell (i:=4) rfl;clear hvn hbad hr
  gi_wp2_with (gi_at_builtin;refine appR1_in elPrt rfl _ _ rfl (z+1+1+1) _ _ rfl (OwR.alloc k3 _) _ (prtC p) rfl (Arr.new W 90 (prtC p)) rfl (fun u hu=>(prtC_wide [p] _ (by simp)).2 u hu) ?_ ?_ ?_;(simp only[List.length_map];omega);(simp;omega);intro v3 W3 p1 p2 p3;(obtain⟨a3,c3,hv3,-⟩:=(OwR.rd p1).open (by intro q hq;rcases List.mem_append.1 hq with hq|hq;(obtain⟨x,-,rfl⟩:=List.mem_map.1 hq;exact prtC_wide [x.1] _ (by simp));(exact prtC_wide [p] _ (by simpa using hq))) (by decide:1<=5));(obtain⟨n3,hn3⟩:∃n3,n3=(pre.map (fun x:PrtE=>prtC x.1)++[prtC p]).length:=⟨_,rfl⟩);rw[<-hn3] at hv3;subst hv3;(have HN3:=hid hn3);clear hn3;(have k23:=Arr.below (Arr.alloc k2 (.cells (prtC p).toArray 90)) p2 (by omega));(have k43:=Arr.below (Arr.alloc k4 (.cells (prtC p).toArray 90)) p2 (by omega));(have g0:=k23.cell (i:=0) rfl);(have e0:=k23.free 0))
  change (W.alloc (.cells (prtC p).toArray 90)).grownBy W3 (Value.slice va vn vc).ownBlock at p3;change Below (z+1+1+1) (W.alloc (.cells (prtC p).toArray 90)) W3 at p2;have hsA:(W.alloc (.cells (prtC p).toArray 90)).heap.size=W.heap.size+1:=by simp
  have hs3:=p2.size;refine⟨keepsRest (by simp;omega) (fun k o ho hc=>rest_set k23 _ k o (rest_app (OwR.alloc k3 (.cells (prtC p).toArray 90)) p3 k o ((Below.heap_alloc W _ k (Array.getElem?_eq_some_iff.1 ho).1).trans ho) hc) hc),
   (TyKept.of_below (bD (Below.refl _ _) (.cells (prtC p).toArray 90))).trans ((TyKept.app (OwR.alloc k3 _) p3 (by unfold TyIter;decide)).trans (TyKept.box k23 (by unfold TyIter;decide) _)),?_⟩
  refine⟨fun x hx=>?_,⟨_,k23.set 0 _,?_⟩,k43.other _ (by show z≠z+1;omega) _,(k5.trans ((((Below.refl _ W).alloc (Nat.le_refl _) _).mono (by omega)).trans (p2.mono (by omega)))).setCell (p:=⟨z,0,none⟩) (Nat.le_refl _) _,by simp;omega⟩
  ·rcases List.mem_append.1 hx with hx|hx
   ·exact k1 x hx
   ·obtain rfl:=List.mem_singleton.1 hx;rfl
  ·rw[List.map_append];exact ownsRow_setCell_below p1 (a:=⟨z,0,none⟩) (by show z<z+1+1+1;omega) _
 case done=>
  rintro D xs W hD hfin ⟨k1,⟨v,k2,k3⟩,k4,k5,k6⟩ hK;obtain⟨va,vc,hv,-⟩:=(OwR.rd k3).open (by intro q hq;obtain⟨x,-,rfl⟩:=List.mem_map.1 hq;exact prtC_wide [x.1] _ (by simp)) (by decide:1<=5);obtain⟨vn,hvn⟩:∃vn,vn=(xs.map (fun x:PrtE=>prtC x.1)).length:=⟨_,rfl⟩;rw[<-hvn] at hv;subst hv;have hok:=arcT_ok (s:=s.data.toList) (fun x hx=>k1 x (by rw[hfin,HT.out];exact hx));have HOK:=hid (show E=0/\xs.map (fun x:PrtE=>prtC x.1)=(resP s.data.toList).map prtC by
   refine⟨by rw[HEE.out];exact hok.1,?_⟩;rw[hfin,HT.out,hok.2];unfold resP okP;rw[if_pos hok.1,List.map_map];rfl)
  have c0:=k2.cell (i:=0) rfl;have f0:=k2.free 0;have k2':=k2.set 0 (.slice va vn vc);have k4':=k4.other ⟨z,0,none⟩ (by show z≠z+1;omega) (.slice va vn vc);have c1:=k4'.cell (i:=0) rfl;have f1:=k4'.free 0;have hK':((W.setCell ⟨z,0,none⟩ (.slice va vn vc)).setCell ⟨z+1,0,none⟩ (.int .i64 0)).heap[D]? =some (.deferred (some [])):=rest_set k4' _ D _ (rest_set k2 _ D _ hK rfl) rfl;clear hvn hok hbad hfin
  gi_wp2_with fail
  refine⟨by simp,.inl ⟨_,_,rfl,run_takeDeferred hK',?_⟩⟩;have g2:Arr ((W.setCell ⟨z,0,none⟩ (.slice va vn vc)).setCell ⟨z+1,0,none⟩ (.int .i64 0)) z 83 [.slice va vn vc]:=k2'.other ⟨z+1,0,none⟩ (by show z+1≠z;omega) _;have g4:Arr ((W.setCell ⟨z,0,none⟩ (.slice va vn vc)).setCell ⟨z+1,0,none⟩ (.int .i64 0)) (z+1) 26 [.int .i64 0]:=k4'.set 0 _;have q2:=(g2.grown (grownBy_putObj' _ D (.deferred none)) (by simp;omega)).cell (i:=0) rfl;have q3:=(g4.grown (grownBy_putObj' _ D (.deferred none)) (by simp;omega)).cell (i:=0) rfl
  have hro:=ownsRow_setCell_below (ownsRow_setCell_below k3 (a:=⟨z,0,none⟩) (by show z<z+1+1+1;omega) (.slice va vn vc)) (a:=⟨z+1,0,none⟩) (by show z+1<z+1+1+1;omega) (.int .i64 0);have hbl:Below z w ((W.setCell ⟨z,0,none⟩ (.slice va vn vc)).setCell ⟨z+1,0,none⟩ (.int .i64 0)):=(k5.setCell (p:=⟨z,0,none⟩) (Nat.le_refl _) _).setCell (p:=⟨z+1,0,none⟩) (by show z<=z+1;omega) _;refine⟨.tuple #[.slice va vn vc,.int .i64 0],?_,.slice va vn vc,by rw[<-HEE.out,HOK.out.1],?_,?_⟩
  ·simp[results,Tryz.f46,go_sem,q2,q3]
  ·rw[<-HOK.out.2];exact OwR.rd (World.ownsRow.kept hro (grownBy_putObj' _ D (.deferred none)) (own_not_deferred hro hK'))
  ·rw[<-HZ.out];exact hbl.trans (belowK_b (w:=w1) (by omega) _ D _ _ hD hK' rfl rfl)
 case stop=>
  rintro D c pre W hD ⟨rfl,k2,k3,k4,k5,k6⟩ hK
  gi_wp2_with fail
  refine⟨by simp,.inl ⟨_,_,rfl,run_takeDeferred hK,?_⟩⟩;have q2:=(k2.grown (grownBy_putObj' _ D (.deferred none)) (by simp;omega)).cell (i:=0) rfl;have q3:=(k3.grown (grownBy_putObj' _ D (.deferred none)) (by simp;omega)).cell (i:=0) rfl;refine⟨.tuple #[.slice none 0 0,.int .i64 E],?_,.slice none 0 0,by rw[<-HEE.out],?_,?_⟩
  ·simp[results,Tryz.f46,go_sem,q2,q3]
  ·have:resP s.data.toList=[]:=by unfold resP;rw[if_neg (by rw[<-HEE.out];exact k4)]
   rw[this];exact(OwR.nil _ 0 90 5).rd
  ·rw[<-HZ.out];exact k5.trans (belowK_b (w:=w1) (by omega) _ D _ _ hD hK rfl rfl)
theorem parts_any (s:ByteArray) (w:World) (hE:iF w) (hs:s.size<=120000):
  Calls Tryz.prog 46 #[.string s] w fun e w'=>∃v,e=.returned (.tuple #[v,.int .i64 (arcD s.data.toList).2])/\RdR w' v ((resP s.data.toList).map prtC)/\Below w.heap.size w w':=
 callsIn_wide.1 (all_in 6 (Nat.le_refl _) s w hE hs)
end
section
open Go.RowKit Go Go.Shelf
theorem chain_mem {s:List UInt8} {hi:Int}:∀{l:List Prt} {lo:Int},chainP s lo l hi->∀p∈l,goodP s p
 |[],_,_,p,hp=>by simp at hp
 |x::l,lo,h,p,hp=>by
  rcases List.mem_cons.1 hp with rfl|hp
  ·exact h.2.1
  ·exact chain_mem h.2.2 p hp
theorem resP_good {s:List UInt8}:∀p∈resP s,goodP s p:=fun p hp=>by
 unfold resP at hp
 by_cases q:(arcD s).2=0
 ·rw[if_pos q] at hp;exact chain_mem (arcD_chain q) p hp
 ·rw[if_neg q] at hp;simp at hp
theorem resP_len (s:ByteArray):(resP s.data.toList).length<=8*s.size+2:=by
 have:=arcT_count s rfl;unfold arcT okP at this;rw[List.length_append,List.length_map] at this;unfold resP;split
 ·omega
 ·simp
theorem prt_cells {w:World} {v:Value} {l:List Prt} (h:RdR w v (l.map prtC)):∃a cap,v=.slice a l.length cap/\l.length<=cap/\cap<=maxLen/\
  (0<l.length->∃b off,a=some ⟨b,off,none⟩/\b<w.heap.size/\∀j p,l[j]? =some p->w.cell? ⟨b,off+j*5,none⟩=some (.string p.t)/\w.cell? ⟨b,off+j*5+1,none⟩=some (.int .u32 p.y)/\w.cell? ⟨b,off+j*5+2,none⟩=some (.int .i64 p.a)/\w.cell? ⟨b,off+j*5+3,none⟩=some (.int .i64 p.z)/\w.cell? ⟨b,off+j*5+4,none⟩=some (.int .i64 p.r)):=by
 obtain⟨a,cap,hv,h1,h2,h3⟩:=h.open (prtC_wide l) (by decide);rw[List.length_map] at hv h1 h3;refine⟨a,cap,hv,h1,h2,fun hl=>?_⟩;obtain⟨b,off,ha,hb,hc⟩:=h3 hl;refine⟨b,off,ha,hb,fun j p hj=>?_⟩;have e:(l.map prtC)[j]? =some (prtC p):=by rw[List.getElem?_map,hj];rfl
 have c:=fun i u hi=>hc j (prtC p) i u e hi
 refine⟨c 0 _ rfl,?_,?_,?_,?_⟩
 ·rw[Nat.add_assoc];exact c 1 _ rfl
 ·rw[Nat.add_assoc];exact c 2 _ rfl
 ·rw[Nat.add_assoc];exact c 3 _ rfl
 ·rw[Nat.add_assoc];exact c 4 _ rfl
theorem appR1 {P:Program} {t e k bytes:Nat} {z:Value} (E:ElR P t e k bytes z) {ops:Array Oper} {rest:List Oper} {o:Oper} {a:Act} {Q:Exit->Act->World->Prop} {w:World} (hgd:o.guard=none) (s x:Operand)
  (ho:o.op=.call {callee:=.builtin .append,args:=#[s,x],argTypes:=#[t,t]}) (base:Nat) (v:Value) (l:RowCells) (hs:a.eval s=v) (hown:OwR w base e k v l)
  (g:Nat) (q:List Value) (hx:a.eval x=.slice (some ⟨g,0,none⟩) 1 1) (hc:Arr w g e q) (hq:q.length=k) (h1:∀u∈q,u.oneCell'=true) (hroom:(l.length+1)*bytes<=140737488355328) (hbase:base<=w.heap.size)
  (h:∀v' w',OwR w' base e k v' (l++[q])->Below base w w'->w.grownBy w' v.ownBlock->wpList P ops Q rest (a.put o.dst v') w'):wpList P ops Q (o::rest) a w:=by
 obtain⟨i,hi,hz,h2,h3⟩:=E.info;have hpos:=E.pos;have hn:l.length+1<=140737488355328:=Nat.le_trans (Nat.le_mul_of_pos_right _ hpos) hroom;refine wpList_append_own w hgd s x t ho base e i z k bytes E.under hi hz h2 h3 E.cells E.some' v l.length l.flatten hs hown ⟨g,0,none⟩ 1 1 q hx (by rw[hq,Nat.one_mul]) (fun j u hj=>?_) h1 (by simp only[maxLen];omega) hroom hbase (fun v' w' q1 q2 _=>h v' w' ?_ (rC hown q2 hbase) q2)
 ·rw[show(⟨g,0,none⟩:Addr).add j=⟨g,j,none⟩ by unfold Addr.add;split<;>simp_all];exact hc.cell hj
 ·unfold OwR;rw[List.flatten_append,List.length_append,List.flatten_cons,List.flatten_nil,List.append_nil];exact q1
theorem blocks_any (s:ByteArray) (w:World) (hE:iF w) (hs:s.size<=120000):
  Calls Tryz.prog 20 #[.string s] w fun e w'=>∃v,e=.returned (.tuple #[v,.int .i64 (arcD s.data.toList).2])/\RdR w' v ((resP s.data.toList).map blkC)/\Below w.heap.size w w':=by
 have hlen:=resP_len s;have hcall:=parts_any s w hE hs;obtain⟨l,hl⟩:∃l,l=resP s.data.toList:=⟨_,rfl⟩;obtain⟨E,hEE⟩:∃E,E=(arcD s.data.toList).2:=⟨_,rfl⟩;rw[<-hl,<-hEE] at hcall ⊢;rw[<-hl] at hlen;clear hl hEE;go_enter Tryz.func20,Tryz.ntmps20;go_wp2_with fail;refine hcall.mono ?_;rintro e w1 ⟨v,rfl,hrd,hb1⟩;obtain⟨a,ca,rfl,hca,hma,hA⟩:=prt_cells hrd;unfold maxLen at hma;have hs1:=hb1.size;clear hrd;go_wp2_with fail
 go_loopg [2,6,14] l.length (fun g s2 _s6 s14 wr=>∃k:Nat,k<=l.length/\g=l.length-k/\s14=.int .i64 (k:Int)/\OwR wr w1.heap.size 36 4 s2 ((l.take k).map blkC)/\Below w1.heap.size w1 wr)
 case atStart=>exact⟨0,Nat.zero_le _,rfl,rfl,OwR.nil _ _ _ _,Below.refl _ _⟩
 case round=>
  obtain⟨k,hk,hg,rfl,hor,hbel⟩:=hrel;have HG:=hid hg;clear hg
  by_cases hlt:k<l.length
  ·have t1:decide ((k:Int)<(l.length:Int))=true:=decide_eq_true (by omega);obtain⟨b,off,rfl,hb,hc⟩:=hA (by omega);obtain⟨p,hp⟩:∃p,l[k]? =some p:=⟨_,List.getElem?_eq_getElem hlt⟩;obtain⟨x0,x1,x2,x3,x4⟩:=hc k p hp;have c0:=(hbel.cell (p:=⟨b,off+k*5,none⟩) hb).trans x0;have c1:=(hbel.cell (p:=⟨b,off+k*5+1,none⟩) hb).trans x1;have c2:=(hbel.cell (p:=⟨b,off+k*5+2,none⟩) hb).trans x2;have c3:=(hbel.cell (p:=⟨b,off+k*5+3,none⟩) hb).trans x3;have c4:=(hbel.cell (p:=⟨b,off+k*5+4,none⟩) hb).trans x4
   have HT:=hid (show(l.take (k+1)).map blkC=(l.take k).map blkC++[blkC p] by rw[List.take_add_one,hp,List.map_append];rfl);have hsz:=hbel.size;have hln:((l.take k).map blkC).length<=960010:=by rw[List.length_map,List.length_take];omega
   clear x0 x1 x2 x3 x4 hc hp hA;have hN:=Arr.new (wr.alloc (.cells #[.string p.t,.int .u32 p.y,.int .i64 p.a,.int .i64 p.z,.int .i64 p.r] 90)) 36 (blkC p);rw[World.size_alloc] at hN;have hor2:=OwR.alloc (OwR.alloc hor (.cells #[.string p.t,.int .u32 p.y,.int .i64 p.a,.int .i64 p.z,.int .i64 p.r] 90)) (.cells (blkC p).toArray 36);change Arr ((wr.alloc (.cells #[.string p.t,.int .u32 p.y,.int .i64 p.a,.int .i64 p.z,.int .i64 p.r] 90)).alloc (.cells #[.string p.t,.int .u32 p.y,.int .i64 p.a,.int .i64 p.z] 36)) _ _ _ at hN
   change OwR ((wr.alloc (.cells #[.string p.t,.int .u32 p.y,.int .i64 p.a,.int .i64 p.z,.int .i64 p.r] 90)).alloc (.cells #[.string p.t,.int .u32 p.y,.int .i64 p.a,.int .i64 p.z] 36)) _ _ _ _ _ at hor2;go_wp2_with (at_builtin;refine appR1 elBlk rfl _ _ rfl w1.heap.size _ _ rfl hor2 _ (blkC p) rfl hN rfl (fun u hu=>(blkC_wide [p] _ (by simp)).2 u hu) ?_ ?_ ?_;(omega);(simp;omega);intro v3 w3 p1 p2 p3);have hg:=HG.out
   go_roundg (l.length-(k+1))
   case measure=>omega
   case rel=>exact⟨k+1,by omega,rfl,by go_num,by rw[HT.out];exact p1,(((hbel.alloc (by omega) _).alloc (by simp;omega) _).trans p2)⟩
  ·have t1:decide ((k:Int)<(l.length:Int))=false:=decide_eq_false (by omega);have HT:=hid (show(l.take k).map blkC=l.map blkC by rw[List.take_of_length_le (by omega)]);go_wp2_with fail
   go_ret2
   exact⟨_,rfl,by rw[<-HT.out];exact hor.rd,hb1.trans (hbel.mono hs1)⟩
theorem rooms_any (s:ByteArray) (w:World) (hE:iF w) (hs:s.size<=120000):
  Calls Tryz.prog 22 #[.string s] w fun e w'=>∃v,e=.returned (.tuple #[v,.int .i64 (arcD s.data.toList).2])/\RdI w' v ((resP s.data.toList).map Prt.r)/\Below w.heap.size w w':=by
 have hlen:=resP_len s;have hcall:=parts_any s w hE hs;obtain⟨l,hl⟩:∃l,l=resP s.data.toList:=⟨_,rfl⟩;obtain⟨E,hEE⟩:∃E,E=(arcD s.data.toList).2:=⟨_,rfl⟩;rw[<-hl,<-hEE] at hcall ⊢;rw[<-hl] at hlen;clear hl hEE;go_enter Tryz.func22,Tryz.ntmps22;go_wp2_with fail;refine hcall.mono ?_;rintro e w1 ⟨v,rfl,hrd,hb1⟩;obtain⟨a,ca,rfl,hca,hma,hA⟩:=prt_cells hrd;unfold maxLen at hma;have hs1:=hb1.size;clear hrd;go_wp2_with fail
 go_loopg [2,6,14] l.length (fun g s2 _s6 s14 wr=>∃k:Nat,k<=l.length/\g=l.length-k/\s14=.int .i64 (k:Int)/\OwI wr w1.heap.size s2 ((l.take k).map Prt.r)/\Below w1.heap.size w1 wr)
 case atStart=>exact⟨0,Nat.zero_le _,rfl,rfl,OwI.nil _ _,Below.refl _ _⟩
 case round=>
  obtain⟨k,hk,hg,rfl,hor,hbel⟩:=hrel;have HG:=hid hg;clear hg
  by_cases hlt:k<l.length
  ·have t1:decide ((k:Int)<(l.length:Int))=true:=decide_eq_true (by omega);obtain⟨b,off,rfl,hb,hc⟩:=hA (by omega);obtain⟨p,hp⟩:∃p,l[k]? =some p:=⟨_,List.getElem?_eq_getElem hlt⟩;obtain⟨x0,x1,x2,x3,x4⟩:=hc k p hp;have c0:=(hbel.cell (p:=⟨b,off+k*5,none⟩) hb).trans x0;have c1:=(hbel.cell (p:=⟨b,off+k*5+1,none⟩) hb).trans x1;have c2:=(hbel.cell (p:=⟨b,off+k*5+2,none⟩) hb).trans x2;have c3:=(hbel.cell (p:=⟨b,off+k*5+3,none⟩) hb).trans x3;have c4:=(hbel.cell (p:=⟨b,off+k*5+4,none⟩) hb).trans x4
   have HT:=hid (show(l.take (k+1)).map Prt.r=(l.take k).map Prt.r++[p.r] by rw[List.take_add_one,hp,List.map_append];rfl);have hsz:=hbel.size;have hln:((l.take k).map Prt.r).length<=960010:=by rw[List.length_map,List.length_take];omega
   clear x0 x1 x2 x3 x4 hc hp hA;have hN:=bS (wr.alloc (.cells #[.string p.t,.int .u32 p.y,.int .i64 p.a,.int .i64 p.z,.int .i64 p.r] 90)) (.int .i64 p.r) 3;rw[World.size_alloc] at hN;have hor2:=OwI.alloc (OwI.alloc hor (.cells #[.string p.t,.int .u32 p.y,.int .i64 p.a,.int .i64 p.z,.int .i64 p.r] 90)) (.cells #[.int .i64 p.r] 3);go_wp2_with (at_builtin;refine eN rfl _ _ rfl w1.heap.size _ _ rfl hor2 _ p.r rfl hN ?_ ?_ ?_;(omega);(simp;omega);intro v3 w3 p1 p2 p3);have hg:=HG.out
   go_roundg (l.length-(k+1))
   case measure=>omega
   case rel=>exact⟨k+1,by omega,rfl,by go_num,by rw[HT.out];exact p1,(((hbel.alloc (by omega) _).alloc (by simp;omega) _).trans p2)⟩
  ·have t1:decide ((k:Int)<(l.length:Int))=false:=decide_eq_false (by omega);have HT:=hid (show(l.take k).map Prt.r=l.map Prt.r by rw[List.take_of_length_le (by omega)]);go_wp2_with fail
   go_ret2
   exact⟨_,rfl,by rw[<-HT.out];exact hor.rd,hb1.trans (hbel.mono hs1)⟩
theorem resP_sum (s:List UInt8) (k:Nat):(catT (((resP s).take k).map Prt.t)).data.toList.length<=18720*((resP s).take k).length:=by
 have h:∀l:List Prt,(∀p∈l,goodP s p)->(catT (l.map Prt.t)).data.toList.length<=18720*l.length:=fun l=>by
  induction l with
  |nil=>intro _;exact Nat.le_refl _
  |cons p l ih=>
   intro hg;have e:=congrArg List.length (catT_append [p.t] (l.map Prt.t));have h1:=ih (fun q hq=>hg q (List.mem_cons_of_mem _ hq));obtain⟨-,g2,g3,-⟩:=(hg p (List.mem_cons_self ..)).facts;obtain⟨-,-,g5,-⟩:=hg p (List.mem_cons_self ..);have hs:(catT [p.t]).data.toList.length=p.t.size:=by unfold catT;simp
   rw[List.length_append,hs] at e;rw[List.map_cons,List.length_cons];change (catT ([p.t]++l.map Prt.t)).data.toList.length<=_;omega
 exact h _ (fun p hp=>resP_good p (List.mem_of_mem_take hp))
theorem read_any (s:ByteArray) (w:World) (hE:iF w) (hs:s.size<=120000):
  Calls Tryz.prog 19 #[.string s] w fun e w'=>e=.returned (.tuple #[.string (catT ((resP s.data.toList).map Prt.t)),.int .i64 (arcD s.data.toList).2])/\Below w.heap.size w w':=by
 have hlen:=resP_len s;have hsum:=resP_sum s.data.toList;have hcall:=parts_any s w hE hs;obtain⟨l,hl⟩:∃l,l=resP s.data.toList:=⟨_,rfl⟩;obtain⟨E,hEE⟩:∃E,E=(arcD s.data.toList).2:=⟨_,rfl⟩;rw[<-hl,<-hEE] at hcall ⊢;rw[<-hl] at hlen hsum;clear hl hEE;go_enter Tryz.func19,Tryz.ntmps19;go_wp2_with fail;refine hcall.mono ?_;rintro e w1 ⟨v,rfl,hrd,hb1⟩;obtain⟨a,ca,rfl,hca,hma,hA⟩:=prt_cells hrd;unfold maxLen at hma;have hs1:=hb1.size;have hB0:=aAp w1;have hb2:Below w1.heap.size w1 (w1.alloc (.cells #[.pointer none,.slice none 0 0] 88)):=bD (Below.refl _ _) _;clear hrd;go_wp2_with fail
 generalize w1.alloc (.cells #[.pointer none,.slice none 0 0] 88)=w2 at*
 go_loopg [8,16] l.length (fun g _s8 s16 wr=>∃k:Nat,k<=l.length/\g=l.length-k/\s16=.int .i64 (k:Int)/\Bld wr w1.heap.size w1.heap.size (catT ((l.take k).map Prt.t)).data.toList/\Below w1.heap.size w1 wr)
 case atStart=>exact⟨0,Nat.zero_le _,rfl,rfl,hB0,hb2⟩
 case round=>
  obtain⟨k,hk,hg,rfl,hor,hbel⟩:=hrel;have HG:=hid hg;clear hg hB0 hb2
  by_cases hlt:k<l.length
  ·have t1:decide ((k:Int)<(l.length:Int))=true:=decide_eq_true (by omega);obtain⟨b,off,rfl,hb,hc⟩:=hA (by omega);obtain⟨p,hp⟩:∃p,l[k]? =some p:=⟨_,List.getElem?_eq_getElem hlt⟩;obtain⟨x0,x1,x2,x3,x4⟩:=hc k p hp;have c0:=(hbel.cell (p:=⟨b,off+k*5,none⟩) hb).trans x0;have c1:=(hbel.cell (p:=⟨b,off+k*5+1,none⟩) hb).trans x1;have c2:=(hbel.cell (p:=⟨b,off+k*5+2,none⟩) hb).trans x2;have c3:=(hbel.cell (p:=⟨b,off+k*5+3,none⟩) hb).trans x3;have c4:=(hbel.cell (p:=⟨b,off+k*5+4,none⟩) hb).trans x4
   have HT:=hid (show(catT ((l.take (k+1)).map Prt.t)).data.toList=(catT ((l.take k).map Prt.t)).data.toList++p.t.data.toList by
    rw[List.take_add_one,hp,List.map_append,catT_append]
    congr 1
    unfold catT;simp)
   have hln1:=hsum k;have hln2:=hsum (k+1);rw[HT.out,List.length_append] at hln2;rw[List.length_take] at hln1 hln2;have hpl:p.t.data.toList.length=p.t.size:=by simp
   have hsz:=hbel.size;have hwr:=fun W hW=>aQu w1.heap.size w1.heap.size (catT ((l.take k).map Prt.t)).data.toList p.t W hW (by omega)
   have hor2:=hor.same (w':=wr.alloc (.cells #[.string p.t,.int .u32 p.y,.int .i64 p.a,.int .i64 p.z,.int .i64 p.r] 90)) (fun k o hk _ _=>by rw[Below.heap_alloc _ _ _ (Array.getElem?_eq_some_iff.1 hk).1];exact hk);clear x0 x1 x2 x3 x4 hc hp hA hln1 hln2 hsum hpl;go_wp2_with fail;refine(hwr _ hor2 (by simp;omega)).mono ?_;rintro e w3 ⟨rfl,hB3,hb3,-⟩;go_wp2_with fail;have hg:=HG.out
   go_roundg (l.length-(k+1))
   case measure=>omega
   case rel=>exact⟨k+1,by omega,rfl,by go_num,by rw[HT.out];exact hB3,(hbel.alloc (by omega) _).trans hb3⟩
  ·have t1:decide ((k:Int)<(l.length:Int))=false:=decide_eq_false (by omega);have HT:=hid (show mkS (catT ((l.take k).map Prt.t)).data.toList=catT (l.map Prt.t) by rw[List.take_of_length_le (by omega),pL]);have hsz:=hbel.size;go_wp2_with fail;refine(aAn w1.heap.size w1.heap.size _ _ hor hsz).mono ?_;rintro e w3 ⟨rfl,-,hb3,-⟩;go_wp2_with fail
   go_ret2
   exact⟨by show Ending.returned (.tuple #[.string (mkS (catT (List.take k (l.map Prt.t))).data.toList),.int .i64 E])=_;rw[<-List.map_take,HT.out],hb1.trans ((hbel.trans hb3).mono hs1)⟩
end
section
open Go.RowKit Go Go.Shelf
theorem blk_cells {w:World} {v:Value} {l:List Prt} (h:RdR w v (l.map blkC)):∃a cap,v=.slice a l.length cap/\l.length<=cap/\cap<=maxLen/\
  (0<l.length->∃b off,a=some ⟨b,off,none⟩/\b<w.heap.size/\∀j p,l[j]? =some p->w.cell? ⟨b,off+j*4,none⟩=some (.string p.t)/\w.cell? ⟨b,off+j*4+1,none⟩=some (.int .u32 p.y)/\w.cell? ⟨b,off+j*4+2,none⟩=some (.int .i64 p.a)/\w.cell? ⟨b,off+j*4+3,none⟩=some (.int .i64 p.z)):=by
 obtain⟨a,cap,hv,h1,h2,h3⟩:=h.open (blkC_wide l) (by decide);rw[List.length_map] at hv h1 h3;refine⟨a,cap,hv,h1,h2,fun hl=>?_⟩;obtain⟨b,off,ha,hb,hc⟩:=h3 hl;refine⟨b,off,ha,hb,fun j p hj=>?_⟩;have e:(l.map blkC)[j]? =some (blkC p):=by rw[List.getElem?_map,hj];rfl
 have c:=fun i u hi=>hc j (blkC p) i u e hi
 refine⟨c 0 _ rfl,?_,?_,?_⟩
 ·rw[Nat.add_assoc];exact c 1 _ rfl
 ·rw[Nat.add_assoc];exact c 2 _ rfl
 ·rw[Nat.add_assoc];exact c 3 _ rfl
end
end Go.Proofs.YtpgmbhpbgkljdaaGreatDoor
