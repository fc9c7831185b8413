/-
  Texts put together (part 26): the walks and the plain laws on which the statement stands.
-/
import Derived.Test.YtfckbfofgeilgaaGreatDoorZ24
set_option maxRecDepth 100000
set_option maxHeartbeats 12800000
set_option linter.unusedVariables false
set_option linter.unusedSimpArgs false
open Go.Proofs.Tryz
open Go.Proofs.Tryz renaming prog->pG
open Array renaming getElem?_eq_some_iff->fE,replicate_succ->jG,replicate_zero->jH
open BitVec renaming ofNat->pZ
open Bool renaming noConfusion->vM
open Go renaming CallsIn->iV,bodyPost_ret->fM,callsIn_of_wp->pX,grownBy_putObj'->kV,results_none->tI,run_takeDeferred->sE
open Go.Addr renaming add->gP
open Go.Calls renaming quiet_of_same->AY
open Go.Fence renaming wide->cZ
open Go.IntKind renaming i64->aJ,wrap_i64->aM
open Go.RowKit renaming ownsRow_setCell_below->vL
open Go.RowKit.Below renaming refl->aH
open Go.World renaming block_lt_of_cell?->gV
open Go.World.ownsRow renaming kept->yJ
open List renaming append_assoc->bU,append_toArray->jJ,cons_append->fF,length_append->aL,length_cons->aU,length_map->aS,length_nil->aV,map_append->dY,mem_append->dK,mem_cons->jQ,mem_map->eK,mem_singleton->cP,nil_append->eL,not_mem_nil->YB,push_toArray->jI,size_toArray->dB
open Nat renaming le_refl->aD,le_trans->aR,reduceAdd->cV,reduceSub->dC
open Option.some renaming inj->cC
namespace Go.Proofs.YtfckbfofgeilgaaGreatDoor
open Go.RowKit Go Go.Shelf
attribute [local go_sem] Oper.semAt_some
abbrev oJ:=Prt×Int
def GA (x:oJ):Array Value:=#[.agg #[.string x.1.t,.int .u32 x.1.y,.int .i64 x.1.a,.int .i64 x.1.z,.int .i64 x.1.r],.int .i64 x.2]
def AF:List TypeId:=[80,91,27]
def uZ:List TypeId:=[206,87,9]
structure iI (B:Nat) (W W':World):Prop where
 bel:Below B W W'
 ty:eS AF none W W'
theorem iI.trans {B:Nat} {X Y Z:World} (h:iI B X Y) (k:iI B Y Z):iI B X Z:=⟨h.bel.trans k.bel,h.ty.trans k.ty⟩
theorem iI.of {B:Nat} {X Y:World} (h:Below X.heap.size X Y) (d:B<=X.heap.size):iI B X Y:=⟨h.mono d,.of_below h⟩
theorem iI.drew (B:Nat) (X:World):iI B X X.drew:=⟨(aH B X).drew,aD _,fun _ _ _ _ h _ _=>h⟩
theorem iI.drewN (B:Nat) (X:World) (n:Nat):iI B X (X.drewN n):=⟨⟨rfl,rfl,rfl,aD _,fun _ _=>rfl⟩,aD _,fun _ _ _ _ h _ _=>h⟩
theorem iI.set {B b i:Nat} {X:World} {l:List Value} (h:Arr X b 206 l) (d:B<=b) (v:Value):iI B X (X.setCell ⟨b,i,none⟩ v):=
 ⟨(aH B X).setCell (p:=⟨b,i,none⟩) d v,.box h (by simp[AF,Arr]) v⟩
theorem iI.grown {B b:Nat} {X Y:World} {l:List Value} (h:X.grownBy Y (some b)) (d:Arr X b 206 l) (e:B<=b):iI B X Y:=
 ⟨(aH B X).grown h (by grind [Arr]) (fun k A=>by grind),.grownBox h d (by simp[AF,Arr])⟩
abbrev JOk (B:Nat) (J:List oJ->World->Prop):Prop:=∀s X Y,J s X->iI B X Y->J s Y
abbrev YOk (n l B:Nat) (T:List oJ) (J D:List oJ->World->Prop):Prop:=∀d x W1,J d W1->B<=W1.heap.size->(∃r,T=d++x::r)->
 YieldAt cZ n pG l (GA x) W1 fun e A=>(e=.returned (.bool true)/\J (d++[x]) A/\eS uZ none W1 A)\/(e=.returned (.bool false)/\D (d++[x]) A)
def pB (l:List Prt):List (BitVec 32):=l.map (fun p=>BitVec.ofInt 32 p.y)
theorem SRd.kept {W d:World} {b:Nat} {s:ByteArray} {a:Int} {v:Value} (h:SRd W b s a v) (k:eS uZ none W d):SRd d b s a v:=k.arr h (by unfold uZ;decide) (fun e=>by cases e)
theorem OwS.kept {W d:World} {B:Nat} {v:Value} {l:List (BitVec 32)} (h:OwS W B v l) (k:eS uZ none W d):OwS d B v l:=eS.own k h (by unfold uZ;decide)
theorem bCq {s:List UInt8} {a:Int} {d T:List oJ} {acc:List Prt} {E:Int} (h:InT s a d T) (e:(cU s a).1=acc) (A:(cU s a).2.2=E) (D:E≠0):T=(d++okP acc)++[(uO,E)]:=by
 have:=h.bad (by grind)
 grind
theorem bCr {w:World} (A:TypeId) (base:Nat) (v:Value) (l:List (BitVec 32)) (D:OwS w base v l) (g:Nat) (n:BitVec 32) (I:w.cell? ⟨g,0,none⟩=some (.int .u32 (n.toNat:Int))) (J:(l.length+1)*4<=140737488355328) (F:base<=w.heap.size):
  ∃d w',(Builtin.append_ #[154,154] A #[v,.slice (some ⟨g,0,none⟩) 1 1]).run pG w=.ok d w'/\OwS w' base d (l++[n])/\Below base w w'/\w.grownBy w' v.ownBlock:=by
 obtain⟨i,L,M,O,R⟩:=info_parts (show(pG.info? 87).map (fun i=>(i.zero,i.size,i.bytes))=some (some (.int .u32 0),1,4) by kernel_rfl);obtain⟨d,w',U,V,G,_⟩:=run_append_own (P:=pG) w base 154 A 87 i _ 1 4 underlying154 L M O R rfl (by decide) v (uX l).length (uX l) D ⟨g,0,none⟩ 1 1 [.int .u32 (n.toNat:Int)] rfl (fun j Y e=>by
  cases j with
  |zero=>simp at e;subst e;simpa [gP] using I
  |succ j=>simp at e) (fun Y Z=>by obtain rfl:=cP.1 Z;rfl) (by rw[FO];simp only[maxLen];omega) (by rw[FO];exact J) F
 refine⟨d,w',U,?_,rJ D G F,G⟩;unfold OwS uX;rw[dY];unfold Ow;rw[aL];exact V
theorem NC {n l B:Nat} {T A:List oJ} {J D:List oJ->World->Prop} {E:Int} {X:World} (G:YOk n l B T J D) (I:T=A++[(uO,E)]) (L:J A X) (M:B<=X.heap.size):
  ∃d tmps assign body,(Instr.yield l #[.agg #[.string ⟨#[]⟩,.int .u32 0,.int .i64 0,.int .i64 0,.int .i64 0],.int .i64 E]).run pG X=.ok (.round l d tmps assign body) X/\
   RoundIn cZ n pG l d tmps assign body X (fun e F=>(∃c,e=.returned (.bool c))/\(J T F\/∃p,D p F)):=by
 obtain⟨d,tmps,assign,body,O,R⟩:=G _ (uO,E) X L M ⟨[],I⟩;refine⟨d,tmps,assign,body,O,R.mono ?_⟩
 grind
theorem Arr.otherRow {w w':World} {z e B d size n:Nat} {l:List Value} {v:Value} {A:List Value} (h:Arr w z e l) (D:w.ownsRow B d size v n A) (F:w.grownBy w' v.ownBlock) (G:e≠d):Arr w' z e l:=by
 refine h.grown F ?_;rcases D.2 with⟨rfl,_⟩|⟨g,cap,I,rfl,_,J,_⟩
 ·exact fun q=>by cases q
 ·intro q;obtain rfl:=cC q
  grind [Arr]
theorem bCs {y:Nat} (h:y<4294967296):(pZ 32 y).toNat=y:=by grind
theorem UX {w0 d e:World} {b z:Nat} {u0 u1:Value} (h:d.cell? ⟨b,0,none⟩=some u0/\d.cell? ⟨b,1,none⟩=some u1/\(∃A D y2 F,Arr d z 89 [A,D,y2,F])/\Below z w0 d/\z+1<=d.heap.size) (G:Below d.heap.size d e):e.cell? ⟨b,0,none⟩=some u0/\e.cell? ⟨b,1,none⟩=some u1/\(∃A D y2 F,Arr e z 89 [A,D,y2,F])/\Below z w0 e/\z+1<=e.heap.size:=by
 obtain⟨I,J,⟨A,D,y2,F,L⟩,M,O⟩:=h;exact⟨(G.cell (gV d _ I)).trans I,(G.cell (gV d _ J)).trans J,⟨A,D,y2,F,L.below G L.lt⟩,M.trans (G.mono (by omega)),aR O G.size⟩
theorem bCt {w0 d:World} {b z:Nat} {u0 u1:Value} (h:d.cell? ⟨b,0,none⟩=some u0/\d.cell? ⟨b,1,none⟩=some u1/\(∃A D y2 F,Arr d z 89 [A,D,y2,F])/\Below z w0 d/\z+1<=d.heap.size) (I:b<z) (v0 v1 v2 v3:Value) (e:World) (J:e=(((d.setCell ⟨z,0,none⟩ v0).setCell ⟨z,1,none⟩ v1).setCell ⟨z,2,none⟩ v2).setCell ⟨z,3,none⟩ v3):e.cell? ⟨b,0,none⟩=some u0/\e.cell? ⟨b,1,none⟩=some u1/\(∃A D y2 F,Arr e z 89 [A,D,y2,F])/\Below z w0 e/\z+1<=e.heap.size:=by
 obtain⟨M,O,⟨A,D,y2,F,R⟩,U,V⟩:=h;have G:Below z d e:=by rw[J];exact((((aH z d).setCell (p:=⟨z,0,none⟩) (aD _) v0).setCell (p:=⟨z,1,none⟩) (aD _) v1).setCell (p:=⟨z,2,none⟩) (aD _) v2).setCell (p:=⟨z,3,none⟩) (aD _) v3
 have L:Arr e z 89 [v0,v1,v2,v3]:=by rw[J];exact(((R.set 0 v0).set 1 v1).set 2 v2).set 3 v3
 exact⟨(G.cell (p:=⟨b,0,none⟩) I).trans M,(G.cell (p:=⟨b,1,none⟩) I).trans O,⟨v0,v1,v2,v3,L⟩,U.trans G,by have:=L.lt;omega⟩
def StQ (s:List UInt8) (R:Int) (P:List Prt×Int×Int) (g:Nat) (E:Int) (acc:List Prt) (a:Nat):Prop:=
 (E=0/\P=eE s R g (a:Int) acc/\40<=R/\R<=360/\a<=8*s.length/\8*s.length+33<=g+a/\acc.length+g<=8*s.length+1)\/(E≠0/\P.1=acc/\P.2.2=E)
theorem bCu (s:List UInt8) (r:Int) (f:Nat) (a:Int) (acc:List Prt):eE s r (f+1) a acc=if aP s.length a 48≠0 then(acc,a,aP s.length a 48)
  else if aK s a 48=0x177245385090 then(acc,(kS s a (iM (pB acc))).1,(kS s a (iM (pB acc))).2)
  else if aK s a 48≠0x314159265359 then(acc,a,3)
  else if(cO s a r).2.2.2≠0 then(acc,a,(cO s a r).2.2.2)
  else eE s r f (cO s a r).2.2.1 (acc++[⟨(cO s a r).1,(cO s a r).2.1,a,(cO s a r).2.2.1,r⟩]):=rfl
theorem bCv (n:Nat) (hn:1<=n) (l b B0 k:Nat) (s:ByteArray) (v0:Value) (a7 T:List oJ) (J Jx:List oJ->World->Prop) (W:World) (hs:s.size<=120000) (hk:k<s.size)
  (hA:SRd W b s ((8*k:Nat):Int) v0) (b6:B0<=b) (hJ:JOk B0 J) (l7:∀p X,J p X->dU X) (hY:YOk (n-1) l B0 T J Jx) (e6:InT s.data.toList ((8*k:Nat):Int) a7 T) (h0:J a7 W):
  iV cZ n pG 120 #[.pointer (some ⟨b,0,none⟩),.func (.yield l) #[] #[]] W fun e W'=>
   (e=.returned (.bool true)/\(cU s.data.toList ((8*k:Nat):Int)).2.2=0/\J (a7++okP (cU s.data.toList ((8*k:Nat):Int)).1) W'/\∃v,SRd W' b s (cU s.data.toList ((8*k:Nat):Int)).2.1 v)\/
   (e=.returned (.bool false)/\(J T W'\/∃l8,Jx l8 W')):=by
 refine pX func120 rfl trivial ?_ rfl;simp only[ntmps120,dB,aU,aV,cV,dC,jG,jH,jI,jJ,eL,fF];have HL:=hid (mV s);have l9:b<W.heap.size:=Arr.lt hA;have e7:=fun X=>aZb s k X (by omega) (by omega)
 obtain⟨R,E0,b1⟩:∃R E0,fX s.data.toList k=(R,E0):=⟨_,_,rfl⟩;rw[b1] at e7;have i4:E0=0->40<=R/\R<=360/\R%40=0/\k+4<=s.size:=fun h=>by
  have I:=aD2 (s:=s.data.toList) (k:=k) (by rw[b1];exact h);rw[b1] at I;refine⟨I.1,I.2.1,I.2.2,?_⟩;refine Nat.le_of_not_lt fun q=>?_
  have:fX s.data.toList k=(0,2):=by unfold fX;rw[aB (by rw[HL.out];exact q)]
  rw[b1] at this
  injection this with _ U
  rw[h] at U;exact absurd U (by decide)
 have hD:cU s.data.toList ((8*k:Nat):Int)=if E0≠0 then([],((8*k:Nat):Int),E0) else eE s.data.toList R (8*s.size+1) ((8*k+32:Nat):Int) []:=by
  unfold cU;rw[show(((8*k:Nat):Int)/8).toNat=k by omega,b1,HL.out];rfl
 obtain⟨P1,P2,P3,d⟩:∃P1 P2 P3,cU s.data.toList ((8*k:Nat):Int)=(P1,P2,P3):=⟨_,_,_,rfl⟩;have L:=fun acc E I U hE=>bCq (acc:=acc) (E:=E) e6 I U hE
 have a0:=e6.part;rw[d] at hD L a0 ⊢;simp only at L a0 ⊢;obtain⟨A0,d0⟩:=ex1 (8*k);rw[<-d0] at hA;have m1:(A0:Int).tdiv 8=(k:Int):=by rw[Int.tdiv_eq_ediv_of_nonneg (by omega)];omega
 have m0:aJ.wrap (k:Int)=(k:Int):=by rw[aM];omega
 obtain⟨M,e8⟩:=ex1 (A0+32);have m2:aJ.wrap ((A0:Int)+32)=(M:Int):=by rw[aM];omega
 have m3:(A0:Int)+32=(M:Int):=by omega
 rw[show 8*k+32=M by omega] at hD;have HP:=hid d;have HD:=hid hD;have c0:=Arr.cell hA (i:=0) rfl;have c1:=Arr.cell hA (i:=1) rfl;have p7:M<=1000000:=by omega
 have p8:A0<=1000000:=by omega
 have i5:=hid d0;have i6:=hid e8;clear hD d e6 b1 d0 e8
 gi_wp2_with fail
 refine wpIn_wide.2 ?_
 go_quiet (first|(go_at_call 148;exact AY (e7 _)))
 generalize a3:W.drewN nq=W1 at*
 have b7:SRd W1 b s (A0:Int) v0:=by rw[<-a3];exact hA
 have i7:J a7 W1:=hJ _ _ _ h0 (by rw[<-a3];exact iI.drewN _ _ _);have d1:=Arr.cell b7 (i:=1) rfl;have f1:=Arr.free b7 1;have b8:SRd (W1.setCell ⟨b,1,none⟩ (.int .i64 (M:Int))) b s (M:Int) v0:=Arr.set b7 1 _;have d2:=Arr.cell b8 (i:=2) rfl;have f2:=Arr.free b8 2;have e9:SRd ((W1.setCell ⟨b,1,none⟩ (.int .i64 (M:Int))).setCell ⟨b,2,none⟩ (.slice none 0 0)) b s (M:Int) (.slice none 0 0):=Arr.set b8 2 _;have i8:J a7 ((W1.setCell ⟨b,1,none⟩ (.int .i64 (M:Int))).setCell ⟨b,2,none⟩ (.slice none 0 0)):=hJ _ _ _ i7 ((iI.set b7 b6 _).trans (iI.set b8 b6 _));have m4:=Arr.lt e9
 have HQ:=hid (show StQ s.data.toList R (P1,P2,P3) (8*s.size+1) E0 [] M by
  have h:=HD.out;have d0:=i5.out;have e8:=i6.out;unfold StQ;rw[HL.out]
  by_cases q:E0=0
  ·obtain⟨r1,r2,-,r4⟩:=i4 q;rw[aA (fun z=>z q)] at h;exact .inl ⟨q,h,r1,r2,by omega,by omega,by simp⟩
  ·rw[aB q] at h
   injection h with F x2
   injection x2 with x2 x3
   exact .inr ⟨q,F,x3⟩)
 clear a3 hA h0 c0 c1 i4 e7 HD l9 m1 m0 i5 i6
 gi_wp2_with fail
 generalize (W1.setCell ⟨b,1,none⟩ (.int .i64 (M:Int))).setCell ⟨b,2,none⟩ (.slice none 0 0)=W3 at*
 obtain⟨A,m5⟩:=ex1 (W3.heap.size);have d3:b<A:=by omega
 have i9:A<=W3.heap.size:=by omega
 clear d1 f1 d2 f2 b7 i7 b8 m2 m3 m5 m4
 gi_loopg [4,6,7,8] (8*s.size+1) (fun g c4 c6 _c7 _c8 wr=>∃(E:Int) (acc:List Prt) (a:Nat) (v:Value),c4=.bool false/\c6=.int .i64 E/\J (a7++okP acc) wr/\SRd wr b s (a:Int) v/\OwS wr A v (pB acc)/\A<=wr.heap.size/\Hid (StQ s.data.toList R (P1,P2,P3) g E acc a))
 case atStart=>exact⟨E0,[],M,.slice none 0 0,rfl,rfl,by simpa [okP] using i8,e9,Ow.nil _ _ _,i9,HQ⟩
 case round=>
  clear i8 e9 HQ i9;obtain⟨E,acc,a,v,rfl,rfl,f4,d4,hor,j0,HQ⟩:=hrel;rcases HQ.out with⟨rfl,d5,m6,m7,m8,m9,o0⟩|⟨f5,j1,j2⟩
  rotate_left
  ·have t1:(E==0)=false:=by rw[cB];exact f5
   have hT:=L acc E j1 j2 f5;obtain⟨fn,tmps,assign,body,hy,hR⟩:=NC hY hT f4 (by omega);clear j1 j2 HQ L a0 f5 hT
   gi_wp2_with fail
   refine hR.mono ?_;rintro e W5 ⟨⟨c,rfl⟩,b9⟩
   gi_wp2_with fail
   go_ret;exact .inr ⟨rfl,b9⟩
  obtain⟨f,rfl⟩:∃f,gk=f+1:=⟨gk-1,by omega⟩;rw[bCu,HL.out] at d5;rw[HL.out] at m8 m9 o0;have hg:=fun X=>uQ s (a:Int) 48 X (by omega) (by decide) (by omega) (by omega)
  obtain⟨E1,j3⟩:=ex1 (aP s.size (a:Int) 48);obtain⟨V,hV⟩:=ex1 (aK s.data.toList (a:Int) 48);rw[<-j3,<-hV] at hg d5;have c3:=hid d5;have c0:=Arr.cell d4 (i:=0) rfl;have c1:=Arr.cell d4 (i:=1) rfl;clear j3 hV d5 HQ
  gi_wp2_with fail
  refine wpIn_wide.2 ?_
  go_quiet (first|(go_at_call 149;exact AY (hg _)))
  generalize a3:wr.drewN nq=D at*
  have a1:SRd D b s (a:Int) v:=by rw[<-a3];exact d4
  have b2:J (a7++okP acc) D:=hJ _ _ _ f4 (by rw[<-a3];exact iI.drewN _ _ _);have d6:OwS D A v (pB acc):=by rw[<-a3];exact hor
  have f6:A<=D.heap.size:=by rw[<-a3];exact j0
  clear a3 d4 f4 hor j0 c0 c1 hg
  by_cases I:E1=0
  rotate_left
  ·have t1:(E1 != 0)=true:=by rw[bne_iff_ne];exact I
   have d:=c3.out;rw[aB I] at d
   injection d with F x2
   injection x2 with x2 x3
   have hT:=L acc E1 F x3 I;obtain⟨fn,tmps,assign,body,hy,hR⟩:=NC hY hT b2 (by omega);clear F x2 x3 L a0 I hT
   gi_wp2_with fail
   refine hR.mono ?_;rintro e W5 ⟨⟨c,rfl⟩,b9⟩
   gi_wp2_with fail
   go_ret;exact .inr ⟨rfl,b9⟩
  subst I;have d:=c3.out;rw[aA (fun z=>z rfl)] at d
  by_cases U:V=25779555029136
  ·rw[aB U] at d;subst U;obtain⟨Q1,Q2,hQ⟩:∃Q1 Q2,kS s.data.toList (a:Int) (iM (pB acc))=(Q1,Q2):=⟨_,_,rfl⟩;have d7:=aZe b A s a v (pB acc) D a1 d6 d3 (by omega) (by omega);rw[hQ] at d7 d
   injection d with F x2
   injection x2 with x2 x3
   have HX:=hid (show P1=acc/\P2=Q1/\P3=Q2 from⟨F,x2,x3⟩);clear F x2 x3 hQ c3
   gi_wp2_with fail
   refine⟨trivial,(callsIn_wide.2 d7).mono ?_⟩;rintro e W5 ⟨rfl,j4,a',o1,f7⟩;have j5:=hJ _ _ _ b2 (iI.grown j4 a1 b6);have p9:=j4.size
   by_cases h3:Q2=0
   ·subst h3;have b3:=hid (f7 rfl);clear f7 d7 L a0
    gi_wp2_with fail
    refine⟨fun _ _=>trivial,?_⟩
    gi_wp2_with fail
    go_ret;obtain⟨y1,y2,y3⟩:=HX.out;exact .inl ⟨rfl,y3,by rw[y1];exact j5,v,by rw[y2,<-b3.out];exact o1⟩
   ·have t1:(Q2==0)=false:=by rw[cB];exact h3
    have hT:=L acc Q2 HX.out.1 HX.out.2.2 h3;obtain⟨fn,tmps,assign,body,hy,hR⟩:=NC hY hT j5 (by omega);clear f7 d7 L a0 h3 hT
    gi_wp2_with fail
    refine hR.mono ?_;rintro e W6 ⟨⟨c,rfl⟩,b9⟩
    gi_wp2_with fail
    go_ret;exact .inr ⟨rfl,b9⟩
  have u1:((V:Int)==25779555029136)=false:=by rw[cB];omega
  have o2:(V==25779555029136)=false:=by rw[cB];exact U
  rw[aA U] at d
  by_cases h3:V=54156738319193
  rotate_left
  ·have u2:((V:Int)==54156738319193)=false:=by rw[cB];omega
   have q0:(V==54156738319193)=false:=by rw[cB];exact h3
   rw[aB h3] at d
   injection d with F x2
   injection x2 with x2 x3
   have HX:=hid (show P1=acc/\P3=3 from⟨F,x3⟩);clear F x2 x3 c3 U h3 L a0
   gi_wp2_with fail
   gi_roundg 0
   ·exact⟨3,acc,a,v,rfl,rfl,b2,a1,d6,f6,hid (.inr ⟨by decide,HX.out.1,HX.out.2⟩)⟩
   ·omega
  rw[aA (fun z=>z h3)] at d;subst h3;have a9:=fun X (hX:dU X)=>bCp s (a:Int) R X hX (by omega) (by omega) (by omega) (by omega) (by omega)
  unfold FZ at a9;have d8:=CD (s:=s.data.toList) (at':=(a:Int)) (room:=R);obtain⟨G,D2,D3,D4,hD⟩:∃G D2 D3 D4,cO s.data.toList (a:Int) R=(G,D2,D3,D4):=⟨_,_,_,_,rfl⟩;rw[hD] at a9 d d8;unfold CP at a9;simp only at a9 d d8;obtain⟨A',b4⟩:∃A':Int,A'=if D4=0 then(a:Int) else 0:=⟨_,rfl⟩;rw[<-b4] at a9;have f8:=hid b4;clear b4;have f9:=l7 _ _ b2;have b3:=hid d;have g4:=hid d8;have c0:=Arr.cell a1 (i:=0) rfl;have c1:=Arr.cell a1 (i:=1) rfl;clear c3 u1 o2 U hD d d8
  gi_wp2_with fail
  have c5:Below D.heap.size D (D.alloc (.cells #[.string ⟨#[]⟩,.int .u32 0,.int .i64 0,.int .i64 0] 89)):=bD (aH _ _) _;have j6:dU (D.alloc (.cells #[.string ⟨#[]⟩,.int .u32 0,.int .i64 0,.int .i64 0] 89)):=f9.below (bD (aH _ _) _);have d9:Arr (D.alloc (.cells #[.string ⟨#[]⟩,.int .u32 0,.int .i64 0,.int .i64 0] 89)) D.heap.size 89 [.string ⟨#[]⟩,.int .u32 0,.int .i64 0,.int .i64 0]:=Arr.new D _ [_,_,_,_];generalize D.alloc (.cells #[.string ⟨#[]⟩,.int .u32 0,.int .i64 0,.int .i64 0] 89)=W6 at*
  obtain⟨z,hz⟩:=ex1 (D.heap.size);rw[<-hz] at d9 ⊢;have q1:A<=z:=by omega
  have j7:0<z:=by have:=f9.lt;omega
  have o3:=Arr.lt d9;have c0:=(c5.cell (p:=⟨b,0,none⟩) (Arr.lt a1)).trans c0;have c1:=(c5.cell (p:=⟨b,1,none⟩) (Arr.lt a1)).trans c1;have HZ:=hid hz;have o4:b<z:=by omega
  clear hz f9;refine wpIn_wide.2 ?_;have o5:=UX (w0:=W6) (z:=z) ⟨c0,c1,⟨_,_,_,_,d9⟩,aH _ _,by omega⟩ (aH W6.heap.size W6).drew;have HE:=fun O (h:O.cell? ⟨b,0,none⟩=some (.string s)/\O.cell? ⟨b,1,none⟩=some (.int .i64 (a:Int))/\(∃y0 y1 y2 y3,Arr O z 89 [y0,y1,y2,y3])/\Below z W6 O/\z+1<=O.heap.size)=>show dU O from(h.2.2.2.1.cell (p:=⟨0,0,none⟩) j7).trans j6
  go_region_held3 (fun O=>O.cell? ⟨b,0,none⟩=some (.string s)/\O.cell? ⟨b,1,none⟩=some (.int .i64 (a:Int))/\(∃y0 y1 y2 y3,Arr O z 89 [y0,y1,y2,y3])/\Below z W6 O/\z+1<=O.heap.size)
   (first
    |with_reducible assumption
    |with_reducible exact UX (by assumption) (by assumption)
    |exact bCt (by assumption) o4 _ _ _ _ _ rfl)
   (first|(go_at_call 130;refine(a9 _ (HE _ (by assumption))).mono ?_;rintro e W7 ⟨rfl,j8⟩;obtain⟨-,-,⟨y0,y1,y2,y3,a2⟩,j9,o6⟩:=UX (by assumption) j8;have g0:=a2.cell (i:=0) rfl;have g1:=a2.cell (i:=1) rfl;have g2:=a2.cell (i:=2) rfl;have g3:=a2.cell (i:=3) rfl;have f0:=a2.free 0;have f1:=a2.free 1;have f2:=a2.free 2;have f3:=a2.free 3))
  have e0:=(((a2.set 0 (.string G)).set 1 (.int .u32 D2)).set 2 (.int .i64 A')).set 3 (.int .i64 D3);have c7:Below D.heap.size D ((((W7.setCell ⟨z,0,none⟩ (.string G)).setCell ⟨z,1,none⟩ (.int .u32 D2)).setCell ⟨z,2,none⟩ (.int .i64 A')).setCell ⟨z,3,none⟩ (.int .i64 D3)):=by
   rw[<-HZ.out] at c5 ⊢;exact c5.trans ((((j9.setCell (p:=⟨z,0,none⟩) (aD _) _).setCell (p:=⟨z,1,none⟩) (aD _) _).setCell (p:=⟨z,2,none⟩) (aD _) _).setCell (p:=⟨z,3,none⟩) (aD _) _)
  change Arr ((((W7.setCell ⟨z,0,none⟩ (.string G)).setCell ⟨z,1,none⟩ (.int .u32 D2)).setCell ⟨z,2,none⟩ (.int .i64 A')).setCell ⟨z,3,none⟩ (.int .i64 D3)) z 89 [.string G,.int .u32 D2,.int .i64 A',.int .i64 D3] at e0;generalize (((W7.setCell ⟨z,0,none⟩ (.string G)).setCell ⟨z,1,none⟩ (.int .u32 D2)).setCell ⟨z,2,none⟩ (.int .i64 A')).setCell ⟨z,3,none⟩ (.int .i64 D3)=W8 at*
  have b5:SRd W8 b s (a:Int) v:=Arr.below a1 c7 (Arr.lt a1);have g5:OwS W8 A v (pB acc):=Ow.below d6 c7 (aD _);have g6:=hJ _ _ _ b2 (iI.of c7 (by omega));have g7:A<=W8.heap.size:=aR f6 c7.size;clear g0 g1 g2 g3 f0 f1 f2 f3 a2 j9 o6 j8 y0 y1 y2 y3 HE o5 c0 c1 d9 j6 c5 a9 a1 d6 b2 f6 c7 j7 o3 HZ
  by_cases h4:D4=0
  rotate_left
  ·have t1:(D4 != 0)=true:=by rw[bne_iff_ne];exact h4
   have d:=b3.out;rw[aB h4] at d
   injection d with F x2
   injection x2 with x2 x3
   have HX:=hid (show D4≠0/\P1=acc/\P3=D4 from⟨h4,F,x3⟩);clear F x2 x3 h4 L a0 g4 b3 f8
   gi_wp2_with fail
   gi_roundg 0
   ·exact⟨D4,acc,a,v,rfl,rfl,g6,b5,g5,g7,hid (.inr HX.out)⟩
   ·omega
  subst h4;obtain⟨-,-,-,-,-,k6,k7,k8,-⟩:=g4.out rfl;rw[HL.out] at k8;obtain⟨Z,rfl⟩:∃Z:Nat,D3=(Z:Int):=⟨D3.toNat,by omega⟩;have e1:=(cH G.data.toList).isLt;obtain⟨y,hy⟩:=ex1 ((cH G.data.toList).toNat);rw[<-hy] at k6 e1;subst k6;have e1:y<4294967296:=e1;have b4:=f8.out;rw[aB rfl] at b4;subst b4;have d:=b3.out;rw[aA (fun q=>q rfl)] at d;obtain⟨p,hp⟩:∃p:Prt,p=⟨G,(y:Int),(a:Int),(Z:Int),R⟩:=⟨_,rfl⟩;rw[<-hp] at d;have k0:∃r,T=a7++okP acc++(p,0)::r:=by
   obtain⟨m,hm⟩:=aD6 (s:=s.data.toList) (r:=R) f (Z:Int) (acc++[p]);rw[<-d,bU] at hm;exact a0 acc p m hm
  have HP:=hid d;have q2:Z<=1000000:=by omega
  have q3:a+96<Z:=by omega
  have o7:Z<=8*s.size:=by omega
  have d1:=Arr.cell b5 (i:=1) rfl;have f1:=Arr.free b5 1;have e3:=e0.cell (i:=3) rfl;have e2:SRd (W8.setCell ⟨b,1,none⟩ (.int .i64 (Z:Int))) b s (Z:Int) v:=Arr.set b5 1 _;have g8:Arr (W8.setCell ⟨b,1,none⟩ (.int .i64 (Z:Int))) z 89 [.string G,.int .u32 (y:Int),.int .i64 (a:Int),.int .i64 (Z:Int)]:=e0.other _ (by show b≠z;omega) _;have g9:OwS (W8.setCell ⟨b,1,none⟩ (.int .i64 (Z:Int))) A v (pB acc):=Ow.box g5 (gbS _ _ _ _) d3;have k1:=hJ _ _ _ g6 (iI.set (i:=1) b5 b6 (.int .i64 (Z:Int)));have k2:A<=(W8.setCell ⟨b,1,none⟩ (.int .i64 (Z:Int))).heap.size:=by simpa using g7
  clear d b3 f8 g4 k7 k8 hy L a0
  gi_wp2_with fail
  generalize W8.setCell ⟨b,1,none⟩ (.int .i64 (Z:Int))=W9 at*
  clear b5 e0 g5 g6 g7 d1 f1 e3;obtain⟨a8,b0⟩:=ex1 ((W9.alloc (.cells #[.int .u32 (y:Int)] 87)).drew);have i0:iI B0 W9 a8:=by rw[b0];exact(iI.of (bD (aH _ _) _) (by omega)).trans (iI.drew _ _)
  have k3:SRd a8 b s (Z:Int) v:=by rw[b0];exact Arr.alloc e2 _
  have k4:Arr a8 z 89 [.string G,.int .u32 (y:Int),.int .i64 (a:Int),.int .i64 (Z:Int)]:=by rw[b0];exact Arr.alloc g8 _
  have e4:OwS a8 A v (pB acc):=by rw[b0];exact Ow.alloc g9 _
  have k5:a8.cell? ⟨W9.heap.size,0,none⟩=some (.int .u32 ((pZ 32 y).toNat:Int)):=by rw[b0,bCs e1];exact bX _ _ _
  have k9:A<=a8.heap.size:=aR k2 i0.bel.size;have l1:(pB acc).length=acc.length:=aS ..;obtain⟨v',a4,hr,i1,e5,i2⟩:=bCr (w:=a8) 154 A v (pB acc) e4 W9.heap.size (pZ 32 y) k5 (by rw[l1];omega) k9;have c8:SRd a4 b s (Z:Int) v:=Arr.below k3 e5 d3;have l2:Arr a4 z 89 [.string G,.int .u32 (y:Int),.int .i64 (a:Int),.int .i64 (Z:Int)]:=k4.otherRow e4 i2 (by decide);have l3:iI B0 a8 a4:=⟨e5.mono (by omega),.app e4 i2 (by unfold AF;decide)⟩;obtain⟨va,vc,hv,-⟩:=(OwS.rd g9).open;obtain⟨vn,l4⟩:=ex1 ((pB acc).length);rw[<-l4] at hv
  obtain⟨a5,a6,l5,-⟩:=(OwS.rd i1).open;obtain⟨Y,l6⟩:∃Y,Y=(pB acc++[pZ 32 y]).length:=⟨_,rfl⟩;rw[<-l6] at l5;subst hv l5;have c2:=Arr.cell e2 (i:=2) rfl;have o8:(W9.alloc (.cells #[.int .u32 (y:Int)] 87)).cell? ⟨b,2,none⟩=some (.slice va vn vc):=(Arr.alloc e2 _).cell (i:=2) rfl;have F:=g8.cell (i:=1) rfl;have d2:=Arr.cell c8 (i:=2) rfl;have f2:=Arr.free c8 2;rw[b0] at hr;have o9:SRd (a4.setCell ⟨b,2,none⟩ (.slice a5 Y a6)) b s (Z:Int) (.slice a5 Y a6):=Arr.set c8 2 _
  have c9:Arr (a4.setCell ⟨b,2,none⟩ (.slice a5 Y a6)) z 89 [.string G,.int .u32 (y:Int),.int .i64 (a:Int),.int .i64 (Z:Int)]:=l2.other _ (by show b≠z;omega) _;have p0:OwS (a4.setCell ⟨b,2,none⟩ (.slice a5 Y a6)) A (.slice a5 Y a6) (pB acc++[pZ 32 y]):=Ow.box i1 (gbS _ _ _ _) d3;have p1:=hJ _ _ _ k1 ((i0.trans l3).trans (iI.set (i:=2) c8 b6 (.slice a5 Y a6)));have p2:A<=(a4.setCell ⟨b,2,none⟩ (.slice a5 Y a6)).heap.size:=by have:=e5.size;simp only[World.size_setCell];omega
  clear i0 k3 k4 e4 k5 k9 l1 i1 e5 i2 l3 c8 l2 l4 l6 b0;have p3:=hid (show pB acc++[pZ 32 y]=pB (acc++[p]) by
   unfold pB;rw[dY,List.map_cons,List.map_nil,hp,BitVec.ofInt_natCast])
  refine wpIn_wide.2 ?_
  go_region_law (refine sX rfl (.tmp 89) (.tmp 92) 154 rfl (.slice va vn vc) (.slice (some ⟨W9.heap.size,0,none⟩) 1 1) (.slice a5 Y a6) a4 (by simp[Act.eval]) (by simp[Act.eval]) hr ?_)
  all_goals
   generalize a4.setCell ⟨b,2,none⟩ (.slice a5 Y a6)=p4 at*
   obtain⟨fn,tmps,assign,body,hy,hR⟩:=hY _ (p,0) p4 p1 (by omega) k0;unfold GA at hy;rw[hp] at hy;dsimp only at hy;have q4:=hid hp;have z0:=c9.cell (i:=0) rfl;have z1:=c9.cell (i:=1) rfl;have z2:=c9.cell (i:=2) rfl;have z3:=c9.cell (i:=3) rfl;clear hp k0 c9 g8 e2 g9 k1 k2 hr c2 o8 F d2 f2
   gi_wp2_with fail
   refine hR.mono ?_;rintro e q5 (⟨rfl,p5,i3⟩|⟨rfl,p6⟩)
   ·gi_wp2_with fail
    gi_roundg f
    ·exact⟨0,acc++[p],Z,_,rfl,rfl,by rw[LQ,aVt,<-bU];exact p5,o9.kept i3,by rw[<-p3.out];exact OwS.kept p0 i3,aR p2 i3.1,hid (.inl ⟨rfl,HP.out,m6,m7,by rw[HL.out];exact o7,by rw[HL.out];omega,by rw[HL.out,aL,List.length_singleton];omega⟩)⟩
    ·omega
   ·gi_wp2_with fail
    go_ret;exact .inr ⟨rfl,.inr ⟨_,p6⟩⟩
theorem bCw {n l B:Nat} {T:List oJ} {J d:List oJ->World->Prop} (h:YOk n l B T J d) (m:Nat):YOk m l B T J d:=fun A x W1 a b c=>
 let⟨D,tmps,assign,body,F,e⟩:=h A x W1 a b c
 ⟨D,tmps,assign,body,F,e.1,fun c G _=>e.2 c G (room_wide _)⟩
def PaQ (s:List UInt8) (g:Nat) (a:Nat) (acc:List Prt):Prop:=cI s=gT s g (8*(a:Int)) acc/\8*a<=8*s.length/\8*s.length+1<=g+8*a
theorem bCx (n:Nat) (U:2<=n) (l D:Nat) (s:ByteArray) (J V:List oJ->World->Prop) (W:World) (hs:s.size<=120000) (Z:Arr W D 9 [.string s])
  (O:JOk W.heap.size J) (d0:∀p X,J p X->dU X) (hY:YOk (n-1) l W.heap.size (jY s.data.toList) J V) (h0:J [] W):
  iV cZ n pG 119 #[.func (.yield l) #[] #[],.pointer (some ⟨D,0,none⟩)] W fun e W'=>(∃v,e=.returned v)/\(J (jY s.data.toList) W'\/∃a4,V a4 W'):=by
 refine pX func119 rfl trivial ?_ rfl;simp only[ntmps119,dB,aU,aV,cV,dC,jG,jH,jI,jJ,eL,fF];have d:=hid (mV s);have c0:=Z.cell (i:=0) rfl
 by_cases F:s.data.toList=[]
 ·have te:s.toList.isEmpty=true:=by rw[Lib.toList_data,F];rfl
  have hT:jY s.data.toList=[]++[(uO,3)]:=by rw[F];exact aVx
  obtain⟨fn,tmps,assign,body,hy,hR⟩:=NC hY hT h0 (aD _);clear F hT
  gi_wp2_with fail
  refine⟨fun _=>by omega,hR.mono ?_⟩;rintro e W5 ⟨⟨c,rfl⟩,a5⟩
  gi_wp2_with fail
  refine fM (tI rfl _ _ _) rfl ?_;exact⟨⟨_,rfl⟩,a5⟩
 have te:s.toList.isEmpty=false:=xM F;have e2:0<s.size:=by rw[<-d.out];exact List.length_pos_iff.2 F
 have I:=hid (show PaQ s.data.toList (8*s.size+1) 0 [] by
  unfold PaQ;refine⟨?_,by omega,by rw[d.out];omega⟩;unfold cI;rw[aA F,d.out];rfl)
 clear F
 gi_wp2_with fail
 have a6:SRd (W.alloc (.cells #[.string s,.int .i64 0,.slice none 0 0] 206)) W.heap.size s ((0:Nat):Int) (.slice none 0 0):=Arr.new W _ [_,_,_];have b7:=Arr.alloc Z (.cells #[.string s,.int .i64 0,.slice none 0 0] 206);have b8:=O _ _ (W.alloc (.cells #[.string s,.int .i64 0,.slice none 0 0] 206)) h0 (iI.of (bD (aH _ _) _) (aD _));generalize W.alloc (.cells #[.string s,.int .i64 0,.slice none 0 0] 206)=W1 at*
 have b9:D<W.heap.size:=Z.lt;obtain⟨L,a7⟩:=ex1 (W.heap.size);rw[<-a7] at a6 b9 O hY ⊢;have HB:=hid a7;clear h0 Z c0 a7;have e3:(8*s.size)<=1000000:=by omega
 have d1:∀X Y,Arr X D 9 [.string s]->iI L X Y->Arr Y D 9 [.string s]:=fun X Y h k=>h.below k.bel b9
 have d2:∀m,YOk m l L (jY s.data.toList) (fun p X=>J p X/\Arr X D 9 [.string s]) V:=fun m a4 x X1 hj G hr=>by
  obtain⟨fn,tmps,assign,body,hy,hR⟩:=bCw hY m a4 x X1 hj.1 G hr;refine⟨fn,tmps,assign,body,hy,hR.mono ?_⟩;rintro e W' (⟨rfl,h1,h2⟩|⟨rfl,h1⟩)
  ·exact .inl ⟨rfl,⟨h1,h2.arr hj.2 (by unfold uZ;decide) (fun q=>by cases q)⟩,h2⟩
  ·exact .inr ⟨rfl,h1⟩
 gi_loopg [] (8*s.size+1) (fun g wr=>∃(acc:List Prt) (a:Nat) (v:Value),J (okP acc) wr/\SRd wr L s (8*(a:Int)) v/\Arr wr D 9 [.string s]/\Hid (PaQ s.data.toList g a acc))
 case atStart=>exact⟨[],0,_,b8,a6,b7,I⟩
 case round=>
  clear a6 b7 b8 I;obtain⟨acc,a,v,a8,a0,a9,I⟩:=hrel;obtain⟨R,b0,b1⟩:=I.out;rw[d.out] at b0 b1;obtain⟨A,b2⟩:=ex1 (8*a);obtain⟨M,c1⟩:=ex1 (8*s.size);have b3:8*(a:Int)=(A:Int):=by omega
  have d3:8*(s.size:Int)=(M:Int):=by omega
  have e4:A<=1000000:=by omega
  have e5:M<=1000000:=by omega
  rw[b3] at a0;have hw:aJ.wrap (8*(s.size:Int))=(M:Int):=by rw[d3];exact lE _ (by omega)
  have c0:=Arr.cell a0 (i:=1) rfl;have s0:=Arr.cell a9 (i:=0) rfl
  by_cases e6:A<M
  rotate_left
  ·have t1:decide ((A:Int)<(M:Int))=false:=aE (by omega);obtain⟨f,rfl⟩:∃f,gk=f+1:=⟨gk-1,by omega⟩;have d4:=hid (aVw R (by rw[d.out];omega)).1;clear R b0 b1 b2 c1 I b3
   gi_wp2_with fail
   refine wpIn_wide.2 ?_
   go_quiet (fail)
   gi_wp2_with fail
   go_end0
   exact⟨⟨_,rfl⟩,.inl (by rw[d4.out];exact O _ _ _ a8 (iI.drewN _ _ _))⟩
  have t1:decide ((A:Int)<(M:Int))=true:=aG (by omega);obtain⟨f,rfl⟩:∃f,gk=f+1:=⟨gk-1,by omega⟩;have b4:=aVu R (by rw[d.out];omega);rw[show(8*(a:Int))=((8*a:Nat):Int) by omega] at b4;have b5:=fun G=>aVv R (by rw[d.out];omega) G
  have b6:=fun G=>aVy (s:=s.data.toList) (a:=8*(a:Int)) (by omega) G
  have a1:=fun G=>EZ (s:=s.data.toList) (a:=8*(a:Int)) G
  rw[show(8*(a:Int))=((8*a:Nat):Int) by omega] at b5 b6 a1;rw[d.out] at a1;have c2:=hid b5;have c3:=hid b6;have c4:=hid a1;have c5:=hid b4;have d5:a<s.size:=by omega
  have d6:=hid b2;have e7:8*s.size<=f+8*a:=by omega
  clear R b0 b1 b2 c1 I b3 b5 b6 a1 b4
  gi_wp2_with fail
  refine wpIn_wide.2 ?_
  go_quiet (fail)
  generalize a2:wr.drewN nq=W4 at*
  have d7:SRd W4 L s ((8*a:Nat):Int) v:=by rw[<-a2,<-d6.out];exact a0
  have d8:Arr W4 D 9 [.string s]:=by rw[<-a2];exact a9
  have d9:J (okP acc) W4:=by rw[<-a2];exact O _ _ _ a8 (iI.drewN _ _ _)
  clear a2 a0 a9 a8 c0 s0;have c6:=bCv (n-1) (by omega) l L L a s v (okP acc) (jY s.data.toList) (fun p X=>J p X/\Arr X D 9 [.string s]) V W4 hs d5 d7 (aD _) (fun p X Y h k=>⟨O _ _ _ h.1 k,d1 _ _ h.2 k⟩) (fun p X h=>d0 _ _ h.1) (d2 _) c5.out ⟨d9,d8⟩
  gi_wp2_with fail
  refine⟨trivial,fun _=>by omega,c6.mono ?_⟩;rintro e W5 (⟨rfl,a3,⟨c7,e0⟩,v5,c8⟩|⟨rfl,a5⟩)
  ·have hm:=c3.out a3;have hk:=c4.out a3;obtain⟨a',c9⟩:∃a':Nat,(cU s.data.toList ((8*a:Nat):Int)).2.1=8*(a':Int):=⟨((cU s.data.toList ((8*a:Nat):Int)).2.1/8).toNat,by omega⟩;have U:=c2.out a3;rw[c9] at U c8 hk;have HN:=hid (show PaQ s.data.toList f a' (acc++(cU s.data.toList ((8*a:Nat):Int)).1) from⟨U,by rw[d.out];omega,by rw[d.out];omega⟩);have e1:f<f+1:=Nat.lt_succ_self f;rw[<-LQ] at c7;clear c6 hm hk c9 U a3 c3 c4 c2 c5
   gi_wp2_with fail
   gi_roundg f
   case measure=>exact e1
   case rel=>exact⟨_,a',v5,c7,c8,e0,HN⟩
  ·gi_wp2_with fail
   refine fM (tI rfl _ _ _) rfl ?_;exact⟨⟨_,rfl⟩,a5.elim (fun h=>.inl h.1) .inr⟩
theorem bCy (n:Nat) (D:2<=n) (d:Nat) (s:ByteArray) (w:World) (A:Arr w d 9 [.string s]) (F:s.size<=120000):
  aIq n pG 119 #[.pointer (some ⟨d,0,none⟩)] GA (eS AF none) (eS uZ none) dU (fun e x=>∃r,jY s.data.toList=e++x::r) (fun G=>G=jY s.data.toList) w:=fun l J I W L M _ O R U=>
 (bCx n D l d s J I W F (A.below L A.lt) (fun p X Y h k=>M p X Y h k.bel k.ty) O (fun e x W1 a b c=>R e x W1 a b c) U).mono fun _ _ h=>⟨h.1,h.2.elim (fun k=>.inl ⟨_,rfl,k⟩) .inr⟩
def oK (p:Prt):List Value:=[.string p.t,.int .u32 p.y,.int .i64 p.a,.int .i64 p.z]
def kD (p:Prt):List Value:=[.string p.t,.int .u32 p.y,.int .i64 p.a,.int .i64 p.z,.int .i64 p.r]
theorem CU (l:List Prt):oW 5 (l.map kD):=fun q e=>by
 obtain⟨p,_,rfl⟩:=eK.1 e;exact⟨rfl,fun u d=>by unfold kD at d;simp only[jQ,YB,or_false] at d;rcases d with rfl|rfl|rfl|rfl|rfl<;>rfl⟩
theorem aI5 (l:List Prt):oW 4 (l.map oK):=fun q e=>by
 obtain⟨p,_,rfl⟩:=eK.1 e;exact⟨rfl,fun u d=>by unfold oK at d;simp only[jQ,YB,or_false] at d;rcases d with rfl|rfl|rfl|rfl<;>rfl⟩
theorem bC1:ElR pG 80 91 5 48 (.agg #[.string ⟨#[]⟩,.int .u32 0,.int .i64 0,.int .i64 0,.int .i64 0]):=ElR.mk' (by kernel_rfl) underlying80 rfl (by decide) (by decide)
theorem bC2:ElR pG 97 89 4 40 (.agg #[.string ⟨#[]⟩,.int .u32 0,.int .i64 0,.int .i64 0]):=ElR.mk' (by kernel_rfl) underlying97 rfl (by decide) (by decide)
def eY (s:List UInt8):List Prt:=if(cI s).2=0 then(cI s).1 else[]
theorem UY {F:Fence} {n:Nat} {P:Program} {t e k A:Nat} {z:Value} (E:ElR P t e k A z) {D:Array Oper} {rest:List Oper} {o:Oper} {a:Act} {Q:Exit->Act->World->Prop} {w:World} (I:o.guard=none) (s x:Operand)
  (J:o.op=.call {callee:=.builtin .append,args:=#[s,x],argTypes:=#[t,t]}) (base:Nat) (v:Value) (l:lC) (hs:a.eval s=v) (hown:OwR w base e k v l)
  (g:Nat) (q:List Value) (hx:a.eval x=.slice (some ⟨g,0,none⟩) 1 1) (hc:Arr w g e q) (hq:q.length=k) (h1:∀u∈q,u.oneCell'=true) (hroom:(l.length+1)*A<=140737488355328) (hbase:base<=w.heap.size)
  (h:∀d w',OwR w' base e k d (l++[q])->Below base w w'->w.grownBy w' v.ownBlock->wpListIn F n P D Q rest (a.put o.dst d) w'):wpListIn F n P D Q (o::rest) a w:=by
 obtain⟨i,L,M,O,R⟩:=E.info;have U:=E.pos;have Y:l.length+1<=140737488355328:=aR (Nat.le_mul_of_pos_right _ U) hroom;refine wpListIn_append_own w I s x t J base e i z k A E.under L M O R E.cells E.some' v l.length l.flatten hs hown ⟨g,0,none⟩ 1 1 q hx (by grind) (fun j u V=>?_) h1 (by simp only[maxLen];omega) hroom hbase (fun d w' Z G _=>h d w' ?_ (rJ hown G hbase) G)
 ·rw[show(⟨g,0,none⟩:Addr).add j=⟨g,j,none⟩ by unfold gP;split<;>simp_all];exact hc.cell V
 ·unfold OwR
  grind
theorem UZ {w w':World} {B e size n:Nat} {v:Value} {F:List Value} (G:w.ownsRow B e size v n F) (I:w.grownBy w' v.ownBlock) (k:Nat) (o:Obj) (A:w.heap[k]? =some o) (D:o.isCells=false):w'.heap[k]? =some o:=by
 refine(I.block k (fE.1 A).1 (fun q=>?_)).trans A;rcases G.2 with⟨rfl,_⟩|⟨g,cap,J,rfl,_,d,_⟩
 ·cases q
 ·obtain rfl:=cC q;rw[A] at d
  injection d with d
  rw[d] at D;exact vM D
theorem wP {w:World} {z e i:Nat} {l:List Value} (D:Arr w z e l) (v:Value) (k:Nat) (o:Obj) (d:w.heap[k]? =some o) (A:o.isCells=false):(w.setCell ⟨z,i,none⟩ v).heap[k]? =some o:=by
 rw[heap_setCell_other w ⟨z,i,none⟩ k v (fun q=>?_)]
 ·exact d
 ·have q:k=z:=q;have F:w.heap[z]? =some (.cells l.toArray e (0,0)):=D;rw[q,F] at d
  injection d with d
  rw[<-d] at A;exact vM A
theorem ND {B:Nat} {W d:World} (e:W.heap.size<=d.heap.size) (h:∀(k:Nat) (o:Obj),W.heap[k]? =some o->o.isCells=false->d.heap[k]? =some o):KeepsFrom B W d:=⟨e,fun k o _ A D=>h k o A D⟩
theorem VA {w:World} {B e size n D:Nat} {v:Value} {F:List Value} {o:Obj} (G:w.ownsRow B e size v n F) (I:w.heap[D]? =some o) (A:o.isCells=false:=by rfl):v.ownBlock=none\/v.ownBlock≠some D:=by
 rcases G.2 with⟨rfl,_⟩|⟨g,cap,J,rfl,_,d,_⟩
 ·exact .inl rfl
 ·refine .inr fun q=>?_
  obtain rfl:=cC q;rw[I] at d
  injection d with d
  rw[d] at A;exact vM A
theorem bC3 (n:Nat) (d:ByteArray) (w:World):
  iV cZ n pG 79 #[.string d] w fun e w'=>e=.returned (.func (.func 119) #[] #[.pointer (some ⟨w.heap.size,0,none⟩)])/\w'=w.alloc (.cells #[.string d] 9):=by
 refine pX func79 rfl trivial ?_ rfl;simp only[ntmps79,dB,aU,aV,cV,dC,jG,jH,jI,jJ,eL,fF]
 gi_wp2
 go_ret;exact⟨rfl,rfl⟩
theorem bC4 (n:Nat) (hn:6<=n) (s:ByteArray) (w:World) (hE:dU w) (hs:s.size<=120000):
  iV cZ n pG 35 #[.string s] w fun e w'=>∃v,e=.returned (.tuple #[v,.int .i64 (cI s.data.toList).2])/\RdR w' v ((eY s.data.toList).map kD)/\Below w.heap.size w w':=by
 have h1:1<=n:=by omega
 refine callsIn_of_wp_marks func35 rfl trivial ?_ rfl;simp only[ntmps35,dB,aU,aV,cV,dC,jG,jH,jI,jJ,eL,fF]
 gi_wp2_with fail
 refine⟨trivial,(bC3 (n-1) s _).mono ?_⟩;rintro e w' ⟨rfl,rfl⟩
 gi_wp2_with fail
 have b0:=(((Arr.new w 80 [.slice none 0 0]).alloc (.cells #[.int .i64 0] 27)).alloc (.cells #[.string s] 9));have a2:=((Arr.new (w.alloc (.cells #[.slice none 0 0] 80)) 27 [.int .i64 0]).alloc (.cells #[.string s] 9));have a4:=Arr.new ((w.alloc (.cells #[.slice none 0 0] 80)).alloc (.cells #[.int .i64 0] 27)) 9 [.string s];have b4:Below w.heap.size w (((w.alloc (.cells #[.slice none 0 0] 80)).alloc (.cells #[.int .i64 0] 27)).alloc (.cells #[.string s] 9)):=(((aH _ w).alloc (aD _) _).alloc (by simp) _).alloc (by simp;omega) _
 have c2:(((w.alloc (.cells #[.slice none 0 0] 80)).alloc (.cells #[.int .i64 0] 27)).alloc (.cells #[.string s] 9)).heap.size=w.heap.size+1+1+1:=by simp
 simp only[World.size_alloc] at a2 a4;change Arr (((w.alloc (.cells #[.slice none 0 0] 80)).alloc (.cells #[.int .i64 0] 27)).alloc (.cells #[.string s] 9)) _ _ _ at b0;change Arr (((w.alloc (.cells #[.slice none 0 0] 80)).alloc (.cells #[.int .i64 0] 27)).alloc (.cells #[.string s] 9)) _ _ _ at a2;change Arr (((w.alloc (.cells #[.slice none 0 0] 80)).alloc (.cells #[.int .i64 0] 27)).alloc (.cells #[.string s] 9)) _ _ _ at a4;generalize ((w.alloc (.cells #[.slice none 0 0] 80)).alloc (.cells #[.int .i64 0] 27)).alloc (.cells #[.string s] 9)=w1 at*
 obtain⟨z,hz⟩:=ex1 (w.heap.size);rw[<-hz] at b0 a2 a4 b4 c2 ⊢;have HZ:=hid hz;clear hz;obtain⟨E,a5⟩:=ex1 ((cI s.data.toList).2);obtain⟨T,hT⟩:=ex1 (jY s.data.toList);have a6:∀(F r:List oJ) (x:oJ),T=F++x::r->x.2≠0->x.2=E/\E≠0:=fun F r x h M=>by
  have:=aVz (by rw[<-hT];exact h) M;rw[this.1];exact⟨a5.symm,by rw[a5];exact this.2⟩
 have c8:T.length<=8*s.size+2:=aI4 s hT;have a7:=hid a5;have HT:=hid hT;have b5:=bCy (n-1) (by omega) (z+1+1) s w1 a4 hs;rw[<-hT] at b5;clear a5 hT;have c4:z+1+1+1<=w1.heap.size:=by omega
 refine bBz (w0:=w1) (Ri:=eS AF none) (Kp:=eS uZ none) (Ok:=dU) (Pre:=fun F x=>∃r,T=F++x::r) (encs:=GA) h1 (gf:=119) (lb:=#[.pointer (some ⟨z+1+1,0,none⟩)]) rfl (enters_of func119 (by kernel_rfl) rfl)
  b5 (aH _ _) (fun _=>rfl) (fun h k=>h.trans k) (fun _ _ h=>.of_kept h) (fun _ _ h=>.of_kept h)
  (fun F W=>(∀x∈F,x.2=0)/\(∃v,Arr W z 80 [v]/\OwR W (z+1+1+1) 91 5 v (F.map (fun x=>kD x.1)))/\Arr W (z+1) 27 [.int .i64 0]/\Below z w W/\z+1+1+1<=W.heap.size)
  (fun c _ W=>c=.ret/\Arr W z 80 [.slice none 0 0]/\Arr W (z+1) 27 [.int .i64 E]/\E≠0/\Below z w W/\z+1+1+1<=W.heap.size)
  (fun F A B ⟨U,⟨v,d,G⟩,O,R,k6⟩ V hk=>⟨U,⟨v,d.below V (by omega),eS.own hk G (by unfold AF;decide)⟩,O.below V (by omega),R.trans (V.mono (by omega)),aR k6 V.size⟩)
  (fun c F A B ⟨U,d,G,O,R,k6⟩ V hk=>⟨U,d.below V (by omega),G.below V (by omega),O,R.trans (V.mono (by omega)),aR k6 V.size⟩)
  ⟨fun x M=>by simp at M,⟨_,b0,OwR.nil _ _ _ _⟩,a2,b4,c4⟩ (fun F A k=>hE.below (by rw[<-HZ.out];exact k.2.2.2.1))
  (fun x a' W=>∃zb,z+1+1+1<=zb/\Arr W zb 91 (kD x.1)/\a'={tmps:=#[.string s,undef,.pointer (some ⟨z,0,none⟩),.pointer (some ⟨z+1,0,none⟩),.pointer (some ⟨zb,0,none⟩),.int .i64 x.2,.string s,.func (.func 119) #[] #[.pointer (some ⟨z+1+1,0,none⟩)],.agg #[.string x.1.t,.int .u32 x.1.y,.int .i64 x.1.a,.int .i64 x.1.z,.int .i64 x.1.r],.int .i64 x.2,undef,undef,undef,undef,undef,undef,undef,undef],defers:=[]})
  (fun x a' A A' ⟨zb,U,d,G⟩ hk=>⟨zb,U,hk.arr d (by simp),G⟩) ?assign ?body ?done ?stop
 case assign=>
  rintro l0 F ⟨p,E0⟩ W K hI hB c9 hK;unfold GA;have b6:=hI.2.2.2.2
  gi_wp2
  exact hK _ _ (bD (aH _ _) _) ⟨W.heap.size,b6,Arr.new W _ [_,_,_,_,_],rfl⟩
 case body=>
  rintro l0 F ⟨p,E0⟩ a' W ⟨U,⟨v,d,G⟩,O,R,k6⟩ hB ⟨r,hr⟩ ⟨zb,d0,hS,rfl⟩;dsimp only at hS hr ⊢;have b6:=d.lt
  by_cases a8:E0=0
  rotate_left
  ·have t1:(E0 != 0)=true:=by rw[bne_iff_ne];exact a8
   obtain⟨rfl,d1⟩:=a6 F r (p,E0) hr a8;have c0:=d.cell (i:=0) rfl;have f0:=d.free 0;have Y:=O.other ⟨z,0,none⟩ (by show z≠z+1;omega) (.slice none 0 0);have c1:=Y.cell (i:=0) rfl;have f1:=Y.free 0;clear a6 a8
   gi_wp2_with fail
   refine⟨ND (by simp) (fun k o ho hc=>?_),rfl,(d.set 0 _).other _ (by show z+1≠z;omega) _,Y.set 0 _,(R.setCell (p:=⟨z,0,none⟩) (aD _) _).setCell (p:=⟨z+1,0,none⟩) (by show z<=z+1;omega) _,by simpa using k6⟩;exact wP Y _ k o (wP d _ k o ho hc) hc
  subst a8;have d2:F.length+1<=960100:=by
   have h:=congrArg List.length hr;rw[aL,aU] at h;omega
  obtain⟨I,J,hv,-⟩:=(OwR.rd G).open (by intro q Z;obtain⟨x,-,rfl⟩:=eK.1 Z;exact CU [x.1] _ (by simp)) (by decide:1<=5);obtain⟨L,a0⟩:=ex1 ((F.map (fun x:oJ=>kD x.1)).length);rw[<-a0] at hv;subst hv;have c0:=d.cell (i:=0) rfl;have q0:=hS.cell (i:=0) rfl;have q1:=hS.cell (i:=1) rfl;have q2:=hS.cell (i:=2) rfl;have q3:=hS.cell (i:=3) rfl;have q4:=hS.cell (i:=4) rfl;clear a0 a6 hr
  gi_wp2_with (gi_at_builtin;refine UY bC1 rfl _ _ rfl (z+1+1+1) _ _ rfl (OwR.alloc G _) _ (kD p) rfl (Arr.new W 91 (kD p)) rfl (fun u hu=>(CU [p] _ (by simp)).2 u hu) ?_ ?_ ?_;(simp only[aS];omega);(simp;omega);intro v3 W3 p1 p2 p3;(obtain⟨a3,c3,b7,-⟩:=(OwR.rd p1).open (by intro q Z;rcases dK.1 Z with Z|Z;(obtain⟨x,-,rfl⟩:=eK.1 Z;exact CU [x.1] _ (by simp));(exact CU [p] _ (by simpa using Z))) (by decide:1<=5));(obtain⟨n3,b1⟩:=ex1 ((F.map (fun x:oJ=>kD x.1)++[kD p]).length));rw[<-b1] at b7;subst b7;(have d3:=hid b1);clear b1;(have a1:=Arr.below (Arr.alloc d (.cells (kD p).toArray 91)) p2 (by omega));(have c5:=Arr.below (Arr.alloc O (.cells (kD p).toArray 91)) p2 (by omega));(have g0:=a1.cell (i:=0) rfl);(have e0:=a1.free 0))
  change (W.alloc (.cells (kD p).toArray 91)).grownBy W3 (Value.slice I L J).ownBlock at p3;change Below (z+1+1+1) (W.alloc (.cells (kD p).toArray 91)) W3 at p2;have d4:(W.alloc (.cells (kD p).toArray 91)).heap.size=W.heap.size+1:=by simp
  have d5:=p2.size;refine⟨ND (by simp;omega) (fun k o ho hc=>wP a1 _ k o (UZ (OwR.alloc G (.cells (kD p).toArray 91)) p3 k o ((Below.heap_alloc W _ k (fE.1 ho).1).trans ho) hc) hc),
   (eS.of_below (bD (aH _ _) (.cells (kD p).toArray 91))).trans ((eS.app (OwR.alloc G _) p3 (by unfold uZ;decide)).trans (eS.box a1 (by unfold uZ;decide) _)),?_⟩
  refine⟨fun x M=>?_,⟨_,a1.set 0 _,?_⟩,c5.other _ (by show z≠z+1;omega) _,(R.trans ((((aH _ W).alloc (aD _) _).mono (by omega)).trans (p2.mono (by omega)))).setCell (p:=⟨z,0,none⟩) (aD _) _,by simp;omega⟩
  ·rcases dK.1 M with M|M
   ·exact U x M
   ·obtain rfl:=cP.1 M;rfl
  ·rw[dY];exact vL p1 (a:=⟨z,0,none⟩) (by show z<z+1+1+1;omega) _
 case done=>
  rintro D xs W hD b2 ⟨U,⟨v,d,G⟩,O,R,k6⟩ hK;obtain⟨I,J,hv,-⟩:=(OwR.rd G).open (by intro q Z;obtain⟨x,-,rfl⟩:=eK.1 Z;exact CU [x.1] _ (by simp)) (by decide:1<=5);obtain⟨L,a0⟩:=ex1 ((xs.map (fun x:oJ=>kD x.1)).length);rw[<-a0] at hv;subst hv;have a9:=aV0 (s:=s.data.toList) (fun x M=>U x (by rw[b2,HT.out];exact M));have b8:=hid (show E=0/\xs.map (fun x:oJ=>kD x.1)=(eY s.data.toList).map kD by
   refine⟨by rw[a7.out];exact a9.1,?_⟩;rw[b2,HT.out,a9.2];unfold eY okP;rw[aB a9.1,List.map_map];rfl)
  have c0:=d.cell (i:=0) rfl;have f0:=d.free 0;have c6:=d.set 0 (.slice I L J);have Y:=O.other ⟨z,0,none⟩ (by show z≠z+1;omega) (.slice I L J);have c1:=Y.cell (i:=0) rfl;have f1:=Y.free 0;have b3:((W.setCell ⟨z,0,none⟩ (.slice I L J)).setCell ⟨z+1,0,none⟩ (.int .i64 0)).heap[D]? =some (.deferred (some [])):=wP Y _ D _ (wP d _ D _ hK rfl) rfl;clear a0 a9 a6 b2
  gi_wp2_with fail
  refine⟨by simp,.inl ⟨_,_,rfl,sE b3,?_⟩⟩;have g2:Arr ((W.setCell ⟨z,0,none⟩ (.slice I L J)).setCell ⟨z+1,0,none⟩ (.int .i64 0)) z 80 [.slice I L J]:=c6.other ⟨z+1,0,none⟩ (by show z+1≠z;omega) _;have g4:Arr ((W.setCell ⟨z,0,none⟩ (.slice I L J)).setCell ⟨z+1,0,none⟩ (.int .i64 0)) (z+1) 27 [.int .i64 0]:=Y.set 0 _;have q2:=(g2.grown (kV _ D (.deferred none)) (by simp;omega)).cell (i:=0) rfl;have q3:=(g4.grown (kV _ D (.deferred none)) (by simp;omega)).cell (i:=0) rfl
  have b9:=vL (vL G (a:=⟨z,0,none⟩) (by show z<z+1+1+1;omega) (.slice I L J)) (a:=⟨z+1,0,none⟩) (by show z+1<z+1+1+1;omega) (.int .i64 0);have c7:Below z w ((W.setCell ⟨z,0,none⟩ (.slice I L J)).setCell ⟨z+1,0,none⟩ (.int .i64 0)):=(R.setCell (p:=⟨z,0,none⟩) (aD _) _).setCell (p:=⟨z+1,0,none⟩) (by show z<=z+1;omega) _;refine⟨.tuple #[.slice I L J,.int .i64 0],?_,.slice I L J,by rw[<-a7.out,b8.out.1],?_,?_⟩
  ·simp[results,f35,go_sem,q2,q3]
  ·rw[<-b8.out.2];exact OwR.rd (yJ b9 (kV _ D (.deferred none)) (VA b9 b3))
  ·rw[<-HZ.out];exact c7.trans (belowK_b (w:=w1) (by omega) _ D _ _ hD b3 rfl rfl)
 case stop=>
  rintro D c F W hD ⟨rfl,d,G,O,R,k6⟩ hK
  gi_wp2_with fail
  refine⟨by simp,.inl ⟨_,_,rfl,sE hK,?_⟩⟩;have q2:=(d.grown (kV _ D (.deferred none)) (by simp;omega)).cell (i:=0) rfl;have q3:=(G.grown (kV _ D (.deferred none)) (by simp;omega)).cell (i:=0) rfl;refine⟨.tuple #[.slice none 0 0,.int .i64 E],?_,.slice none 0 0,by rw[<-a7.out],?_,?_⟩
  ·simp[results,f35,go_sem,q2,q3]
  ·have:eY s.data.toList=[]:=by unfold eY;rw[aA (by rw[<-a7.out];exact O)]
   rw[this];exact(OwR.nil _ 0 91 5).rd
  ·rw[<-HZ.out];exact R.trans (belowK_b (w:=w1) (by omega) _ D _ _ hD hK rfl rfl)
theorem VB (s:ByteArray) (w:World) (d:dU w) (A:s.size<=120000):
  Calls pG 35 #[.string s] w fun e w'=>∃v,e=.returned (.tuple #[v,.int .i64 (cI s.data.toList).2])/\RdR w' v ((eY s.data.toList).map kD)/\Below w.heap.size w w':=
 callsIn_wide.1 (bC4 6 (aD _) s w d A)
end Go.Proofs.YtfckbfofgeilgaaGreatDoor
