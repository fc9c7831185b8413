/-
  Texts put together (part 37): the walks and the plain laws on which the statement stands.
-/
import Derived.Test.YtihbnmlinkbnkaaGreatDoorZ35
import Derived.Test.YtihbnmlinkbnkaaGreatDoorZ36
set_option maxRecDepth 100000
set_option maxHeartbeats 12800000
set_option linter.unusedVariables false
set_option linter.unusedSimpArgs false
open Go.Proofs.Tryz
open Go.Proofs.Tryz renaming prog->pG
open Array renaming getElem?_eq_some_iff->fE,replicate_succ->jG,replicate_zero->jH
open BitVec renaming ofNat->pZ
open Bool renaming noConfusion->vM
open Go renaming CallsIn->iV,bodyPost_ret->fM,callsIn_of_wp->pX,grownBy_putObj'->kV,results_none->tI,run_takeDeferred->sE
open Go.Act renaming eval->lL
open Go.Addr renaming add->gP
open Go.Calls renaming quiet_of_same->AY
open Go.Fence renaming wide->cZ
open Go.IntKind renaming i64->aJ,wrap_i64->aM
open Go.RowKit renaming ownsRow_setCell_below->vL
open Go.RowKit.Below renaming refl->aH
open Go.World renaming block_lt_of_cell?->gV
open Go.World.ownsRow renaming kept->yJ
open List renaming append_assoc->bU,append_toArray->jJ,cons_append->fF,length_append->aL,length_cons->aU,length_map->aS,length_nil->aV,map_append->dY,mem_append->dK,mem_map->eK,mem_singleton->cP,nil_append->eL,push_toArray->jI,size_toArray->dB
open Nat renaming le_refl->aD,le_trans->aR,reduceAdd->cV,reduceSub->dC
open Option.some renaming inj->cC
namespace Go.Proofs.YtihbnmlinkbnkaaGreatDoor
open Go.RowKit Go Go.Shelf
attribute [local go_sem] Oper.semAt_some
abbrev oJ:=Prt×Int
def GA (x:oJ):Array Value:=#[.agg #[.string x.1.t,.int .u32 x.1.y,.int .i64 x.1.a,.int .i64 x.1.z,.int .i64 x.1.r],.int .i64 x.2]
def AF:List TypeId:=[93,97,29]
def uZ:List TypeId:=[221,44,9]
structure iI (B:Nat) (W W':World):Prop where
 bel:Below B W W'
 ty:eS AF none W W'
theorem iI.trans {B:Nat} {X Y Z:World} (h:iI B X Y) (k:iI B Y Z):iI B X Z:=⟨h.bel.trans k.bel,h.ty.trans k.ty⟩
theorem iI.of {B:Nat} {X Y:World} (h:Below X.heap.size X Y) (d:B<=X.heap.size):iI B X Y:=⟨h.mono d,.of_below h⟩
theorem iI.drew (B:Nat) (X:World):iI B X X.drew:=⟨(aH B X).drew,aD _,fun _ _ _ _ h _ _=>h⟩
theorem iI.drewN (B:Nat) (X:World) (n:Nat):iI B X (X.drewN n):=⟨⟨rfl,rfl,rfl,aD _,fun _ _=>rfl⟩,aD _,fun _ _ _ _ h _ _=>h⟩
theorem iI.set {B b i:Nat} {X:World} {l:List Value} (h:Arr X b 221 l) (d:B<=b) (v:Value):iI B X (X.setCell ⟨b,i,none⟩ v):=
 ⟨(aH B X).setCell (p:=⟨b,i,none⟩) d v,.box h (by simp[AF,Arr]) v⟩
theorem iI.grown {B b:Nat} {X Y:World} {l:List Value} (h:X.grownBy Y (some b)) (d:Arr X b 221 l) (A:B<=b):iI B X Y:=
 ⟨(aH B X).grown h (by grind [Arr]) (fun k F=>by grind),.grownBox h d (by simp[AF,Arr])⟩
abbrev JOk (B:Nat) (J:List oJ->World->Prop):Prop:=∀s X Y,J s X->iI B X Y->J s Y
abbrev YOk (n l B:Nat) (T:List oJ) (J F:List oJ->World->Prop):Prop:=∀pre x d,J pre d->B<=d.heap.size->(∃r,T=pre++x::r)->
 YieldAt cZ n pG l (GA x) d fun e A=>(e=.returned (.bool true)/\J (pre++[x]) A/\eS uZ none d A)\/(e=.returned (.bool false)/\F (pre++[x]) A)
def pB (l:List Prt):List (BitVec 32):=l.map (fun p=>BitVec.ofInt 32 p.y)
theorem SRd.kept {W d:World} {b:Nat} {s:ByteArray} {a:Int} {v:Value} (h:SRd W b s a v) (k:eS uZ none W d):SRd d b s a v:=k.arr h (by unfold uZ;decide) (fun e=>by cases e)
theorem OwS.kept {W d:World} {B:Nat} {v:Value} {l:List (BitVec 32)} (h:OwS W B v l) (k:eS uZ none W d):OwS d B v l:=eS.own k h (by unfold uZ;decide)
theorem bCq {s:List UInt8} {a:Int} {pre T:List oJ} {acc:List Prt} {E:Int} (h:InT s a pre T) (d:(cU s a).1=acc) (A:(cU s a).2.2=E) (F:E≠0):T=(pre++okP acc)++[(uO,E)]:=by
 have:=h.bad (by grind)
 grind
theorem bCr {w:World} (G:TypeId) (d:Nat) (v:Value) (l:List (BitVec 32)) (H:OwS w d v l) (g:Nat) (n:BitVec 32) (L:w.cell? ⟨g,0,none⟩=some (.int .u32 (n.toNat:Int))) (M:(l.length+1)*4<=140737488355328) (I:d<=w.heap.size):
  ∃A w',(Builtin.append_ #[81,81] G #[v,.slice (some ⟨g,0,none⟩) 1 1]).run pG w=.ok A w'/\OwS w' d A (l++[n])/\Below d w w'/\w.grownBy w' v.ownBlock:=by
 obtain⟨i,hi,O,U,V⟩:=info_parts (show(pG.info? 44).map (fun i=>(i.zero,i.size,i.bytes))=some (some (.int .u32 0),1,4) by kernel_rfl);obtain⟨A,w',Z,q2,J,_⟩:=run_append_own (P:=pG) w d 81 G 44 i _ 1 4 underlying81 hi O U V rfl (by decide) v (uX l).length (uX l) H ⟨g,0,none⟩ 1 1 [.int .u32 (n.toNat:Int)] rfl (fun j u' F=>by
  cases j with
  |zero=>simp at F;subst F;simpa [gP] using L
  |succ j=>simp at F) (fun u' hu=>by obtain rfl:=cP.1 hu;rfl) (by rw[FO];simp only[maxLen];omega) (by rw[FO];exact M) I
 refine⟨A,w',Z,?_,rJ H J I,J⟩;unfold OwS uX;rw[dY];unfold Ow;rw[aL];exact q2
theorem NC {n l B:Nat} {T pre:List oJ} {J A:List oJ->World->Prop} {E:Int} {X:World} (G:YOk n l B T J A) (H:T=pre++[(uO,E)]) (I:J pre X) (L:B<=X.heap.size):
  ∃d tmps assign body,(Instr.yield l #[.agg #[.string ⟨#[]⟩,.int .u32 0,.int .i64 0,.int .i64 0,.int .i64 0],.int .i64 E]).run pG X=.ok (.round l d tmps assign body) X/\
   RoundIn cZ n pG l d tmps assign body X (fun e F=>(∃c,e=.returned (.bool c))/\(J T F\/∃p,A p F)):=by
 obtain⟨d,tmps,assign,body,M,O⟩:=G _ (uO,E) X I L ⟨[],H⟩;refine⟨d,tmps,assign,body,M,O.mono ?_⟩
 grind
theorem Arr.otherRow {w w':World} {z e B d A n:Nat} {l:List Value} {v:Value} {F:List Value} (h:Arr w z e l) (G:w.ownsRow B d A v n F) (H:w.grownBy w' v.ownBlock) (I:e≠d):Arr w' z e l:=by
 refine h.grown H ?_;rcases G.2 with⟨rfl,_⟩|⟨g,cap,J,rfl,_,L,_⟩
 ·exact fun q=>by cases q
 ·intro q;obtain rfl:=cC q
  grind [Arr]
theorem bCs {y:Nat} (h:y<4294967296):(pZ 32 y).toNat=y:=by grind
theorem UX {w0 w1 w2:World} {b z:Nat} {I J:Value} (h:w1.cell? ⟨b,0,none⟩=some I/\w1.cell? ⟨b,1,none⟩=some J/\(∃d A F G,Arr w1 z 46 [d,A,F,G])/\Below z w0 w1/\z+1<=w1.heap.size) (H:Below w1.heap.size w1 w2):w2.cell? ⟨b,0,none⟩=some I/\w2.cell? ⟨b,1,none⟩=some J/\(∃d A F G,Arr w2 z 46 [d,A,F,G])/\Below z w0 w2/\z+1<=w2.heap.size:=by
 obtain⟨L,M,⟨d,A,F,G,O⟩,U,V⟩:=h;exact⟨(H.cell (gV w1 _ L)).trans L,(H.cell (gV w1 _ M)).trans M,⟨d,A,F,G,O.below H O.lt⟩,U.trans (H.mono (by omega)),aR V H.size⟩
theorem bCt {w0 w1:World} {b z:Nat} {O U:Value} (h:w1.cell? ⟨b,0,none⟩=some O/\w1.cell? ⟨b,1,none⟩=some U/\(∃H I J L,Arr w1 z 46 [H,I,J,L])/\Below z w0 w1/\z+1<=w1.heap.size) (V:b<z) (d A F G:Value) (w2:World) (Z:w2=(((w1.setCell ⟨z,0,none⟩ d).setCell ⟨z,1,none⟩ A).setCell ⟨z,2,none⟩ F).setCell ⟨z,3,none⟩ G):w2.cell? ⟨b,0,none⟩=some O/\w2.cell? ⟨b,1,none⟩=some U/\(∃H I J L,Arr w2 z 46 [H,I,J,L])/\Below z w0 w2/\z+1<=w2.heap.size:=by
 obtain⟨h1,h2,⟨H,I,J,L,h3⟩,h4,h5⟩:=h;have M:Below z w1 w2:=by rw[Z];exact((((aH z w1).setCell (p:=⟨z,0,none⟩) (aD _) d).setCell (p:=⟨z,1,none⟩) (aD _) A).setCell (p:=⟨z,2,none⟩) (aD _) F).setCell (p:=⟨z,3,none⟩) (aD _) G
 have hA:Arr w2 z 46 [d,A,F,G]:=by rw[Z];exact(((h3.set 0 d).set 1 A).set 2 F).set 3 G
 exact⟨(M.cell (p:=⟨b,0,none⟩) V).trans h1,(M.cell (p:=⟨b,1,none⟩) V).trans h2,⟨d,A,F,G,hA⟩,h4.trans M,by have:=hA.lt;omega⟩
def StQ (s:List UInt8) (R:Int) (P:List Prt×Int×Int) (g:Nat) (E:Int) (acc:List Prt) (a:Nat):Prop:=
 (E=0/\P=eE s R g (a:Int) acc/\40<=R/\R<=360/\a<=8*s.length/\8*s.length+33<=g+a/\acc.length+g<=8*s.length+1)\/(E≠0/\P.1=acc/\P.2.2=E)
theorem bCu (s:List UInt8) (r:Int) (f:Nat) (a:Int) (acc:List Prt):eE s r (f+1) a acc=if aP s.length a 48≠0 then(acc,a,aP s.length a 48)
  else if aK s a 48=0x177245385090 then(acc,(kS s a (iM (pB acc))).1,(kS s a (iM (pB acc))).2)
  else if aK s a 48≠0x314159265359 then(acc,a,3)
  else if(cO s a r).2.2.2≠0 then(acc,a,(cO s a r).2.2.2)
  else eE s r f (cO s a r).2.2.1 (acc++[⟨(cO s a r).1,(cO s a r).2.1,a,(cO s a r).2.2.1,r⟩]):=rfl
theorem bCv (n:Nat) (hn:1<=n) (l b B0 k:Nat) (s:ByteArray) (v0:Value) (a9 T:List oJ) (J Jx:List oJ->World->Prop) (W:World) (hs:s.size<=120000) (hk:k<s.size)
  (hA:SRd W b s ((8*k:Nat):Int) v0) (b7:B0<=b) (hJ:JOk B0 J) (l8:∀p X,J p X->dU X) (hY:YOk (n-1) l B0 T J Jx) (e7:InT s.data.toList ((8*k:Nat):Int) a9 T) (h0:J a9 W):
  iV cZ n pG 170 #[.pointer (some ⟨b,0,none⟩),.func (.yield l) #[] #[]] W fun e W'=>
   (e=.returned (.bool true)/\(cU s.data.toList ((8*k:Nat):Int)).2.2=0/\J (a9++okP (cU s.data.toList ((8*k:Nat):Int)).1) W'/\∃v,SRd W' b s (cU s.data.toList ((8*k:Nat):Int)).2.1 v)\/
   (e=.returned (.bool false)/\(J T W'\/∃pre,Jx pre W')):=by
 refine pX func170 rfl trivial ?_ rfl;simp only[ntmps170,dB,aU,aV,cV,dC,jG,jH,jI,jJ,eL,fF];have HL:=hid (show s.data.toList.length=s.size by simp);have l9:b<W.heap.size:=Arr.lt hA;have e8:=fun X=>aZb s k X (by omega) (by omega)
 obtain⟨R,E0,b2⟩:∃R E0,fX s.data.toList k=(R,E0):=⟨_,_,rfl⟩;rw[b2] at e8;have i5:E0=0->40<=R/\R<=360/\R%40=0/\k+4<=s.size:=fun h=>by
  have L:=aD2 (s:=s.data.toList) (k:=k) (by rw[b2];exact h);rw[b2] at L;refine⟨L.1,L.2.1,L.2.2,?_⟩;refine Nat.le_of_not_lt fun q=>?_
  have:fX s.data.toList k=(0,2):=by unfold fX;rw[aB (by rw[HL.out];exact q)]
  rw[b2] at this
  injection this with _ U
  rw[h] at U;exact absurd U (by decide)
 have hD:cU s.data.toList ((8*k:Nat):Int)=if E0≠0 then([],((8*k:Nat):Int),E0) else eE s.data.toList R (8*s.size+1) ((8*k+32:Nat):Int) []:=by
  unfold cU;rw[show(((8*k:Nat):Int)/8).toNat=k by omega,b2,HL.out];rfl
 obtain⟨P1,P2,P3,d⟩:∃P1 P2 P3,cU s.data.toList ((8*k:Nat):Int)=(P1,P2,P3):=⟨_,_,_,rfl⟩;have M:=fun acc E L U hE=>bCq (acc:=acc) (E:=E) e7 L U hE
 have a1:=e7.part;rw[d] at hD M a1 ⊢;simp only at M a1 ⊢;obtain⟨A0,d3⟩:∃A0,A0=8*k:=⟨_,rfl⟩;rw[<-d3] at hA;have m1:(A0:Int).tdiv 8=(k:Int):=by rw[Int.tdiv_eq_ediv_of_nonneg (by omega)];omega
 have m0:aJ.wrap (k:Int)=(k:Int):=by rw[aM];omega
 obtain⟨H,e9⟩:∃H,H=A0+32:=⟨_,rfl⟩;have m2:aJ.wrap ((A0:Int)+32)=(H:Int):=by rw[aM];omega
 have m3:(A0:Int)+32=(H:Int):=by omega
 rw[show 8*k+32=H by omega] at hD;have HP:=hid d;have HD:=hid hD;have c0:=Arr.cell hA (i:=0) rfl;have c1:=Arr.cell hA (i:=1) rfl;have p7:H<=1000000:=by omega
 have p8:A0<=1000000:=by omega
 have i6:=hid d3;have i7:=hid e9;clear hD d e7 b2 d3 e9
 gi_wp2_with fail
 refine wpIn_wide.2 ?_
 go_quiet (first|(go_at_call 217;exact AY (e8 _)))
 generalize a5:W.drewN nq=W1 at*
 have b8:SRd W1 b s (A0:Int) v0:=by rw[<-a5];exact hA
 have i8:J a9 W1:=hJ _ _ _ h0 (by rw[<-a5];exact iI.drewN _ _ _);have d1:=Arr.cell b8 (i:=1) rfl;have f1:=Arr.free b8 1;have b9:SRd (W1.setCell ⟨b,1,none⟩ (.int .i64 (H:Int))) b s (H:Int) v0:=Arr.set b8 1 _;have d2:=Arr.cell b9 (i:=2) rfl;have f2:=Arr.free b9 2;have f4:SRd ((W1.setCell ⟨b,1,none⟩ (.int .i64 (H:Int))).setCell ⟨b,2,none⟩ (.slice none 0 0)) b s (H:Int) (.slice none 0 0):=Arr.set b9 2 _;have i9:J a9 ((W1.setCell ⟨b,1,none⟩ (.int .i64 (H:Int))).setCell ⟨b,2,none⟩ (.slice none 0 0)):=hJ _ _ _ i8 ((iI.set b8 b7 _).trans (iI.set b9 b7 _));have m4:=Arr.lt f4
 have HQ:=hid (show StQ s.data.toList R (P1,P2,P3) (8*s.size+1) E0 [] H by
  have h:=HD.out;have d3:=i6.out;have e9:=i7.out;unfold StQ;rw[HL.out]
  by_cases q:E0=0
  ·obtain⟨r1,r2,-,r4⟩:=i5 q;rw[aA (fun z=>z q)] at h;exact .inl ⟨q,h,r1,r2,by omega,by omega,by simp⟩
  ·rw[aB q] at h
   injection h with G x2
   injection x2 with x2 x3
   exact .inr ⟨q,G,x3⟩)
 clear a5 hA h0 c0 c1 i5 e8 HD l9 m1 m0 i6 i7
 gi_wp2_with fail
 generalize (W1.setCell ⟨b,1,none⟩ (.int .i64 (H:Int))).setCell ⟨b,2,none⟩ (.slice none 0 0)=W3 at*
 obtain⟨A,m5⟩:∃A,A=W3.heap.size:=⟨_,rfl⟩;have d4:b<A:=by omega
 have j0:A<=W3.heap.size:=by omega
 clear d1 f1 d2 f2 b8 i8 b9 m2 m3 m5 m4
 gi_loopg [4,6,7,8] (8*s.size+1) (fun g c4 c6 _c7 _c8 wr=>∃(E:Int) (acc:List Prt) (a:Nat) (v:Value),c4=.bool false/\c6=.int .i64 E/\J (a9++okP acc) wr/\SRd wr b s (a:Int) v/\OwS wr A v (pB acc)/\A<=wr.heap.size/\Hid (StQ s.data.toList R (P1,P2,P3) g E acc a))
 case atStart=>exact⟨E0,[],H,.slice none 0 0,rfl,rfl,by simpa [okP] using i9,f4,Ow.nil _ _ _,j0,HQ⟩
 case round=>
  clear i9 f4 HQ j0;obtain⟨E,acc,a,v,rfl,rfl,f5,d5,hor,j1,HQ⟩:=hrel;rcases HQ.out with⟨rfl,d6,m6,m7,m8,m9,o0⟩|⟨f6,j2,j3⟩
  rotate_left
  ·have t1:(E==0)=false:=by rw[cB];exact f6
   have hT:=M acc E j2 j3 f6;obtain⟨fn,tmps,assign,body,hy,hR⟩:=NC hY hT f5 (by omega);clear j2 j3 HQ M a1 f6 hT
   gi_wp2_with fail
   refine hR.mono ?_;rintro e W5 ⟨⟨c,rfl⟩,c3⟩
   gi_wp2_with fail
   go_ret;exact .inr ⟨rfl,c3⟩
  obtain⟨f,rfl⟩:∃f,gk=f+1:=⟨gk-1,by omega⟩;rw[bCu,HL.out] at d6;rw[HL.out] at m8 m9 o0;have hg:=fun X=>uQ s (a:Int) 48 X (by omega) (by decide) (by omega) (by omega)
  obtain⟨E1,j4⟩:∃E1,E1=aP s.size (a:Int) 48:=⟨_,rfl⟩;obtain⟨V,hV⟩:∃V,V=aK s.data.toList (a:Int) 48:=⟨_,rfl⟩;rw[<-j4,<-hV] at hg d6;have c5:=hid d6;have c0:=Arr.cell d5 (i:=0) rfl;have c1:=Arr.cell d5 (i:=1) rfl;clear j4 hV d6 HQ
  gi_wp2_with fail
  refine wpIn_wide.2 ?_
  go_quiet (first|(go_at_call 175;exact AY (hg _)))
  generalize a5:wr.drewN nq=F at*
  have a2:SRd F b s (a:Int) v:=by rw[<-a5];exact d5
  have b3:J (a9++okP acc) F:=hJ _ _ _ f5 (by rw[<-a5];exact iI.drewN _ _ _);have d7:OwS F A v (pB acc):=by rw[<-a5];exact hor
  have f7:A<=F.heap.size:=by rw[<-a5];exact j1
  clear a5 d5 f5 hor j1 c0 c1 hg
  by_cases L:E1=0
  rotate_left
  ·have t1:(E1 != 0)=true:=by rw[bne_iff_ne];exact L
   have d:=c5.out;rw[aB L] at d
   injection d with G x2
   injection x2 with x2 x3
   have hT:=M acc E1 G x3 L;obtain⟨fn,tmps,assign,body,hy,hR⟩:=NC hY hT b3 (by omega);clear G x2 x3 M a1 L hT
   gi_wp2_with fail
   refine hR.mono ?_;rintro e W5 ⟨⟨c,rfl⟩,c3⟩
   gi_wp2_with fail
   go_ret;exact .inr ⟨rfl,c3⟩
  subst L;have d:=c5.out;rw[aA (fun z=>z rfl)] at d
  by_cases U:V=25779555029136
  ·rw[aB U] at d;subst U;obtain⟨Q1,Q2,hQ⟩:∃Q1 Q2,kS s.data.toList (a:Int) (iM (pB acc))=(Q1,Q2):=⟨_,_,rfl⟩;have d8:=aZe b A s a v (pB acc) F a2 d7 d4 (by omega) (by omega);rw[hQ] at d8 d
   injection d with G x2
   injection x2 with x2 x3
   have HX:=hid (show P1=acc/\P2=Q1/\P3=Q2 from⟨G,x2,x3⟩);clear G x2 x3 hQ c5
   gi_wp2_with fail
   refine⟨trivial,(callsIn_wide.2 d8).mono ?_⟩;rintro e W5 ⟨rfl,j5,a',o1,f8⟩;have j6:=hJ _ _ _ b3 (iI.grown j5 a2 b7);have p9:=j5.size
   by_cases h3:Q2=0
   ·subst h3;have b4:=hid (f8 rfl);clear f8 d8 M a1
    gi_wp2_with fail
    refine⟨fun _ _=>trivial,?_⟩
    gi_wp2_with fail
    go_ret;obtain⟨y1,y2,y3⟩:=HX.out;exact .inl ⟨rfl,y3,by rw[y1];exact j6,v,by rw[y2,<-b4.out];exact o1⟩
   ·have t1:(Q2==0)=false:=by rw[cB];exact h3
    have hT:=M acc Q2 HX.out.1 HX.out.2.2 h3;obtain⟨fn,tmps,assign,body,hy,hR⟩:=NC hY hT j6 (by omega);clear f8 d8 M a1 h3 hT
    gi_wp2_with fail
    refine hR.mono ?_;rintro e W6 ⟨⟨c,rfl⟩,c3⟩
    gi_wp2_with fail
    go_ret;exact .inr ⟨rfl,c3⟩
  have u1:((V:Int)==25779555029136)=false:=by rw[cB];omega
  have o2:(V==25779555029136)=false:=by rw[cB];exact U
  rw[aA U] at d
  by_cases h3:V=54156738319193
  rotate_left
  ·have u2:((V:Int)==54156738319193)=false:=by rw[cB];omega
   have q0:(V==54156738319193)=false:=by rw[cB];exact h3
   rw[aB h3] at d
   injection d with G x2
   injection x2 with x2 x3
   have HX:=hid (show P1=acc/\P3=3 from⟨G,x3⟩);clear G x2 x3 c5 U h3 M a1
   gi_wp2_with fail
   gi_roundg 0
   case measure=>omega
   case rel=>exact⟨3,acc,a,v,rfl,rfl,b3,a2,d7,f7,hid (.inr ⟨by decide,HX.out.1,HX.out.2⟩)⟩
  rw[aA (fun z=>z h3)] at d;subst h3;have b0:=fun X (hX:dU X)=>bCp s (a:Int) R X hX (by omega) (by omega) (by omega) (by omega) (by omega)
  unfold FZ at b0;have d9:=CD (s:=s.data.toList) (at':=(a:Int)) (room:=R);obtain⟨I,D2,D3,D4,hD⟩:∃I D2 D3 D4,cO s.data.toList (a:Int) R=(I,D2,D3,D4):=⟨_,_,_,_,rfl⟩;rw[hD] at b0 d d9;unfold CP at b0;simp only at b0 d d9;obtain⟨A',b5⟩:∃A':Int,A'=if D4=0 then(a:Int) else 0:=⟨_,rfl⟩;rw[<-b5] at b0;have f9:=hid b5;clear b5;have g4:=l8 _ _ b3;have b4:=hid d;have g5:=hid d9;have c0:=Arr.cell a2 (i:=0) rfl;have c1:=Arr.cell a2 (i:=1) rfl;clear c5 u1 o2 U hD d d9
  gi_wp2_with fail
  have c7:Below F.heap.size F (F.alloc (.cells #[.string ⟨#[]⟩,.int .u32 0,.int .i64 0,.int .i64 0] 46)):=bD (aH _ _) _;have j7:dU (F.alloc (.cells #[.string ⟨#[]⟩,.int .u32 0,.int .i64 0,.int .i64 0] 46)):=g4.below (bD (aH _ _) _);have e0:Arr (F.alloc (.cells #[.string ⟨#[]⟩,.int .u32 0,.int .i64 0,.int .i64 0] 46)) F.heap.size 46 [.string ⟨#[]⟩,.int .u32 0,.int .i64 0,.int .i64 0]:=Arr.new F _ [_,_,_,_];generalize F.alloc (.cells #[.string ⟨#[]⟩,.int .u32 0,.int .i64 0,.int .i64 0] 46)=W6 at*
  obtain⟨z,hz⟩:∃z,z=F.heap.size:=⟨_,rfl⟩;rw[<-hz] at e0 ⊢;have q1:A<=z:=by omega
  have j8:0<z:=by have:=g4.lt;omega
  have o3:=Arr.lt e0;have c0:=(c7.cell (p:=⟨b,0,none⟩) (Arr.lt a2)).trans c0;have c1:=(c7.cell (p:=⟨b,1,none⟩) (Arr.lt a2)).trans c1;have HZ:=hid hz;have o4:b<z:=by omega
  clear hz g4;refine wpIn_wide.2 ?_;have o5:=UX (w0:=W6) (z:=z) ⟨c0,c1,⟨_,_,_,_,e0⟩,aH _ _,by omega⟩ (aH W6.heap.size W6).drew;have HE:=fun O (h:O.cell? ⟨b,0,none⟩=some (.string s)/\O.cell? ⟨b,1,none⟩=some (.int .i64 (a:Int))/\(∃y0 y1 y2 y3,Arr O z 46 [y0,y1,y2,y3])/\Below z W6 O/\z+1<=O.heap.size)=>show dU O from(h.2.2.2.1.cell (p:=⟨0,0,none⟩) j8).trans j7
  go_region_held3 (fun O=>O.cell? ⟨b,0,none⟩=some (.string s)/\O.cell? ⟨b,1,none⟩=some (.int .i64 (a:Int))/\(∃y0 y1 y2 y3,Arr O z 46 [y0,y1,y2,y3])/\Below z W6 O/\z+1<=O.heap.size)
   (first
    |with_reducible assumption
    |with_reducible exact UX (by assumption) (by assumption)
    |exact bCt (by assumption) o4 _ _ _ _ _ rfl)
   (first|(go_at_call 49;refine(b0 _ (HE _ (by assumption))).mono ?_;rintro e W7 ⟨rfl,j9⟩;obtain⟨-,-,⟨y0,y1,y2,y3,a3⟩,k0,o6⟩:=UX (by assumption) j9;have g0:=a3.cell (i:=0) rfl;have g1:=a3.cell (i:=1) rfl;have g2:=a3.cell (i:=2) rfl;have g3:=a3.cell (i:=3) rfl;have f0:=a3.free 0;have f1:=a3.free 1;have f2:=a3.free 2;have f3:=a3.free 3))
  have e1:=(((a3.set 0 (.string I)).set 1 (.int .u32 D2)).set 2 (.int .i64 A')).set 3 (.int .i64 D3);have c8:Below F.heap.size F ((((W7.setCell ⟨z,0,none⟩ (.string I)).setCell ⟨z,1,none⟩ (.int .u32 D2)).setCell ⟨z,2,none⟩ (.int .i64 A')).setCell ⟨z,3,none⟩ (.int .i64 D3)):=by
   rw[<-HZ.out] at c7 ⊢;exact c7.trans ((((k0.setCell (p:=⟨z,0,none⟩) (aD _) _).setCell (p:=⟨z,1,none⟩) (aD _) _).setCell (p:=⟨z,2,none⟩) (aD _) _).setCell (p:=⟨z,3,none⟩) (aD _) _)
  change Arr ((((W7.setCell ⟨z,0,none⟩ (.string I)).setCell ⟨z,1,none⟩ (.int .u32 D2)).setCell ⟨z,2,none⟩ (.int .i64 A')).setCell ⟨z,3,none⟩ (.int .i64 D3)) z 46 [.string I,.int .u32 D2,.int .i64 A',.int .i64 D3] at e1;generalize (((W7.setCell ⟨z,0,none⟩ (.string I)).setCell ⟨z,1,none⟩ (.int .u32 D2)).setCell ⟨z,2,none⟩ (.int .i64 A')).setCell ⟨z,3,none⟩ (.int .i64 D3)=W8 at*
  have b6:SRd W8 b s (a:Int) v:=Arr.below a2 c8 (Arr.lt a2);have g6:OwS W8 A v (pB acc):=Ow.below d7 c8 (aD _);have g7:=hJ _ _ _ b3 (iI.of c8 (by omega));have g8:A<=W8.heap.size:=aR f7 c8.size;clear g0 g1 g2 g3 f0 f1 f2 f3 a3 k0 o6 j9 y0 y1 y2 y3 HE o5 c0 c1 e0 j7 c7 b0 a2 d7 b3 f7 c8 j8 o3 HZ
  by_cases h4:D4=0
  rotate_left
  ·have t1:(D4 != 0)=true:=by rw[bne_iff_ne];exact h4
   have d:=b4.out;rw[aB h4] at d
   injection d with G x2
   injection x2 with x2 x3
   have HX:=hid (show D4≠0/\P1=acc/\P3=D4 from⟨h4,G,x3⟩);clear G x2 x3 h4 M a1 g5 b4 f9
   gi_wp2_with fail
   gi_roundg 0
   case measure=>omega
   case rel=>exact⟨D4,acc,a,v,rfl,rfl,g7,b6,g6,g8,hid (.inr HX.out)⟩
  subst h4;obtain⟨-,-,-,-,-,k6,k7,k8,-⟩:=g5.out rfl;rw[HL.out] at k8;obtain⟨Z,rfl⟩:∃Z:Nat,D3=(Z:Int):=⟨D3.toNat,by omega⟩;have e2:=(cH I.data.toList).isLt;obtain⟨y,hy⟩:∃y,y=(cH I.data.toList).toNat:=⟨_,rfl⟩;rw[<-hy] at k6 e2;subst k6;have e2:y<4294967296:=e2;have b5:=f9.out;rw[aB rfl] at b5;subst b5;have d:=b4.out;rw[aA (fun q=>q rfl)] at d;obtain⟨p,hp⟩:∃p:Prt,p=⟨I,(y:Int),(a:Int),(Z:Int),R⟩:=⟨_,rfl⟩;rw[<-hp] at d;have k1:∃r,T=a9++okP acc++(p,0)::r:=by
   obtain⟨m,hm⟩:=aD6 (s:=s.data.toList) (r:=R) f (Z:Int) (acc++[p]);rw[<-d,bU] at hm;exact a1 acc p m hm
  have HP:=hid d;have q2:Z<=1000000:=by omega
  have q3:a+96<Z:=by omega
  have o7:Z<=8*s.size:=by omega
  have d1:=Arr.cell b6 (i:=1) rfl;have f1:=Arr.free b6 1;have e3:=e1.cell (i:=3) rfl;have e4:SRd (W8.setCell ⟨b,1,none⟩ (.int .i64 (Z:Int))) b s (Z:Int) v:=Arr.set b6 1 _;have g9:Arr (W8.setCell ⟨b,1,none⟩ (.int .i64 (Z:Int))) z 46 [.string I,.int .u32 (y:Int),.int .i64 (a:Int),.int .i64 (Z:Int)]:=e1.other _ (by show b≠z;omega) _;have i0:OwS (W8.setCell ⟨b,1,none⟩ (.int .i64 (Z:Int))) A v (pB acc):=Ow.box g6 (gbS _ _ _ _) d4;have k2:=hJ _ _ _ g7 (iI.set (i:=1) b6 b7 (.int .i64 (Z:Int)));have k3:A<=(W8.setCell ⟨b,1,none⟩ (.int .i64 (Z:Int))).heap.size:=by simpa using g8
  clear d b4 f9 g5 k7 k8 hy M a1
  gi_wp2_with fail
  generalize W8.setCell ⟨b,1,none⟩ (.int .i64 (Z:Int))=W9 at*
  clear b6 e1 g6 g7 g8 d1 f1 e3;obtain⟨a4,b1⟩:∃a4,a4=(W9.alloc (.cells #[.int .u32 (y:Int)] 44)).drew:=⟨_,rfl⟩;have i1:iI B0 W9 a4:=by rw[b1];exact(iI.of (bD (aH _ _) _) (by omega)).trans (iI.drew _ _)
  have k4:SRd a4 b s (Z:Int) v:=by rw[b1];exact Arr.alloc e4 _
  have k5:Arr a4 z 46 [.string I,.int .u32 (y:Int),.int .i64 (a:Int),.int .i64 (Z:Int)]:=by rw[b1];exact Arr.alloc g9 _
  have e5:OwS a4 A v (pB acc):=by rw[b1];exact Ow.alloc i0 _
  have k9:a4.cell? ⟨W9.heap.size,0,none⟩=some (.int .u32 ((pZ 32 y).toNat:Int)):=by rw[b1,bCs e2];exact bX _ _ _
  have l1:A<=a4.heap.size:=aR k3 i1.bel.size;have l2:(pB acc).length=acc.length:=aS ..;obtain⟨v',a6,hr,i2,e6,i3⟩:=bCr (w:=a4) 81 A v (pB acc) e5 W9.heap.size (pZ 32 y) k9 (by rw[l2];omega) l1;have c9:SRd a6 b s (Z:Int) v:=Arr.below k4 e6 d4;have l3:Arr a6 z 46 [.string I,.int .u32 (y:Int),.int .i64 (a:Int),.int .i64 (Z:Int)]:=k5.otherRow e5 i3 (by decide);have l4:iI B0 a4 a6:=⟨e6.mono (by omega),.app e5 i3 (by unfold AF;decide)⟩;obtain⟨va,vc,hv,-⟩:=(OwS.rd i0).open;obtain⟨vn,l5⟩:∃vn,vn=(pB acc).length:=⟨_,rfl⟩;rw[<-l5] at hv
  obtain⟨a7,a8,l6,-⟩:=(OwS.rd i2).open;obtain⟨a0,l7⟩:∃a0,a0=(pB acc++[pZ 32 y]).length:=⟨_,rfl⟩;rw[<-l7] at l6;subst hv l6;have c2:=Arr.cell e4 (i:=2) rfl;have o8:(W9.alloc (.cells #[.int .u32 (y:Int)] 44)).cell? ⟨b,2,none⟩=some (.slice va vn vc):=(Arr.alloc e4 _).cell (i:=2) rfl;have G:=g9.cell (i:=1) rfl;have d2:=Arr.cell c9 (i:=2) rfl;have f2:=Arr.free c9 2;rw[b1] at hr;have o9:SRd (a6.setCell ⟨b,2,none⟩ (.slice a7 a0 a8)) b s (Z:Int) (.slice a7 a0 a8):=Arr.set c9 2 _
  have d0:Arr (a6.setCell ⟨b,2,none⟩ (.slice a7 a0 a8)) z 46 [.string I,.int .u32 (y:Int),.int .i64 (a:Int),.int .i64 (Z:Int)]:=l3.other _ (by show b≠z;omega) _;have p0:OwS (a6.setCell ⟨b,2,none⟩ (.slice a7 a0 a8)) A (.slice a7 a0 a8) (pB acc++[pZ 32 y]):=Ow.box i2 (gbS _ _ _ _) d4;have p1:=hJ _ _ _ k2 ((i1.trans l4).trans (iI.set (i:=2) c9 b7 (.slice a7 a0 a8)));have p2:A<=(a6.setCell ⟨b,2,none⟩ (.slice a7 a0 a8)).heap.size:=by have:=e6.size;simp only[World.size_setCell];omega
  clear i1 k4 k5 e5 k9 l1 l2 i2 e6 i3 l4 c9 l3 l5 l7 b1;have p3:=hid (show pB acc++[pZ 32 y]=pB (acc++[p]) by
   unfold pB;rw[dY,List.map_cons,List.map_nil,hp,BitVec.ofInt_natCast])
  refine wpIn_wide.2 ?_
  go_region_law (refine sX rfl (.tmp 89) (.tmp 92) 81 rfl (.slice va vn vc) (.slice (some ⟨W9.heap.size,0,none⟩) 1 1) (.slice a7 a0 a8) a6 (by simp[lL]) (by simp[lL]) hr ?_)
  all_goals
   generalize a6.setCell ⟨b,2,none⟩ (.slice a7 a0 a8)=p4 at*
   obtain⟨fn,tmps,assign,body,hy,hR⟩:=hY _ (p,0) p4 p1 (by omega) k1;unfold GA at hy;rw[hp] at hy;dsimp only at hy;have q4:=hid hp;have z0:=d0.cell (i:=0) rfl;have z1:=d0.cell (i:=1) rfl;have z2:=d0.cell (i:=2) rfl;have z3:=d0.cell (i:=3) rfl;clear hp k1 d0 g9 e4 i0 k2 k3 hr c2 o8 G d2 f2
   gi_wp2_with fail
   refine hR.mono ?_;rintro e q5 (⟨rfl,p5,i4⟩|⟨rfl,p6⟩)
   ·gi_wp2_with fail
    gi_roundg f
    case measure=>omega
    case rel=>exact⟨0,acc++[p],Z,_,rfl,rfl,by rw[LQ,aVt,<-bU];exact p5,o9.kept i4,by rw[<-p3.out];exact OwS.kept p0 i4,aR p2 i4.1,hid (.inl ⟨rfl,HP.out,m6,m7,by rw[HL.out];exact o7,by rw[HL.out];omega,by rw[HL.out,aL,List.length_singleton];omega⟩)⟩
   ·gi_wp2_with fail
    go_ret;exact .inr ⟨rfl,.inr ⟨_,p6⟩⟩
theorem bCw {n l B:Nat} {T:List oJ} {J d:List oJ->World->Prop} (h:YOk n l B T J d) (m:Nat):YOk m l B T J d:=fun pre x F a b c=>
 let⟨G,tmps,assign,body,H,A⟩:=h pre x F a b c
 ⟨G,tmps,assign,body,H,A.1,fun c I _=>A.2 c I (room_wide _)⟩
def PaQ (s:List UInt8) (g:Nat) (a:Nat) (acc:List Prt):Prop:=cI s=gT s g (8*(a:Int)) acc/\8*a<=8*s.length/\8*s.length+1<=g+8*a
theorem bCx (n:Nat) (V:2<=n) (l F:Nat) (s:ByteArray) (J Z:List oJ->World->Prop) (W:World) (hs:s.size<=120000) (hA:Arr W F 9 [.string s])
  (O:JOk W.heap.size J) (c9:∀p X,J p X->dU X) (hY:YOk (n-1) l W.heap.size (jY s.data.toList) J Z) (h0:J [] W):
  iV cZ n pG 169 #[.func (.yield l) #[] #[],.pointer (some ⟨F,0,none⟩)] W fun e W'=>(∃v,e=.returned v)/\(J (jY s.data.toList) W'\/∃pre,Z pre W'):=by
 refine pX func169 rfl trivial ?_ rfl;simp only[ntmps169,dB,aU,aV,cV,dC,jG,jH,jI,jJ,eL,fF];have d:=hid (show s.data.toList.length=s.size by simp);have c0:=hA.cell (i:=0) rfl
 by_cases I:s.data.toList=[]
 ·have te:s.toList.isEmpty=true:=by rw[Lib.toList_data,I];rfl
  have hT:jY s.data.toList=[]++[(uO,3)]:=by rw[I];exact aVx
  obtain⟨fn,tmps,assign,body,hy,hR⟩:=NC hY hT h0 (aD _);clear I hT
  gi_wp2_with fail
  refine⟨fun _=>by omega,hR.mono ?_⟩;rintro e W5 ⟨⟨c,rfl⟩,a4⟩
  gi_wp2_with fail
  refine fM (tI rfl _ _ _) rfl ?_;exact⟨⟨_,rfl⟩,a4⟩
 have te:s.toList.isEmpty=false:=xM I;have e1:0<s.size:=by rw[<-d.out];exact List.length_pos_iff.2 I
 have M:=hid (show PaQ s.data.toList (8*s.size+1) 0 [] by
  unfold PaQ;refine⟨?_,by omega,by rw[d.out];omega⟩;unfold cI;rw[aA I,d.out];rfl)
 clear I
 gi_wp2_with fail
 have a5:SRd (W.alloc (.cells #[.string s,.int .i64 0,.slice none 0 0] 221)) W.heap.size s ((0:Nat):Int) (.slice none 0 0):=Arr.new W _ [_,_,_];have b6:=Arr.alloc hA (.cells #[.string s,.int .i64 0,.slice none 0 0] 221);have b7:=O _ _ (W.alloc (.cells #[.string s,.int .i64 0,.slice none 0 0] 221)) h0 (iI.of (bD (aH _ _) _) (aD _));generalize W.alloc (.cells #[.string s,.int .i64 0,.slice none 0 0] 221)=W1 at*
 have b8:F<W.heap.size:=hA.lt;obtain⟨G,a6⟩:∃G,G=W.heap.size:=⟨_,rfl⟩;rw[<-a6] at a5 b8 O hY ⊢;have HB:=hid a6;clear h0 hA c0 a6;have e2:(8*s.size)<=1000000:=by omega
 have d0:∀X Y,Arr X F 9 [.string s]->iI G X Y->Arr Y F 9 [.string s]:=fun X Y h k=>h.below k.bel b8
 have d1:∀m,YOk m l G (jY s.data.toList) (fun p X=>J p X/\Arr X F 9 [.string s]) Z:=fun m pre x X1 hj L hr=>by
  obtain⟨fn,tmps,assign,body,hy,hR⟩:=bCw hY m pre x X1 hj.1 L hr;refine⟨fn,tmps,assign,body,hy,hR.mono ?_⟩;rintro e W' (⟨rfl,h1,h2⟩|⟨rfl,h1⟩)
  ·exact .inl ⟨rfl,⟨h1,h2.arr hj.2 (by unfold uZ;decide) (fun q=>by cases q)⟩,h2⟩
  ·exact .inr ⟨rfl,h1⟩
 gi_loopg [] (8*s.size+1) (fun g wr=>∃(acc:List Prt) (a:Nat) (v:Value),J (okP acc) wr/\SRd wr G s (8*(a:Int)) v/\Arr wr F 9 [.string s]/\Hid (PaQ s.data.toList g a acc))
 case atStart=>exact⟨[],0,_,b7,a5,b6,M⟩
 case round=>
  clear a5 b6 b7 M;obtain⟨acc,a,v,a7,a0,a8,M⟩:=hrel;obtain⟨U,a9,b0⟩:=M.out;rw[d.out] at a9 b0;obtain⟨A,b1⟩:∃A,A=8*a:=⟨_,rfl⟩;obtain⟨H,b9⟩:∃H,H=8*s.size:=⟨_,rfl⟩;have b2:8*(a:Int)=(A:Int):=by omega
  have d2:8*(s.size:Int)=(H:Int):=by omega
  have e3:A<=1000000:=by omega
  have e4:H<=1000000:=by omega
  rw[b2] at a0;have hw:aJ.wrap (8*(s.size:Int))=(H:Int):=by rw[d2];exact lE _ (by omega)
  have c0:=Arr.cell a0 (i:=1) rfl;have s0:=Arr.cell a8 (i:=0) rfl
  by_cases e5:A<H
  rotate_left
  ·have t1:decide ((A:Int)<(H:Int))=false:=aE (by omega);obtain⟨f,rfl⟩:∃f,gk=f+1:=⟨gk-1,by omega⟩;have d3:=hid (aVw U (by rw[d.out];omega)).1;clear U a9 b0 b1 b9 M b2
   gi_wp2_with fail
   refine wpIn_wide.2 ?_
   go_quiet (fail)
   gi_wp2_with fail
   go_end0
   exact⟨⟨_,rfl⟩,.inl (by rw[d3.out];exact O _ _ _ a7 (iI.drewN _ _ _))⟩
  have t1:decide ((A:Int)<(H:Int))=true:=aG (by omega);obtain⟨f,rfl⟩:∃f,gk=f+1:=⟨gk-1,by omega⟩;have b3:=aVu U (by rw[d.out];omega);rw[show(8*(a:Int))=((8*a:Nat):Int) by omega] at b3;have b4:=fun L=>aVv U (by rw[d.out];omega) L
  have b5:=fun L=>aVy (s:=s.data.toList) (a:=8*(a:Int)) (by omega) L
  have a1:=fun L=>EZ (s:=s.data.toList) (a:=8*(a:Int)) L
  rw[show(8*(a:Int))=((8*a:Nat):Int) by omega] at b4 b5 a1;rw[d.out] at a1;have c1:=hid b4;have c2:=hid b5;have c3:=hid a1;have c4:=hid b3;have d4:a<s.size:=by omega
  have d5:=hid b1;have e6:8*s.size<=f+8*a:=by omega
  clear U a9 b0 b1 b9 M b2 b4 b5 a1 b3
  gi_wp2_with fail
  refine wpIn_wide.2 ?_
  go_quiet (fail)
  generalize a2:wr.drewN nq=W4 at*
  have d6:SRd W4 G s ((8*a:Nat):Int) v:=by rw[<-a2,<-d5.out];exact a0
  have d7:Arr W4 F 9 [.string s]:=by rw[<-a2];exact a8
  have d8:J (okP acc) W4:=by rw[<-a2];exact O _ _ _ a7 (iI.drewN _ _ _)
  clear a2 a0 a8 a7 c0 s0;have c5:=bCv (n-1) (by omega) l G G a s v (okP acc) (jY s.data.toList) (fun p X=>J p X/\Arr X F 9 [.string s]) Z W4 hs d4 d6 (aD _) (fun p X Y h k=>⟨O _ _ _ h.1 k,d0 _ _ h.2 k⟩) (fun p X h=>c9 _ _ h.1) (d1 _) c4.out ⟨d8,d7⟩
  gi_wp2_with fail
  refine⟨trivial,fun _=>by omega,c5.mono ?_⟩;rintro e W5 (⟨rfl,a3,⟨c6,d9⟩,v5,c7⟩|⟨rfl,a4⟩)
  ·have hm:=c2.out a3;have hk:=c3.out a3;obtain⟨a',c8⟩:∃a':Nat,(cU s.data.toList ((8*a:Nat):Int)).2.1=8*(a':Int):=⟨((cU s.data.toList ((8*a:Nat):Int)).2.1/8).toNat,by omega⟩;have V:=c1.out a3;rw[c8] at V c7 hk;have HN:=hid (show PaQ s.data.toList f a' (acc++(cU s.data.toList ((8*a:Nat):Int)).1) from⟨V,by rw[d.out];omega,by rw[d.out];omega⟩);have e0:f<f+1:=Nat.lt_succ_self f;rw[<-LQ] at c6;clear c5 hm hk c8 V a3 c2 c3 c1 c4
   gi_wp2_with fail
   gi_roundg f
   case measure=>exact e0
   case rel=>exact⟨_,a',v5,c6,c7,d9,HN⟩
  ·gi_wp2_with fail
   refine fM (tI rfl _ _ _) rfl ?_;exact⟨⟨_,rfl⟩,a4.elim (fun h=>.inl h.1) .inr⟩
theorem bCy (n:Nat) (F:2<=n) (d:Nat) (s:ByteArray) (w:World) (A:Arr w d 9 [.string s]) (G:s.size<=120000):
  aIq n pG 169 #[.pointer (some ⟨d,0,none⟩)] GA (eS AF none) (eS uZ none) dU (fun pre x=>∃r,jY s.data.toList=pre++x::r) (fun H=>H=jY s.data.toList) w:=fun l J I W L M _ O U V=>
 (bCx n F l d s J I W G (A.below L A.lt) (fun p X Y h k=>M p X Y h k.bel k.ty) O (fun pre x Z a b c=>U pre x Z a b c) V).mono fun _ _ h=>⟨h.1,h.2.elim (fun k=>.inl ⟨_,rfl,k⟩) .inr⟩
def kD (p:Prt):List Value:=[.string p.t,.int .u32 p.y,.int .i64 p.a,.int .i64 p.z,.int .i64 p.r]
theorem CU (l:List Prt):oW 5 (l.map kD):=fun q A=>by
 obtain⟨p,_,rfl⟩:=eK.1 A;exact⟨rfl,fun u d=>by unfold kD at d;simp only[List.mem_cons,List.not_mem_nil,or_false] at d;rcases d with rfl|rfl|rfl|rfl|rfl<;>rfl⟩
theorem bC1:ElR pG 93 97 5 48 (.agg #[.string ⟨#[]⟩,.int .u32 0,.int .i64 0,.int .i64 0,.int .i64 0]):=ElR.mk' (by kernel_rfl) underlying93 rfl (by decide) (by decide)
def eY (s:List UInt8):List Prt:=if(cI s).2=0 then(cI s).1 else[]
theorem UY {F:Fence} {n:Nat} {P:Program} {t e k A:Nat} {z:Value} (E:ElR P t e k A z) {G:Array Oper} {rest:List Oper} {o:Oper} {a:Act} {Q:Exit->Act->World->Prop} {w:World} (I:o.guard=none) (s x:Operand)
  (J:o.op=.call {callee:=.builtin .append,args:=#[s,x],argTypes:=#[t,t]}) (base:Nat) (v:Value) (l:lC) (hs:a.eval s=v) (hown:OwR w base e k v l)
  (g:Nat) (q:List Value) (hx:a.eval x=.slice (some ⟨g,0,none⟩) 1 1) (hc:Arr w g e q) (hq:q.length=k) (h1:∀u∈q,u.oneCell'=true) (hroom:(l.length+1)*A<=140737488355328) (hbase:base<=w.heap.size)
  (h:∀d w',OwR w' base e k d (l++[q])->Below base w w'->w.grownBy w' v.ownBlock->wpListIn F n P G Q rest (a.put o.dst d) w'):wpListIn F n P G Q (o::rest) a w:=by
 obtain⟨i,hi,L,M,O⟩:=E.info;have U:=E.pos;have Z:l.length+1<=140737488355328:=aR (Nat.le_mul_of_pos_right _ U) hroom;refine wpListIn_append_own w I s x t J base e i z k A E.under hi L M O E.cells E.some' v l.length l.flatten hs hown ⟨g,0,none⟩ 1 1 q hx (by grind) (fun j u V=>?_) h1 (by simp only[maxLen];omega) hroom hbase (fun d w' q1 H _=>h d w' ?_ (rJ hown H hbase) H)
 ·rw[show(⟨g,0,none⟩:Addr).add j=⟨g,j,none⟩ by unfold gP;split<;>simp_all];exact hc.cell V
 ·unfold OwR
  grind
theorem UZ {w w':World} {B e G n:Nat} {v:Value} {H:List Value} (I:w.ownsRow B e G v n H) (J:w.grownBy w' v.ownBlock) (k:Nat) (o:Obj) (A:w.heap[k]? =some o) (F:o.isCells=false):w'.heap[k]? =some o:=by
 refine(J.block k (fE.1 A).1 (fun q=>?_)).trans A;rcases I.2 with⟨rfl,_⟩|⟨g,cap,L,rfl,_,d,_⟩
 ·cases q
 ·obtain rfl:=cC q;rw[A] at d
  injection d with d
  rw[d] at F;exact vM F
theorem wP {w:World} {z e i:Nat} {l:List Value} (F:Arr w z e l) (v:Value) (k:Nat) (o:Obj) (d:w.heap[k]? =some o) (A:o.isCells=false):(w.setCell ⟨z,i,none⟩ v).heap[k]? =some o:=by
 rw[heap_setCell_other w ⟨z,i,none⟩ k v (fun q=>?_)]
 ·exact d
 ·have q:k=z:=q;have G:w.heap[z]? =some (.cells l.toArray e (0,0)):=F;rw[q,G] at d
  injection d with d
  rw[<-d] at A;exact vM A
theorem ND {B:Nat} {W d:World} (A:W.heap.size<=d.heap.size) (h:∀(k:Nat) (o:Obj),W.heap[k]? =some o->o.isCells=false->d.heap[k]? =some o):KeepsFrom B W d:=⟨A,fun k o _ F G=>h k o F G⟩
theorem VA {w:World} {B e F n D:Nat} {v:Value} {G:List Value} {o:Obj} (H:w.ownsRow B e F v n G) (I:w.heap[D]? =some o) (A:o.isCells=false:=by rfl):v.ownBlock=none\/v.ownBlock≠some D:=by
 rcases H.2 with⟨rfl,_⟩|⟨g,cap,J,rfl,_,d,_⟩
 ·exact .inl rfl
 ·refine .inr fun q=>?_
  obtain rfl:=cC q;rw[I] at d
  injection d with d
  rw[d] at A;exact vM A
theorem bC3 (n:Nat) (d:ByteArray) (w:World):
  iV cZ n pG 110 #[.string d] w fun e w'=>e=.returned (.func (.func 169) #[] #[.pointer (some ⟨w.heap.size,0,none⟩)])/\w'=w.alloc (.cells #[.string d] 9):=by
 refine pX func110 rfl trivial ?_ rfl;simp only[ntmps110,dB,aU,aV,cV,dC,jG,jH,jI,jJ,eL,fF]
 gi_wp2
 go_ret;exact⟨rfl,rfl⟩
theorem bC4 (n:Nat) (hn:6<=n) (s:ByteArray) (w:World) (hE:dU w) (hs:s.size<=120000):
  iV cZ n pG 64 #[.string s] w fun e w'=>∃v,e=.returned (.tuple #[v,.int .i64 (cI s.data.toList).2])/\RdR w' v ((eY s.data.toList).map kD)/\Below w.heap.size w w':=by
 have h1:1<=n:=by omega
 refine callsIn_of_wp_marks func64 rfl trivial ?_ rfl;simp only[ntmps64,dB,aU,aV,cV,dC,jG,jH,jI,jJ,eL,fF]
 gi_wp2_with fail
 refine⟨trivial,(bC3 (n-1) s _).mono ?_⟩;rintro e w' ⟨rfl,rfl⟩
 gi_wp2_with fail
 have b0:=(((Arr.new w 93 [.slice none 0 0]).alloc (.cells #[.int .i64 0] 29)).alloc (.cells #[.string s] 9));have a2:=((Arr.new (w.alloc (.cells #[.slice none 0 0] 93)) 29 [.int .i64 0]).alloc (.cells #[.string s] 9));have a4:=Arr.new ((w.alloc (.cells #[.slice none 0 0] 93)).alloc (.cells #[.int .i64 0] 29)) 9 [.string s];have b4:Below w.heap.size w (((w.alloc (.cells #[.slice none 0 0] 93)).alloc (.cells #[.int .i64 0] 29)).alloc (.cells #[.string s] 9)):=(((aH _ w).alloc (aD _) _).alloc (by simp) _).alloc (by simp;omega) _
 have c2:(((w.alloc (.cells #[.slice none 0 0] 93)).alloc (.cells #[.int .i64 0] 29)).alloc (.cells #[.string s] 9)).heap.size=w.heap.size+1+1+1:=by simp
 simp only[World.size_alloc] at a2 a4;change Arr (((w.alloc (.cells #[.slice none 0 0] 93)).alloc (.cells #[.int .i64 0] 29)).alloc (.cells #[.string s] 9)) _ _ _ at b0;change Arr (((w.alloc (.cells #[.slice none 0 0] 93)).alloc (.cells #[.int .i64 0] 29)).alloc (.cells #[.string s] 9)) _ _ _ at a2;change Arr (((w.alloc (.cells #[.slice none 0 0] 93)).alloc (.cells #[.int .i64 0] 29)).alloc (.cells #[.string s] 9)) _ _ _ at a4;generalize ((w.alloc (.cells #[.slice none 0 0] 93)).alloc (.cells #[.int .i64 0] 29)).alloc (.cells #[.string s] 9)=w1 at*
 obtain⟨z,hz⟩:∃z,z=w.heap.size:=⟨_,rfl⟩;rw[<-hz] at b0 a2 a4 b4 c2 ⊢;have HZ:=hid hz;clear hz;obtain⟨E,a5⟩:∃E,E=(cI s.data.toList).2:=⟨_,rfl⟩;obtain⟨T,hT⟩:∃T,T=jY s.data.toList:=⟨_,rfl⟩;have a6:∀(pre r:List oJ) (x:oJ),T=pre++x::r->x.2≠0->x.2=E/\E≠0:=fun pre r x h J=>by
  have:=aVz (by rw[<-hT];exact h) J;rw[this.1];exact⟨a5.symm,by rw[a5];exact this.2⟩
 have c8:T.length<=8*s.size+2:=aI4 s hT;have a7:=hid a5;have HT:=hid hT;have b5:=bCy (n-1) (by omega) (z+1+1) s w1 a4 hs;rw[<-hT] at b5;clear a5 hT;have c4:z+1+1+1<=w1.heap.size:=by omega
 refine bBz (w0:=w1) (Ri:=eS AF none) (Kp:=eS uZ none) (Ok:=dU) (Pre:=fun pre x=>∃r,T=pre++x::r) (encs:=GA) h1 (gf:=169) (lb:=#[.pointer (some ⟨z+1+1,0,none⟩)]) rfl (enters_of func169 (by kernel_rfl) rfl)
  b5 (aH _ _) (fun _=>rfl) (fun h k=>h.trans k) (fun _ _ h=>.of_kept h) (fun _ _ h=>.of_kept h)
  (fun pre W=>(∀x∈pre,x.2=0)/\(∃v,Arr W z 93 [v]/\OwR W (z+1+1+1) 97 5 v (pre.map (fun x=>kD x.1)))/\Arr W (z+1) 29 [.int .i64 0]/\Below z w W/\z+1+1+1<=W.heap.size)
  (fun c _ W=>c=.ret/\Arr W z 93 [.slice none 0 0]/\Arr W (z+1) 29 [.int .i64 E]/\E≠0/\Below z w W/\z+1+1+1<=W.heap.size)
  (fun pre A B ⟨O,⟨v,d,G⟩,L,M,k6⟩ U hk=>⟨O,⟨v,d.below U (by omega),eS.own hk G (by unfold AF;decide)⟩,L.below U (by omega),M.trans (U.mono (by omega)),aR k6 U.size⟩)
  (fun c pre A B ⟨O,d,G,L,M,k6⟩ U hk=>⟨O,d.below U (by omega),G.below U (by omega),L,M.trans (U.mono (by omega)),aR k6 U.size⟩)
  ⟨fun x J=>by simp at J,⟨_,b0,OwR.nil _ _ _ _⟩,a2,b4,c4⟩ (fun pre A k=>hE.below (by rw[<-HZ.out];exact k.2.2.2.1))
  (fun x a' W=>∃zb,z+1+1+1<=zb/\Arr W zb 97 (kD x.1)/\a'={tmps:=#[.string s,undef,.pointer (some ⟨z,0,none⟩),.pointer (some ⟨z+1,0,none⟩),.pointer (some ⟨zb,0,none⟩),.int .i64 x.2,.string s,.func (.func 169) #[] #[.pointer (some ⟨z+1+1,0,none⟩)],.agg #[.string x.1.t,.int .u32 x.1.y,.int .i64 x.1.a,.int .i64 x.1.z,.int .i64 x.1.r],.int .i64 x.2,undef,undef,undef,undef,undef,undef,undef,undef],defers:=[]})
  (fun x a' A A' ⟨zb,O,d,G⟩ hk=>⟨zb,O,hk.arr d (by simp),G⟩) ?assign ?body ?done ?stop
 case assign=>
  rintro l0 pre ⟨p,E0⟩ W K hI hB c9 hK;unfold GA;have b6:=hI.2.2.2.2
  gi_wp2
  exact hK _ _ (bD (aH _ _) _) ⟨W.heap.size,b6,Arr.new W _ [_,_,_,_,_],rfl⟩
 case body=>
  rintro l0 pre ⟨p,E0⟩ a' W ⟨O,⟨v,d,G⟩,L,M,k6⟩ hB ⟨r,hr⟩ ⟨zb,d0,hS,rfl⟩;dsimp only at hS hr ⊢;have b6:=d.lt
  by_cases a8:E0=0
  rotate_left
  ·have t1:(E0 != 0)=true:=by rw[bne_iff_ne];exact a8
   obtain⟨rfl,d1⟩:=a6 pre r (p,E0) hr a8;have c0:=d.cell (i:=0) rfl;have f0:=d.free 0;have V:=L.other ⟨z,0,none⟩ (by show z≠z+1;omega) (.slice none 0 0);have c1:=V.cell (i:=0) rfl;have f1:=V.free 0;clear a6 a8
   gi_wp2_with fail
   refine⟨ND (by simp) (fun k o ho hc=>?_),rfl,(d.set 0 _).other _ (by show z+1≠z;omega) _,V.set 0 _,(M.setCell (p:=⟨z,0,none⟩) (aD _) _).setCell (p:=⟨z+1,0,none⟩) (by show z<=z+1;omega) _,by simpa using k6⟩;exact wP V _ k o (wP d _ k o ho hc) hc
  subst a8;have d2:pre.length+1<=960100:=by
   have h:=congrArg List.length hr;rw[aL,aU] at h;omega
  obtain⟨H,I,hv,-⟩:=(OwR.rd G).open (by intro q Z;obtain⟨x,-,rfl⟩:=eK.1 Z;exact CU [x.1] _ (by simp)) (by decide:1<=5);obtain⟨F,a0⟩:∃F,F=(pre.map (fun x:oJ=>kD x.1)).length:=⟨_,rfl⟩;rw[<-a0] at hv;subst hv;have c0:=d.cell (i:=0) rfl;have q0:=hS.cell (i:=0) rfl;have q1:=hS.cell (i:=1) rfl;have q2:=hS.cell (i:=2) rfl;have q3:=hS.cell (i:=3) rfl;have q4:=hS.cell (i:=4) rfl;clear a0 a6 hr
  gi_wp2_with (gi_at_builtin;refine UY bC1 rfl _ _ rfl (z+1+1+1) _ _ rfl (OwR.alloc G _) _ (kD p) rfl (Arr.new W 97 (kD p)) rfl (fun u hu=>(CU [p] _ (by simp)).2 u hu) ?_ ?_ ?_;(simp only[aS];omega);(simp;omega);intro v3 W3 p1 p2 p3;(obtain⟨a3,c3,b7,-⟩:=(OwR.rd p1).open (by intro q Z;rcases dK.1 Z with Z|Z;(obtain⟨x,-,rfl⟩:=eK.1 Z;exact CU [x.1] _ (by simp));(exact CU [p] _ (by simpa using Z))) (by decide:1<=5));(obtain⟨n3,b1⟩:∃n3,n3=(pre.map (fun x:oJ=>kD x.1)++[kD p]).length:=⟨_,rfl⟩);rw[<-b1] at b7;subst b7;(have d3:=hid b1);clear b1;(have a1:=Arr.below (Arr.alloc d (.cells (kD p).toArray 97)) p2 (by omega));(have c5:=Arr.below (Arr.alloc L (.cells (kD p).toArray 97)) p2 (by omega));(have g0:=a1.cell (i:=0) rfl);(have e0:=a1.free 0))
  change (W.alloc (.cells (kD p).toArray 97)).grownBy W3 (Value.slice H F I).ownBlock at p3;change Below (z+1+1+1) (W.alloc (.cells (kD p).toArray 97)) W3 at p2;have d4:(W.alloc (.cells (kD p).toArray 97)).heap.size=W.heap.size+1:=by simp
  have d5:=p2.size;refine⟨ND (by simp;omega) (fun k o ho hc=>wP a1 _ k o (UZ (OwR.alloc G (.cells (kD p).toArray 97)) p3 k o ((Below.heap_alloc W _ k (fE.1 ho).1).trans ho) hc) hc),
   (eS.of_below (bD (aH _ _) (.cells (kD p).toArray 97))).trans ((eS.app (OwR.alloc G _) p3 (by unfold uZ;decide)).trans (eS.box a1 (by unfold uZ;decide) _)),?_⟩
  refine⟨fun x J=>?_,⟨_,a1.set 0 _,?_⟩,c5.other _ (by show z≠z+1;omega) _,(M.trans ((((aH _ W).alloc (aD _) _).mono (by omega)).trans (p2.mono (by omega)))).setCell (p:=⟨z,0,none⟩) (aD _) _,by simp;omega⟩
  ·rcases dK.1 J with J|J
   ·exact O x J
   ·obtain rfl:=cP.1 J;rfl
  ·rw[dY];exact vL p1 (a:=⟨z,0,none⟩) (by show z<z+1+1+1;omega) _
 case done=>
  rintro D xs W hD b2 ⟨O,⟨v,d,G⟩,L,M,k6⟩ hK;obtain⟨H,I,hv,-⟩:=(OwR.rd G).open (by intro q Z;obtain⟨x,-,rfl⟩:=eK.1 Z;exact CU [x.1] _ (by simp)) (by decide:1<=5);obtain⟨F,a0⟩:∃F,F=(xs.map (fun x:oJ=>kD x.1)).length:=⟨_,rfl⟩;rw[<-a0] at hv;subst hv;have a9:=aV0 (s:=s.data.toList) (fun x J=>O x (by rw[b2,HT.out];exact J));have b8:=hid (show E=0/\xs.map (fun x:oJ=>kD x.1)=(eY s.data.toList).map kD by
   refine⟨by rw[a7.out];exact a9.1,?_⟩;rw[b2,HT.out,a9.2];unfold eY okP;rw[aB a9.1,List.map_map];rfl)
  have c0:=d.cell (i:=0) rfl;have f0:=d.free 0;have c6:=d.set 0 (.slice H F I);have V:=L.other ⟨z,0,none⟩ (by show z≠z+1;omega) (.slice H F I);have c1:=V.cell (i:=0) rfl;have f1:=V.free 0;have b3:((W.setCell ⟨z,0,none⟩ (.slice H F I)).setCell ⟨z+1,0,none⟩ (.int .i64 0)).heap[D]? =some (.deferred (some [])):=wP V _ D _ (wP d _ D _ hK rfl) rfl;clear a0 a9 a6 b2
  gi_wp2_with fail
  refine⟨by simp,.inl ⟨_,_,rfl,sE b3,?_⟩⟩;have g2:Arr ((W.setCell ⟨z,0,none⟩ (.slice H F I)).setCell ⟨z+1,0,none⟩ (.int .i64 0)) z 93 [.slice H F I]:=c6.other ⟨z+1,0,none⟩ (by show z+1≠z;omega) _;have g4:Arr ((W.setCell ⟨z,0,none⟩ (.slice H F I)).setCell ⟨z+1,0,none⟩ (.int .i64 0)) (z+1) 29 [.int .i64 0]:=V.set 0 _;have q2:=(g2.grown (kV _ D (.deferred none)) (by simp;omega)).cell (i:=0) rfl;have q3:=(g4.grown (kV _ D (.deferred none)) (by simp;omega)).cell (i:=0) rfl
  have b9:=vL (vL G (a:=⟨z,0,none⟩) (by show z<z+1+1+1;omega) (.slice H F I)) (a:=⟨z+1,0,none⟩) (by show z+1<z+1+1+1;omega) (.int .i64 0);have c7:Below z w ((W.setCell ⟨z,0,none⟩ (.slice H F I)).setCell ⟨z+1,0,none⟩ (.int .i64 0)):=(M.setCell (p:=⟨z,0,none⟩) (aD _) _).setCell (p:=⟨z+1,0,none⟩) (by show z<=z+1;omega) _;refine⟨.tuple #[.slice H F I,.int .i64 0],?_,.slice H F I,by rw[<-a7.out,b8.out.1],?_,?_⟩
  ·simp[results,f64,go_sem,q2,q3]
  ·rw[<-b8.out.2];exact OwR.rd (yJ b9 (kV _ D (.deferred none)) (VA b9 b3))
  ·rw[<-HZ.out];exact c7.trans (belowK_b (w:=w1) (by omega) _ D _ _ hD b3 rfl rfl)
 case stop=>
  rintro D c pre W hD ⟨rfl,d,G,L,M,k6⟩ hK
  gi_wp2_with fail
  refine⟨by simp,.inl ⟨_,_,rfl,sE hK,?_⟩⟩;have q2:=(d.grown (kV _ D (.deferred none)) (by simp;omega)).cell (i:=0) rfl;have q3:=(G.grown (kV _ D (.deferred none)) (by simp;omega)).cell (i:=0) rfl;refine⟨.tuple #[.slice none 0 0,.int .i64 E],?_,.slice none 0 0,by rw[<-a7.out],?_,?_⟩
  ·simp[results,f64,go_sem,q2,q3]
  ·have:eY s.data.toList=[]:=by unfold eY;rw[aA (by rw[<-a7.out];exact L)]
   rw[this];exact(OwR.nil _ 0 97 5).rd
  ·rw[<-HZ.out];exact M.trans (belowK_b (w:=w1) (by omega) _ D _ _ hD hK rfl rfl)
theorem VB (s:ByteArray) (w:World) (d:dU w) (A:s.size<=120000):
  Calls pG 64 #[.string s] w fun e w'=>∃v,e=.returned (.tuple #[v,.int .i64 (cI s.data.toList).2])/\RdR w' v ((eY s.data.toList).map kD)/\Below w.heap.size w w':=
 callsIn_wide.1 (bC4 6 (aD _) s w d A)
end Go.Proofs.YtihbnmlinkbnkaaGreatDoor
