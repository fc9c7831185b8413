/-
  Texts put together (part 30): the walks and the plain laws on which the statement stands.
-/
import Derived.Test.YtfplbbphficcjaaGreatDoorZ28
set_option maxRecDepth 100000
set_option maxHeartbeats 12800000
set_option linter.unusedVariables false
set_option linter.unusedSimpArgs false
open Go.Proofs.Tryz
open Go.Proofs.Tryz renaming prog->pG
open Array renaming replicate_succ->jG,replicate_zero->jH
open BitVec renaming ofNat->pZ
open Go renaming bodyPost_ret->fM,callsIn_of_wp->pX,results_none->tI
open Go.Act renaming eval->lL
open Go.Calls renaming quiet_of_same->AY
open Go.Fence renaming wide->cZ
open Go.IntKind renaming i64->aJ,wrap_i64->aM
open Go.RowKit.Below renaming refl->aH
open Go.World renaming block_lt_of_cell?->gV
open List renaming append_assoc->bU,append_toArray->jJ,cons_append->fF,length_append->aL,length_cons->aU,length_nil->aV,map_append->dY,nil_append->eL,push_toArray->jI,size_toArray->dB
open Nat renaming le_refl->aD,le_trans->aR,reduceAdd->cV,reduceSub->dC
open Option.some renaming inj->cC
namespace Go.Proofs.YtfplbbphficcjaaGreatDoor
open Go.RowKit Go Go.Shelf
attribute [local go_sem] Oper.semAt_some
abbrev oJ:=Prt×Int
def GA (x:oJ):Array Value:=#[.agg #[.string x.1.t,.int .u32 x.1.y,.int .i64 x.1.a,.int .i64 x.1.z,.int .i64 x.1.r],.int .i64 x.2]
def AF:List TypeId:=[127,131,29]
def uZ:List TypeId:=[186,38,9]
structure iI (B:Nat) (W W':World):Prop where
 bel:Below B W W'
 ty:eS AF none W W'
theorem iI.trans {B:Nat} {X Y Z:World} (h:iI B X Y) (k:iI B Y Z):iI B X Z:=⟨h.bel.trans k.bel,h.ty.trans k.ty⟩
theorem iI.of {B:Nat} {X Y:World} (h:Below X.heap.size X Y) (d:B<=X.heap.size):iI B X Y:=⟨h.mono d,.of_below h⟩
theorem iI.drew (B:Nat) (X:World):iI B X X.drew:=⟨(aH B X).drew,aD _,fun _ _ _ _ h _ _=>h⟩
theorem iI.drewN (B:Nat) (X:World) (n:Nat):iI B X (X.drewN n):=⟨⟨rfl,rfl,rfl,aD _,fun _ _=>rfl⟩,aD _,fun _ _ _ _ h _ _=>h⟩
theorem iI.set {B b i:Nat} {X:World} {l:List Value} (h:Arr X b 186 l) (d:B<=b) (v:Value):iI B X (X.setCell ⟨b,i,none⟩ v):=
 ⟨(aH B X).setCell (p:=⟨b,i,none⟩) d v,.box h (by simp[AF,Arr]) v⟩
theorem iI.grown {B b:Nat} {X Y:World} {l:List Value} (h:X.grownBy Y (some b)) (d:Arr X b 186 l) (e:B<=b):iI B X Y:=
 ⟨(aH B X).grown h (by grind [Arr]) (fun k A=>by grind),.grownBox h d (by simp[AF,Arr])⟩
abbrev JOk (B:Nat) (J:List oJ->World->Prop):Prop:=∀s X Y,J s X->iI B X Y->J s Y
abbrev YOk (n l B:Nat) (T:List oJ) (J D:List oJ->World->Prop):Prop:=∀d x h,J d h->B<=h.heap.size->(∃r,T=d++x::r)->
 YieldAt cZ n pG l (GA x) h fun e A=>(e=.returned (.bool true)/\J (d++[x]) A/\eS uZ none h A)\/(e=.returned (.bool false)/\D (d++[x]) A)
def pB (l:List Prt):List (BitVec 32):=l.map (fun p=>BitVec.ofInt 32 p.y)
theorem SRd.kept {W d:World} {b:Nat} {s:ByteArray} {a:Int} {v:Value} (h:SRd W b s a v) (k:eS uZ none W d):SRd d b s a v:=k.arr h (by unfold uZ;decide) (fun e=>by cases e)
theorem OwS.kept {W d:World} {B:Nat} {v:Value} {l:List (BitVec 32)} (h:OwS W B v l) (k:eS uZ none W d):OwS d B v l:=eS.own k h (by unfold uZ;decide)
theorem bCq {s:List UInt8} {a:Int} {d T:List oJ} {acc:List Prt} {E:Int} (h:InT s a d T) (e:(cU s a).1=acc) (A:(cU s a).2.2=E) (D:E≠0):T=(d++okP acc)++[(uO,E)]:=by
 have:=h.bad (by grind)
 grind
theorem bCr {w:World} (h:TypeId) (base:Nat) (v:Value) (l:List (BitVec 32)) (A:OwS w base v l) (g:Nat) (n:BitVec 32) (G:w.cell? ⟨g,0,none⟩=some (.int .u32 (n.toNat:Int))) (H:(l.length+1)*4<=140737488355328) (D:base<=w.heap.size):
  ∃d w',(Builtin.append_ #[81,81] h #[v,.slice (some ⟨g,0,none⟩) 1 1]).run pG w=.ok d w'/\OwS w' base d (l++[n])/\Below base w w'/\w.grownBy w' v.ownBlock:=by
 obtain⟨i,I,J,L,M⟩:=info_parts (show(pG.info? 38).map (fun i=>(i.zero,i.size,i.bytes))=some (some (.int .u32 0),1,4) by kernel_rfl);obtain⟨d,w',O,T,F,_⟩:=run_append_own (P:=pG) w base 81 h 38 i _ 1 4 underlying81 I J L M rfl (by decide) v (uX l).length (uX l) A ⟨g,0,none⟩ 1 1 [.int .u32 (n.toNat:Int)] rfl (fun j U e=>by
  cases j with
  |zero=>simp at e;subst e;simpa [Addr.add] using G
  |succ j=>simp at e) (fun U V=>by obtain rfl:=List.mem_singleton.1 V;rfl) (by rw[FO];simp only[maxLen];omega) (by rw[FO];exact H) D
 refine⟨d,w',O,?_,rJ A F D,F⟩;unfold OwS uX;rw[dY];unfold Ow;rw[aL];exact T
theorem NC {n l B:Nat} {T h:List oJ} {J A:List oJ->World->Prop} {E:Int} {X:World} (F:YOk n l B T J A) (G:T=h++[(uO,E)]) (H:J h X) (I:B<=X.heap.size):
  ∃d tmps assign body,(Instr.yield l #[.agg #[.string ⟨#[]⟩,.int .u32 0,.int .i64 0,.int .i64 0,.int .i64 0],.int .i64 E]).run pG X=.ok (.round l d tmps assign body) X/\
   RoundIn cZ n pG l d tmps assign body X (fun e D=>(∃c,e=.returned (.bool c))/\(J T D\/∃p,A p D)):=by
 obtain⟨d,tmps,assign,body,L,M⟩:=F _ (uO,E) X H I ⟨[],G⟩;refine⟨d,tmps,assign,body,L,M.mono ?_⟩
 grind
theorem Arr.otherRow {w w':World} {z e B d size n:Nat} {l:List Value} {v:Value} {A:List Value} (h:Arr w z e l) (D:w.ownsRow B d size v n A) (F:w.grownBy w' v.ownBlock) (G:e≠d):Arr w' z e l:=by
 refine h.grown F ?_;rcases D.2 with⟨rfl,_⟩|⟨g,cap,H,rfl,_,I,_⟩
 ·exact fun q=>by cases q
 ·intro q;obtain rfl:=cC q
  grind [Arr]
theorem bCs {y:Nat} (h:y<4294967296):(pZ 32 y).toNat=y:=by grind
theorem UX {w0 d e:World} {b z:Nat} {I J:Value} (h:d.cell? ⟨b,0,none⟩=some I/\d.cell? ⟨b,1,none⟩=some J/\(∃A D F G,Arr d z 59 [A,D,F,G])/\Below z w0 d/\z+1<=d.heap.size) (H:Below d.heap.size d e):e.cell? ⟨b,0,none⟩=some I/\e.cell? ⟨b,1,none⟩=some J/\(∃A D F G,Arr e z 59 [A,D,F,G])/\Below z w0 e/\z+1<=e.heap.size:=by
 obtain⟨L,M,⟨A,D,F,G,O⟩,T,U⟩:=h;exact⟨(H.cell (gV d _ L)).trans L,(H.cell (gV d _ M)).trans M,⟨A,D,F,G,O.below H O.lt⟩,T.trans (H.mono (by omega)),aR U H.size⟩
theorem bCt {w0 d:World} {b z:Nat} {O T:Value} (h:d.cell? ⟨b,0,none⟩=some O/\d.cell? ⟨b,1,none⟩=some T/\(∃H I J L,Arr d z 59 [H,I,J,L])/\Below z w0 d/\z+1<=d.heap.size) (U:b<z) (A D F G:Value) (e:World) (V:e=(((d.setCell ⟨z,0,none⟩ A).setCell ⟨z,1,none⟩ D).setCell ⟨z,2,none⟩ F).setCell ⟨z,3,none⟩ G):e.cell? ⟨b,0,none⟩=some O/\e.cell? ⟨b,1,none⟩=some T/\(∃H I J L,Arr e z 59 [H,I,J,L])/\Below z w0 e/\z+1<=e.heap.size:=by
 obtain⟨Z,h2,⟨H,I,J,L,h3⟩,h4,h5⟩:=h;have M:Below z d e:=by rw[V];exact((((aH z d).setCell (p:=⟨z,0,none⟩) (aD _) A).setCell (p:=⟨z,1,none⟩) (aD _) D).setCell (p:=⟨z,2,none⟩) (aD _) F).setCell (p:=⟨z,3,none⟩) (aD _) G
 have Y:Arr e z 59 [A,D,F,G]:=by rw[V];exact(((h3.set 0 A).set 1 D).set 2 F).set 3 G
 exact⟨(M.cell (p:=⟨b,0,none⟩) U).trans Z,(M.cell (p:=⟨b,1,none⟩) U).trans h2,⟨A,D,F,G,Y⟩,h4.trans M,by have:=Y.lt;omega⟩
def StQ (s:List UInt8) (R:Int) (P:List Prt×Int×Int) (g:Nat) (E:Int) (acc:List Prt) (a:Nat):Prop:=
 (E=0/\P=eE s R g (a:Int) acc/\40<=R/\R<=360/\a<=8*s.length/\8*s.length+33<=g+a/\acc.length+g<=8*s.length+1)\/(E≠0/\P.1=acc/\P.2.2=E)
theorem bCu (s:List UInt8) (r:Int) (f:Nat) (a:Int) (acc:List Prt):eE s r (f+1) a acc=if aP s.length a 48≠0 then(acc,a,aP s.length a 48)
  else if aK s a 48=0x177245385090 then(acc,(kS s a (iM (pB acc))).1,(kS s a (iM (pB acc))).2)
  else if aK s a 48≠0x314159265359 then(acc,a,3)
  else if(cO s a r).2.2.2≠0 then(acc,a,(cO s a r).2.2.2)
  else eE s r f (cO s a r).2.2.1 (acc++[⟨(cO s a r).1,(cO s a r).2.1,a,(cO s a r).2.2.1,r⟩]):=rfl
theorem bCv (n:Nat) (hn:1<=n) (l b B0 k:Nat) (s:ByteArray) (v0:Value) (a7 T:List oJ) (J Jx:List oJ->World->Prop) (W:World) (hs:s.size<=120000) (hk:k<s.size)
  (hA:SRd W b s ((8*k:Nat):Int) v0) (b5:B0<=b) (hJ:JOk B0 J) (l6:∀p X,J p X->dU X) (hY:YOk (n-1) l B0 T J Jx) (e5:InT s.data.toList ((8*k:Nat):Int) a7 T) (h0:J a7 W):
  CallsIn cZ n pG 104 #[.pointer (some ⟨b,0,none⟩),.func (.yield l) #[] #[]] W fun e W'=>
   (e=.returned (.bool true)/\(cU s.data.toList ((8*k:Nat):Int)).2.2=0/\J (a7++okP (cU s.data.toList ((8*k:Nat):Int)).1) W'/\∃v,SRd W' b s (cU s.data.toList ((8*k:Nat):Int)).2.1 v)\/
   (e=.returned (.bool false)/\(J T W'\/∃l7,Jx l7 W')):=by
 refine pX func104 rfl trivial ?_ rfl;simp only[ntmps104,dB,aU,aV,cV,dC,jG,jH,jI,jJ,eL,fF];have HL:=hid (show s.data.toList.length=s.size by simp);have l8:b<W.heap.size:=Arr.lt hA;have e6:=fun X=>aZb s k X (by omega) (by omega)
 obtain⟨R,E0,b0⟩:∃R E0,fX s.data.toList k=(R,E0):=⟨_,_,rfl⟩;rw[b0] at e6;have i3:E0=0->40<=R/\R<=360/\R%40=0/\k+4<=s.size:=fun h=>by
  have I:=aD2 (s:=s.data.toList) (k:=k) (by rw[b0];exact h);rw[b0] at I;refine⟨I.1,I.2.1,I.2.2,?_⟩;refine Nat.le_of_not_lt fun q=>?_
  have:fX s.data.toList k=(0,2):=by unfold fX;rw[aB (by rw[HL.out];exact q)]
  rw[b0] at this
  injection this with _ O
  rw[h] at O;exact absurd O (by decide)
 have hD:cU s.data.toList ((8*k:Nat):Int)=if E0≠0 then([],((8*k:Nat):Int),E0) else eE s.data.toList R (8*s.size+1) ((8*k+32:Nat):Int) []:=by
  unfold cU;rw[show(((8*k:Nat):Int)/8).toNat=k by omega,b0,HL.out];rfl
 obtain⟨P1,P2,P3,d⟩:∃P1 P2 P3,cU s.data.toList ((8*k:Nat):Int)=(P1,P2,P3):=⟨_,_,_,rfl⟩;have L:=fun acc E I O hE=>bCq (acc:=acc) (E:=E) e5 I O hE
 have Y:=e5.part;rw[d] at hD L Y ⊢;simp only at L Y ⊢;obtain⟨A0,c9⟩:∃A0,A0=8*k:=⟨_,rfl⟩;rw[<-c9] at hA;have m1:(A0:Int).tdiv 8=(k:Int):=by rw[Int.tdiv_eq_ediv_of_nonneg (by omega)];omega
 have l9:aJ.wrap (k:Int)=(k:Int):=by rw[aM];omega
 obtain⟨G,e7⟩:∃G,G=A0+32:=⟨_,rfl⟩;have m2:aJ.wrap ((A0:Int)+32)=(G:Int):=by rw[aM];omega
 have m0:(A0:Int)+32=(G:Int):=by omega
 rw[show 8*k+32=G by omega] at hD;have HP:=hid d;have HD:=hid hD;have c0:=Arr.cell hA (i:=0) rfl;have c1:=Arr.cell hA (i:=1) rfl;have p6:G<=1000000:=by omega
 have p7:A0<=1000000:=by omega
 have i4:=hid c9;have i5:=hid e7;clear hD d e5 b0 c9 e7
 gi_wp2_with fail
 refine wpIn_wide.2 ?_
 go_quiet (first|(go_at_call 118;exact AY (e6 _)))
 generalize a3:W.drewN nq=W1 at*
 have b6:SRd W1 b s (A0:Int) v0:=by rw[<-a3];exact hA
 have i6:J a7 W1:=hJ _ _ _ h0 (by rw[<-a3];exact iI.drewN _ _ _);have d1:=Arr.cell b6 (i:=1) rfl;have f1:=Arr.free b6 1;have b7:SRd (W1.setCell ⟨b,1,none⟩ (.int .i64 (G:Int))) b s (G:Int) v0:=Arr.set b6 1 _;have d2:=Arr.cell b7 (i:=2) rfl;have f2:=Arr.free b7 2;have e8:SRd ((W1.setCell ⟨b,1,none⟩ (.int .i64 (G:Int))).setCell ⟨b,2,none⟩ (.slice none 0 0)) b s (G:Int) (.slice none 0 0):=Arr.set b7 2 _;have i7:J a7 ((W1.setCell ⟨b,1,none⟩ (.int .i64 (G:Int))).setCell ⟨b,2,none⟩ (.slice none 0 0)):=hJ _ _ _ i6 ((iI.set b6 b5 _).trans (iI.set b7 b5 _));have m3:=Arr.lt e8
 have HQ:=hid (show StQ s.data.toList R (P1,P2,P3) (8*s.size+1) E0 [] G by
  have h:=HD.out;have c9:=i4.out;have e7:=i5.out;unfold StQ;rw[HL.out]
  by_cases q:E0=0
  ·obtain⟨r1,r2,-,r4⟩:=i3 q;rw[aA (fun z=>z q)] at h;exact .inl ⟨q,h,r1,r2,by omega,by omega,by simp⟩
  ·rw[aB q] at h
   injection h with F x2
   injection x2 with x2 x3
   exact .inr ⟨q,F,x3⟩)
 clear a3 hA h0 c0 c1 i3 e6 HD l8 m1 l9 i4 i5
 gi_wp2_with fail
 generalize (W1.setCell ⟨b,1,none⟩ (.int .i64 (G:Int))).setCell ⟨b,2,none⟩ (.slice none 0 0)=W3 at*
 obtain⟨A,m4⟩:∃A,A=W3.heap.size:=⟨_,rfl⟩;have d0:b<A:=by omega
 have i8:A<=W3.heap.size:=by omega
 clear d1 f1 d2 f2 b6 i6 b7 m2 m0 m4 m3
 gi_loopg [4,6,7,8] (8*s.size+1) (fun g c4 c6 _c7 _c8 wr=>∃(E:Int) (acc:List Prt) (a:Nat) (v:Value),c4=.bool false/\c6=.int .i64 E/\J (a7++okP acc) wr/\SRd wr b s (a:Int) v/\OwS wr A v (pB acc)/\A<=wr.heap.size/\Hid (StQ s.data.toList R (P1,P2,P3) g E acc a))
 case atStart=>exact⟨E0,[],G,.slice none 0 0,rfl,rfl,by simpa [okP] using i7,e8,Ow.nil _ _ _,i8,HQ⟩
 case round=>
  clear i7 e8 HQ i8;obtain⟨E,acc,a,v,rfl,rfl,e9,d3,hor,i9,HQ⟩:=hrel;rcases HQ.out with⟨rfl,d4,m5,m6,m7,m8,m9⟩|⟨f4,j0,j1⟩
  rotate_left
  ·have t1:(E==0)=false:=by rw[cB];exact f4
   have hT:=L acc E j0 j1 f4;obtain⟨fn,tmps,assign,body,hy,hR⟩:=NC hY hT e9 (by omega);clear j0 j1 HQ L Y f4 hT
   gi_wp2_with fail
   refine hR.mono ?_;rintro e W5 ⟨⟨c,rfl⟩,b8⟩
   gi_wp2_with fail
   go_ret;exact .inr ⟨rfl,b8⟩
  obtain⟨f,rfl⟩:∃f,gk=f+1:=⟨gk-1,by omega⟩;rw[bCu,HL.out] at d4;rw[HL.out] at m7 m8 m9;have hg:=fun X=>uQ s (a:Int) 48 X (by omega) (by decide) (by omega) (by omega)
  obtain⟨E1,j2⟩:∃E1,E1=aP s.size (a:Int) 48:=⟨_,rfl⟩;obtain⟨V,hV⟩:∃V,V=aK s.data.toList (a:Int) 48:=⟨_,rfl⟩;rw[<-j2,<-hV] at hg d4;have b9:=hid d4;have c0:=Arr.cell d3 (i:=0) rfl;have c1:=Arr.cell d3 (i:=1) rfl;clear j2 hV d4 HQ
  gi_wp2_with fail
  refine wpIn_wide.2 ?_
  go_quiet (first|(go_at_call 119;exact AY (hg _)))
  generalize a3:wr.drewN nq=D at*
  have a0:SRd D b s (a:Int) v:=by rw[<-a3];exact d3
  have b1:J (a7++okP acc) D:=hJ _ _ _ e9 (by rw[<-a3];exact iI.drewN _ _ _);have d5:OwS D A v (pB acc):=by rw[<-a3];exact hor
  have f5:A<=D.heap.size:=by rw[<-a3];exact i9
  clear a3 d3 e9 hor i9 c0 c1 hg
  by_cases I:E1=0
  rotate_left
  ·have t1:(E1 != 0)=true:=by rw[bne_iff_ne];exact I
   have d:=b9.out;rw[aB I] at d
   injection d with F x2
   injection x2 with x2 x3
   have hT:=L acc E1 F x3 I;obtain⟨fn,tmps,assign,body,hy,hR⟩:=NC hY hT b1 (by omega);clear F x2 x3 L Y I hT
   gi_wp2_with fail
   refine hR.mono ?_;rintro e W5 ⟨⟨c,rfl⟩,b8⟩
   gi_wp2_with fail
   go_ret;exact .inr ⟨rfl,b8⟩
  subst I;have d:=b9.out;rw[aA (fun z=>z rfl)] at d
  by_cases O:V=25779555029136
  ·rw[aB O] at d;subst O;obtain⟨Q1,Q2,hQ⟩:∃Q1 Q2,kS s.data.toList (a:Int) (iM (pB acc))=(Q1,Q2):=⟨_,_,rfl⟩;have d6:=aZe b A s a v (pB acc) D a0 d5 d0 (by omega) (by omega);rw[hQ] at d6 d
   injection d with F x2
   injection x2 with x2 x3
   have HX:=hid (show P1=acc/\P2=Q1/\P3=Q2 from⟨F,x2,x3⟩);clear F x2 x3 hQ b9
   gi_wp2_with fail
   refine⟨trivial,(callsIn_wide.2 d6).mono ?_⟩;rintro e W5 ⟨rfl,j3,a',o0,f6⟩;have j4:=hJ _ _ _ b1 (iI.grown j3 a0 b5);have p8:=j3.size
   by_cases h3:Q2=0
   ·subst h3;have b2:=hid (f6 rfl);clear f6 d6 L Y
    gi_wp2_with fail
    refine⟨fun _ _=>trivial,?_⟩
    gi_wp2_with fail
    go_ret;obtain⟨y1,y2,y3⟩:=HX.out;exact .inl ⟨rfl,y3,by rw[y1];exact j4,v,by rw[y2,<-b2.out];exact o0⟩
   ·have t1:(Q2==0)=false:=by rw[cB];exact h3
    have hT:=L acc Q2 HX.out.1 HX.out.2.2 h3;obtain⟨fn,tmps,assign,body,hy,hR⟩:=NC hY hT j4 (by omega);clear f6 d6 L Y h3 hT
    gi_wp2_with fail
    refine hR.mono ?_;rintro e W6 ⟨⟨c,rfl⟩,b8⟩
    gi_wp2_with fail
    go_ret;exact .inr ⟨rfl,b8⟩
  have u1:((V:Int)==25779555029136)=false:=by rw[cB];omega
  have o1:(V==25779555029136)=false:=by rw[cB];exact O
  rw[aA O] at d
  by_cases h3:V=54156738319193
  rotate_left
  ·have u2:((V:Int)==54156738319193)=false:=by rw[cB];omega
   have p9:(V==54156738319193)=false:=by rw[cB];exact h3
   rw[aB h3] at d
   injection d with F x2
   injection x2 with x2 x3
   have HX:=hid (show P1=acc/\P3=3 from⟨F,x3⟩);clear F x2 x3 b9 O h3 L Y
   gi_wp2_with fail
   gi_roundg 0
   case measure=>omega
   case rel=>exact⟨3,acc,a,v,rfl,rfl,b1,a0,d5,f5,hid (.inr ⟨by decide,HX.out.1,HX.out.2⟩)⟩
  rw[aA (fun z=>z h3)] at d;subst h3;have a8:=fun X (hX:dU X)=>bCp s (a:Int) R X hX (by omega) (by omega) (by omega) (by omega) (by omega)
  unfold FZ at a8;have d7:=CD (s:=s.data.toList) (at':=(a:Int)) (room:=R);obtain⟨H,D2,D3,D4,hD⟩:∃H D2 D3 D4,cO s.data.toList (a:Int) R=(H,D2,D3,D4):=⟨_,_,_,_,rfl⟩;rw[hD] at a8 d d7;unfold CP at a8;simp only at a8 d d7;obtain⟨A',b3⟩:∃A':Int,A'=if D4=0 then(a:Int) else 0:=⟨_,rfl⟩;rw[<-b3] at a8;have f7:=hid b3;clear b3;have f8:=l6 _ _ b1;have b2:=hid d;have f9:=hid d7;have c0:=Arr.cell a0 (i:=0) rfl;have c1:=Arr.cell a0 (i:=1) rfl;clear b9 u1 o1 O hD d d7
  gi_wp2_with fail
  have c3:Below D.heap.size D (D.alloc (.cells #[.string ⟨#[]⟩,.int .u32 0,.int .i64 0,.int .i64 0] 59)):=bD (aH _ _) _;have j5:dU (D.alloc (.cells #[.string ⟨#[]⟩,.int .u32 0,.int .i64 0,.int .i64 0] 59)):=f8.below (bD (aH _ _) _);have d8:Arr (D.alloc (.cells #[.string ⟨#[]⟩,.int .u32 0,.int .i64 0,.int .i64 0] 59)) D.heap.size 59 [.string ⟨#[]⟩,.int .u32 0,.int .i64 0,.int .i64 0]:=Arr.new D _ [_,_,_,_];generalize D.alloc (.cells #[.string ⟨#[]⟩,.int .u32 0,.int .i64 0,.int .i64 0] 59)=W6 at*
  obtain⟨z,hz⟩:∃z,z=D.heap.size:=⟨_,rfl⟩;rw[<-hz] at d8 ⊢;have q0:A<=z:=by omega
  have j6:0<z:=by have:=f8.lt;omega
  have o2:=Arr.lt d8;have c0:=(c3.cell (p:=⟨b,0,none⟩) (Arr.lt a0)).trans c0;have c1:=(c3.cell (p:=⟨b,1,none⟩) (Arr.lt a0)).trans c1;have HZ:=hid hz;have o3:b<z:=by omega
  clear hz f8;refine wpIn_wide.2 ?_;have o4:=UX (w0:=W6) (z:=z) ⟨c0,c1,⟨_,_,_,_,d8⟩,aH _ _,by omega⟩ (aH W6.heap.size W6).drew;have HE:=fun M (h:M.cell? ⟨b,0,none⟩=some (.string s)/\M.cell? ⟨b,1,none⟩=some (.int .i64 (a:Int))/\(∃y0 y1 y2 y3,Arr M z 59 [y0,y1,y2,y3])/\Below z W6 M/\z+1<=M.heap.size)=>show dU M from(h.2.2.2.1.cell (p:=⟨0,0,none⟩) j6).trans j5
  go_region_held3 (fun M=>M.cell? ⟨b,0,none⟩=some (.string s)/\M.cell? ⟨b,1,none⟩=some (.int .i64 (a:Int))/\(∃y0 y1 y2 y3,Arr M z 59 [y0,y1,y2,y3])/\Below z W6 M/\z+1<=M.heap.size)
   (first
    |with_reducible assumption
    |with_reducible exact UX (by assumption) (by assumption)
    |exact bCt (by assumption) o3 _ _ _ _ _ rfl)
   (first|(go_at_call 121;refine(a8 _ (HE _ (by assumption))).mono ?_;rintro e W7 ⟨rfl,j7⟩;obtain⟨-,-,⟨y0,y1,y2,y3,a1⟩,j8,o5⟩:=UX (by assumption) j7;have g0:=a1.cell (i:=0) rfl;have g1:=a1.cell (i:=1) rfl;have g2:=a1.cell (i:=2) rfl;have g3:=a1.cell (i:=3) rfl;have f0:=a1.free 0;have f1:=a1.free 1;have f2:=a1.free 2;have f3:=a1.free 3))
  have d9:=(((a1.set 0 (.string H)).set 1 (.int .u32 D2)).set 2 (.int .i64 A')).set 3 (.int .i64 D3);have c5:Below D.heap.size D ((((W7.setCell ⟨z,0,none⟩ (.string H)).setCell ⟨z,1,none⟩ (.int .u32 D2)).setCell ⟨z,2,none⟩ (.int .i64 A')).setCell ⟨z,3,none⟩ (.int .i64 D3)):=by
   rw[<-HZ.out] at c3 ⊢;exact c3.trans ((((j8.setCell (p:=⟨z,0,none⟩) (aD _) _).setCell (p:=⟨z,1,none⟩) (aD _) _).setCell (p:=⟨z,2,none⟩) (aD _) _).setCell (p:=⟨z,3,none⟩) (aD _) _)
  change Arr ((((W7.setCell ⟨z,0,none⟩ (.string H)).setCell ⟨z,1,none⟩ (.int .u32 D2)).setCell ⟨z,2,none⟩ (.int .i64 A')).setCell ⟨z,3,none⟩ (.int .i64 D3)) z 59 [.string H,.int .u32 D2,.int .i64 A',.int .i64 D3] at d9;generalize (((W7.setCell ⟨z,0,none⟩ (.string H)).setCell ⟨z,1,none⟩ (.int .u32 D2)).setCell ⟨z,2,none⟩ (.int .i64 A')).setCell ⟨z,3,none⟩ (.int .i64 D3)=W8 at*
  have b4:SRd W8 b s (a:Int) v:=Arr.below a0 c5 (Arr.lt a0);have g4:OwS W8 A v (pB acc):=Ow.below d5 c5 (aD _);have g5:=hJ _ _ _ b1 (iI.of c5 (by omega));have g6:A<=W8.heap.size:=aR f5 c5.size;clear g0 g1 g2 g3 f0 f1 f2 f3 a1 j8 o5 j7 y0 y1 y2 y3 HE o4 c0 c1 d8 j5 c3 a8 a0 d5 b1 f5 c5 j6 o2 HZ
  by_cases h4:D4=0
  rotate_left
  ·have t1:(D4 != 0)=true:=by rw[bne_iff_ne];exact h4
   have d:=b2.out;rw[aB h4] at d
   injection d with F x2
   injection x2 with x2 x3
   have HX:=hid (show D4≠0/\P1=acc/\P3=D4 from⟨h4,F,x3⟩);clear F x2 x3 h4 L Y f9 b2 f7
   gi_wp2_with fail
   gi_roundg 0
   case measure=>omega
   case rel=>exact⟨D4,acc,a,v,rfl,rfl,g5,b4,g4,g6,hid (.inr HX.out)⟩
  subst h4;obtain⟨-,-,-,-,-,k6,k7,k8,-⟩:=f9.out rfl;rw[HL.out] at k8;obtain⟨Z,rfl⟩:∃Z:Nat,D3=(Z:Int):=⟨D3.toNat,by omega⟩;have e0:=(cH H.data.toList).isLt;obtain⟨y,hy⟩:∃y,y=(cH H.data.toList).toNat:=⟨_,rfl⟩;rw[<-hy] at k6 e0;subst k6;have e0:y<4294967296:=e0;have b3:=f7.out;rw[aB rfl] at b3;subst b3;have d:=b2.out;rw[aA (fun q=>q rfl)] at d;obtain⟨p,hp⟩:∃p:Prt,p=⟨H,(y:Int),(a:Int),(Z:Int),R⟩:=⟨_,rfl⟩;rw[<-hp] at d;have j9:∃r,T=a7++okP acc++(p,0)::r:=by
   obtain⟨m,hm⟩:=aD6 (s:=s.data.toList) (r:=R) f (Z:Int) (acc++[p]);rw[<-d,bU] at hm;exact Y acc p m hm
  have HP:=hid d;have q1:Z<=1000000:=by omega
  have q2:a+96<Z:=by omega
  have o6:Z<=8*s.size:=by omega
  have d1:=Arr.cell b4 (i:=1) rfl;have f1:=Arr.free b4 1;have e3:=d9.cell (i:=3) rfl;have e1:SRd (W8.setCell ⟨b,1,none⟩ (.int .i64 (Z:Int))) b s (Z:Int) v:=Arr.set b4 1 _;have g7:Arr (W8.setCell ⟨b,1,none⟩ (.int .i64 (Z:Int))) z 59 [.string H,.int .u32 (y:Int),.int .i64 (a:Int),.int .i64 (Z:Int)]:=d9.other _ (by show b≠z;omega) _;have g8:OwS (W8.setCell ⟨b,1,none⟩ (.int .i64 (Z:Int))) A v (pB acc):=Ow.box g4 (gbS _ _ _ _) d0;have k0:=hJ _ _ _ g5 (iI.set (i:=1) b4 b5 (.int .i64 (Z:Int)));have k1:A<=(W8.setCell ⟨b,1,none⟩ (.int .i64 (Z:Int))).heap.size:=by simpa using g6
  clear d b2 f7 f9 k7 k8 hy L Y
  gi_wp2_with fail
  generalize W8.setCell ⟨b,1,none⟩ (.int .i64 (Z:Int))=W9 at*
  clear b4 d9 g4 g5 g6 d1 f1 e3;obtain⟨a2,a9⟩:∃a2,a2=(W9.alloc (.cells #[.int .u32 (y:Int)] 38)).drew:=⟨_,rfl⟩;have g9:iI B0 W9 a2:=by rw[a9];exact(iI.of (bD (aH _ _) _) (by omega)).trans (iI.drew _ _)
  have k2:SRd a2 b s (Z:Int) v:=by rw[a9];exact Arr.alloc e1 _
  have k3:Arr a2 z 59 [.string H,.int .u32 (y:Int),.int .i64 (a:Int),.int .i64 (Z:Int)]:=by rw[a9];exact Arr.alloc g7 _
  have e2:OwS a2 A v (pB acc):=by rw[a9];exact Ow.alloc g8 _
  have k4:a2.cell? ⟨W9.heap.size,0,none⟩=some (.int .u32 ((pZ 32 y).toNat:Int)):=by rw[a9,bCs e0];exact bX _ _ _
  have k5:A<=a2.heap.size:=aR k1 g9.bel.size;have k9:(pB acc).length=acc.length:=List.length_map ..;obtain⟨v',a4,hr,i0,e4,i1⟩:=bCr (w:=a2) 81 A v (pB acc) e2 W9.heap.size (pZ 32 y) k4 (by rw[k9];omega) k5;have c7:SRd a4 b s (Z:Int) v:=Arr.below k2 e4 d0;have l1:Arr a4 z 59 [.string H,.int .u32 (y:Int),.int .i64 (a:Int),.int .i64 (Z:Int)]:=k3.otherRow e2 i1 (by decide);have l2:iI B0 a2 a4:=⟨e4.mono (by omega),.app e2 i1 (by unfold AF;decide)⟩;obtain⟨va,vc,hv,-⟩:=(OwS.rd g8).open;obtain⟨vn,l3⟩:∃vn,vn=(pB acc).length:=⟨_,rfl⟩;rw[<-l3] at hv
  obtain⟨a5,a6,l4,-⟩:=(OwS.rd i0).open;obtain⟨U,l5⟩:∃U,U=(pB acc++[pZ 32 y]).length:=⟨_,rfl⟩;rw[<-l5] at l4;subst hv l4;have c2:=Arr.cell e1 (i:=2) rfl;have o7:(W9.alloc (.cells #[.int .u32 (y:Int)] 38)).cell? ⟨b,2,none⟩=some (.slice va vn vc):=(Arr.alloc e1 _).cell (i:=2) rfl;have F:=g7.cell (i:=1) rfl;have d2:=Arr.cell c7 (i:=2) rfl;have f2:=Arr.free c7 2;rw[a9] at hr;have o8:SRd (a4.setCell ⟨b,2,none⟩ (.slice a5 U a6)) b s (Z:Int) (.slice a5 U a6):=Arr.set c7 2 _
  have c8:Arr (a4.setCell ⟨b,2,none⟩ (.slice a5 U a6)) z 59 [.string H,.int .u32 (y:Int),.int .i64 (a:Int),.int .i64 (Z:Int)]:=l1.other _ (by show b≠z;omega) _;have o9:OwS (a4.setCell ⟨b,2,none⟩ (.slice a5 U a6)) A (.slice a5 U a6) (pB acc++[pZ 32 y]):=Ow.box i0 (gbS _ _ _ _) d0;have p0:=hJ _ _ _ k0 ((g9.trans l2).trans (iI.set (i:=2) c7 b5 (.slice a5 U a6)));have p1:A<=(a4.setCell ⟨b,2,none⟩ (.slice a5 U a6)).heap.size:=by have:=e4.size;simp only[World.size_setCell];omega
  clear g9 k2 k3 e2 k4 k5 k9 i0 e4 i1 l2 c7 l1 l3 l5 a9;have p2:=hid (show pB acc++[pZ 32 y]=pB (acc++[p]) by
   unfold pB;rw[dY,List.map_cons,List.map_nil,hp,BitVec.ofInt_natCast])
  refine wpIn_wide.2 ?_
  go_region_law (refine sX rfl (.tmp 89) (.tmp 92) 81 rfl (.slice va vn vc) (.slice (some ⟨W9.heap.size,0,none⟩) 1 1) (.slice a5 U a6) a4 (by simp[lL]) (by simp[lL]) hr ?_)
  all_goals
   generalize a4.setCell ⟨b,2,none⟩ (.slice a5 U a6)=p3 at*
   obtain⟨fn,tmps,assign,body,hy,hR⟩:=hY _ (p,0) p3 p0 (by omega) j9;unfold GA at hy;rw[hp] at hy;dsimp only at hy;have q3:=hid hp;have z0:=c8.cell (i:=0) rfl;have z1:=c8.cell (i:=1) rfl;have z2:=c8.cell (i:=2) rfl;have z3:=c8.cell (i:=3) rfl;clear hp j9 c8 g7 e1 g8 k0 k1 hr c2 o7 F d2 f2
   gi_wp2_with fail
   refine hR.mono ?_;rintro e q4 (⟨rfl,p4,i2⟩|⟨rfl,p5⟩)
   ·gi_wp2_with fail
    gi_roundg f
    case measure=>omega
    case rel=>exact⟨0,acc++[p],Z,_,rfl,rfl,by rw[LQ,aVt,<-bU];exact p4,o8.kept i2,by rw[<-p2.out];exact OwS.kept o9 i2,aR p1 i2.1,hid (.inl ⟨rfl,HP.out,m5,m6,by rw[HL.out];exact o6,by rw[HL.out];omega,by rw[HL.out,aL,List.length_singleton];omega⟩)⟩
   ·gi_wp2_with fail
    go_ret;exact .inr ⟨rfl,.inr ⟨_,p5⟩⟩
theorem bCw {n l B:Nat} {T:List oJ} {J d:List oJ->World->Prop} (h:YOk n l B T J d) (m:Nat):YOk m l B T J d:=fun A x D a b c=>
 let⟨F,tmps,assign,body,G,e⟩:=h A x D a b c
 ⟨F,tmps,assign,body,G,e.1,fun c H _=>e.2 c H (room_wide _)⟩
def PaQ (s:List UInt8) (g:Nat) (a:Nat) (acc:List Prt):Prop:=cI s=gT s g (8*(a:Int)) acc/\8*a<=8*s.length/\8*s.length+1<=g+8*a
theorem bCx (n:Nat) (T:2<=n) (l D:Nat) (s:ByteArray) (J U:List oJ->World->Prop) (W:World) (hs:s.size<=120000) (V:Arr W D 9 [.string s])
  (M:JOk W.heap.size J) (c9:∀p X,J p X->dU X) (hY:YOk (n-1) l W.heap.size (jY s.data.toList) J U) (h0:J [] W):
  CallsIn cZ n pG 103 #[.func (.yield l) #[] #[],.pointer (some ⟨D,0,none⟩)] W fun e W'=>(∃v,e=.returned v)/\(J (jY s.data.toList) W'\/∃a3,U a3 W'):=by
 refine pX func103 rfl trivial ?_ rfl;simp only[ntmps103,dB,aU,aV,cV,dC,jG,jH,jI,jJ,eL,fF];have d:=hid (show s.data.toList.length=s.size by simp);have c0:=V.cell (i:=0) rfl
 by_cases H:s.data.toList=[]
 ·have te:s.toList.isEmpty=true:=by rw[Lib.toList_data,H];rfl
  have hT:jY s.data.toList=[]++[(uO,3)]:=by rw[H];exact aVx
  obtain⟨fn,tmps,assign,body,hy,hR⟩:=NC hY hT h0 (aD _);clear H hT
  gi_wp2_with fail
  refine⟨fun _=>by omega,hR.mono ?_⟩;rintro e W5 ⟨⟨c,rfl⟩,a4⟩
  gi_wp2_with fail
  refine fM (tI rfl _ _ _) rfl ?_;exact⟨⟨_,rfl⟩,a4⟩
 have te:s.toList.isEmpty=false:=xM H;have e1:0<s.size:=by rw[<-d.out];exact List.length_pos_iff.2 H
 have L:=hid (show PaQ s.data.toList (8*s.size+1) 0 [] by
  unfold PaQ;refine⟨?_,by omega,by rw[d.out];omega⟩;unfold cI;rw[aA H,d.out];rfl)
 clear H
 gi_wp2_with fail
 have a5:SRd (W.alloc (.cells #[.string s,.int .i64 0,.slice none 0 0] 186)) W.heap.size s ((0:Nat):Int) (.slice none 0 0):=Arr.new W _ [_,_,_];have b6:=Arr.alloc V (.cells #[.string s,.int .i64 0,.slice none 0 0] 186);have b7:=M _ _ (W.alloc (.cells #[.string s,.int .i64 0,.slice none 0 0] 186)) h0 (iI.of (bD (aH _ _) _) (aD _));generalize W.alloc (.cells #[.string s,.int .i64 0,.slice none 0 0] 186)=W1 at*
 have b8:D<W.heap.size:=V.lt;obtain⟨F,a6⟩:∃F,F=W.heap.size:=⟨_,rfl⟩;rw[<-a6] at a5 b8 M hY ⊢;have HB:=hid a6;clear h0 V c0 a6;have e2:(8*s.size)<=1000000:=by omega
 have d0:∀X Y,Arr X D 9 [.string s]->iI F X Y->Arr Y D 9 [.string s]:=fun X Y h k=>h.below k.bel b8
 have d1:∀m,YOk m l F (jY s.data.toList) (fun p X=>J p X/\Arr X D 9 [.string s]) U:=fun m a3 x X1 hj I hr=>by
  obtain⟨fn,tmps,assign,body,hy,hR⟩:=bCw hY m a3 x X1 hj.1 I hr;refine⟨fn,tmps,assign,body,hy,hR.mono ?_⟩;rintro e W' (⟨rfl,h1,h2⟩|⟨rfl,h1⟩)
  ·exact .inl ⟨rfl,⟨h1,h2.arr hj.2 (by unfold uZ;decide) (fun q=>by cases q)⟩,h2⟩
  ·exact .inr ⟨rfl,h1⟩
 gi_loopg [] (8*s.size+1) (fun g wr=>∃(acc:List Prt) (a:Nat) (v:Value),J (okP acc) wr/\SRd wr F s (8*(a:Int)) v/\Arr wr D 9 [.string s]/\Hid (PaQ s.data.toList g a acc))
 case atStart=>exact⟨[],0,_,b7,a5,b6,L⟩
 case round=>
  clear a5 b6 b7 L;obtain⟨acc,a,v,a7,Z,a8,L⟩:=hrel;obtain⟨O,a9,b0⟩:=L.out;rw[d.out] at a9 b0;obtain⟨A,b1⟩:∃A,A=8*a:=⟨_,rfl⟩;obtain⟨G,b9⟩:∃G,G=8*s.size:=⟨_,rfl⟩;have b2:8*(a:Int)=(A:Int):=by omega
  have d2:8*(s.size:Int)=(G:Int):=by omega
  have e3:A<=1000000:=by omega
  have e4:G<=1000000:=by omega
  rw[b2] at Z;have hw:aJ.wrap (8*(s.size:Int))=(G:Int):=by rw[d2];exact lE _ (by omega)
  have c0:=Arr.cell Z (i:=1) rfl;have s0:=Arr.cell a8 (i:=0) rfl
  by_cases e5:A<G
  rotate_left
  ·have t1:decide ((A:Int)<(G:Int))=false:=aE (by omega);obtain⟨f,rfl⟩:∃f,gk=f+1:=⟨gk-1,by omega⟩;have d3:=hid (aVw O (by rw[d.out];omega)).1;clear O a9 b0 b1 b9 L b2
   gi_wp2_with fail
   refine wpIn_wide.2 ?_
   go_quiet (fail)
   gi_wp2_with fail
   go_end0
   exact⟨⟨_,rfl⟩,.inl (by rw[d3.out];exact M _ _ _ a7 (iI.drewN _ _ _))⟩
  have t1:decide ((A:Int)<(G:Int))=true:=aG (by omega);obtain⟨f,rfl⟩:∃f,gk=f+1:=⟨gk-1,by omega⟩;have b3:=aVu O (by rw[d.out];omega);rw[show(8*(a:Int))=((8*a:Nat):Int) by omega] at b3;have b4:=fun I=>aVv O (by rw[d.out];omega) I
  have b5:=fun I=>aVy (s:=s.data.toList) (a:=8*(a:Int)) (by omega) I
  have a0:=fun I=>EZ (s:=s.data.toList) (a:=8*(a:Int)) I
  rw[show(8*(a:Int))=((8*a:Nat):Int) by omega] at b4 b5 a0;rw[d.out] at a0;have c1:=hid b4;have c2:=hid b5;have c3:=hid a0;have c4:=hid b3;have d4:a<s.size:=by omega
  have d5:=hid b1;have e6:8*s.size<=f+8*a:=by omega
  clear O a9 b0 b1 b9 L b2 b4 b5 a0 b3
  gi_wp2_with fail
  refine wpIn_wide.2 ?_
  go_quiet (fail)
  generalize a1:wr.drewN nq=W4 at*
  have d6:SRd W4 F s ((8*a:Nat):Int) v:=by rw[<-a1,<-d5.out];exact Z
  have d7:Arr W4 D 9 [.string s]:=by rw[<-a1];exact a8
  have d8:J (okP acc) W4:=by rw[<-a1];exact M _ _ _ a7 (iI.drewN _ _ _)
  clear a1 Z a8 a7 c0 s0;have c5:=bCv (n-1) (by omega) l F F a s v (okP acc) (jY s.data.toList) (fun p X=>J p X/\Arr X D 9 [.string s]) U W4 hs d4 d6 (aD _) (fun p X Y h k=>⟨M _ _ _ h.1 k,d0 _ _ h.2 k⟩) (fun p X h=>c9 _ _ h.1) (d1 _) c4.out ⟨d8,d7⟩
  gi_wp2_with fail
  refine⟨trivial,fun _=>by omega,c5.mono ?_⟩;rintro e W5 (⟨rfl,a2,⟨c6,d9⟩,v5,c7⟩|⟨rfl,a4⟩)
  ·have hm:=c2.out a2;have hk:=c3.out a2;obtain⟨a',c8⟩:∃a':Nat,(cU s.data.toList ((8*a:Nat):Int)).2.1=8*(a':Int):=⟨((cU s.data.toList ((8*a:Nat):Int)).2.1/8).toNat,by omega⟩;have T:=c1.out a2;rw[c8] at T c7 hk;have HN:=hid (show PaQ s.data.toList f a' (acc++(cU s.data.toList ((8*a:Nat):Int)).1) from⟨T,by rw[d.out];omega,by rw[d.out];omega⟩);have e0:f<f+1:=Nat.lt_succ_self f;rw[<-LQ] at c6;clear c5 hm hk c8 T a2 c2 c3 c1 c4
   gi_wp2_with fail
   gi_roundg f
   case measure=>exact e0
   case rel=>exact⟨_,a',v5,c6,c7,d9,HN⟩
  ·gi_wp2_with fail
   refine fM (tI rfl _ _ _) rfl ?_;exact⟨⟨_,rfl⟩,a4.elim (fun h=>.inl h.1) .inr⟩
theorem bCy (n:Nat) (D:2<=n) (d:Nat) (s:ByteArray) (w:World) (A:Arr w d 9 [.string s]) (F:s.size<=120000):
  aIq n pG 103 #[.pointer (some ⟨d,0,none⟩)] GA (eS AF none) (eS uZ none) dU (fun e x=>∃r,jY s.data.toList=e++x::r) (fun G=>G=jY s.data.toList) w:=fun l J H W I L _ M O T=>
 (bCx n D l d s J H W F (A.below I A.lt) (fun p X Y h k=>L p X Y h k.bel k.ty) M (fun e x U a b c=>O e x U a b c) T).mono fun _ _ h=>⟨h.1,h.2.elim (fun k=>.inl ⟨_,rfl,k⟩) .inr⟩
end Go.Proofs.YtfplbbphficcjaaGreatDoor
