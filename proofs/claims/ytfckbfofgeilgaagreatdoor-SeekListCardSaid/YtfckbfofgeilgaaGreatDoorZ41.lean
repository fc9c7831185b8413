/-
  Texts put together (part 41): the walks and the plain laws on which the statement stands.
-/
import Derived.Test.YtfckbfofgeilgaaGreatDoorZ39
set_option maxRecDepth 100000
set_option maxHeartbeats 12800000
set_option linter.unusedVariables false
set_option linter.unusedSimpArgs false
open Go.Proofs.Tryz
open Go.Proofs.Tryz renaming prog->pG
open Go renaming run_loadVar_row->WR
open Go.Act renaming put->bJ
open Go.RowKit.Below renaming refl->aH
open Go.World renaming size_alloc->fP
open List renaming getElem?_cons_succ->gH,getElem?_cons_zero->gB,getElem?_eq_getElem->aN,getElem?_eq_some_iff->eF,getElem?_toArray->gA,length_cons->aU,length_map->aS,length_nil->aV,setIfInBounds_toArray->bK,set_cons_succ->bB,set_cons_zero->bH,size_toArray->dB
open Nat renaming lt_of_lt_of_le->fB,reduceAdd->cV,reduceSub->dC
open Or renaming inl->gJ,inr->gI
namespace Go.Proofs.YtfckbfofgeilgaaGreatDoor
open Go.RowKit Go Go.Shelf
def RdD (w:World) (v:Value) (a:ByteArray) (P:List Prt) (room:Int) (S:Dk):Prop:=∃d e vr,v=bLa a d room S.clock e vr S.dec/\RdR w d ((gU 0 P).map bG)/\RdR w e ((byB S.Hs).map mX)/\RdR w vr (S.Rs.map bK3)
theorem RdD.below {w w':World} {v:Value} {a:ByteArray} {P:List Prt} {room:Int} {S:Dk} (h:RdD w v a P room S) (d:Below w.heap.size w w'):RdD w' v a P room S:=by
 obtain⟨e,A,vr,rfl,D,F,G⟩:=h;exact⟨e,A,vr,rfl,D.below d,F.below d,G.below d⟩
theorem RdD.open {w:World} {v:Value} {a:ByteArray} {P:List Prt} {room:Int} {S:Dk} (h:RdD w v a P room S):∃d I e A J ch D F,v=bLa a (.slice d I e) room S.clock (.slice A J ch) (.slice D S.Rs.length F) S.dec/\RdR w (.slice d I e) ((gU 0 P).map bG)/\RdR w (.slice A J ch) ((byB S.Hs).map mX)/\RdR w (.slice D S.Rs.length F) (S.Rs.map bK3):=by
 obtain⟨O,R,vr,rfl,L,M,G⟩:=h;obtain⟨d,e,rfl,-⟩:=L.open (yG _) (by decide);obtain⟨A,ch,rfl,-⟩:=M.open (bLd _) (by decide);obtain⟨D,F,rfl,-⟩:=G.open (bL1 _) (by decide);rw[aS (f:=bK3)] at G ⊢;exact⟨_,_,_,_,_,_,_,_,rfl,L,M,G⟩
def Fr (v:Value) (N:Nat):Prop:=∀(a:ByteArray) (d:Value) (room A:Int) (e vr:Value) (D:Int),v=bLa a d room A e vr D->(∀b,d.ownBlock=some b->N<=b)/\(∀b,e.ownBlock=some b->N<=b)/\∀b,vr.ownBlock=some b->N<=b
theorem Fr.mk {a:ByteArray} {d:Value} {room D:Int} {A vr:Value} {F:Int} {N:Nat} (G:∀b,d.ownBlock=some b->N<=b) (I:∀b,A.ownBlock=some b->N<=b) (J:∀b,vr.ownBlock=some b->N<=b):Fr (bLa a d room D A vr F) N:=fun L M O R U V Y e=>by
 injection e with e
 have e:=congrArg Array.toList e;simp only[List.cons.injEq,and_true] at e;obtain⟨-,rfl,-,-,rfl,rfl,-⟩:=e;exact⟨G,I,J⟩
theorem bOe {O:Func} {Q:Ending->World->Prop} {W:World} {a:Act} {z d p q s t:Nat} {e A D F G I J L M u v:Value} (R:O.results=#[.tmp p,.cell q 47,.cell s 40,.tmp t]) (U:Arr W z 47 [e,A]) (V:Arr W d 40 [D,F,G,I,J,L,M]) (Y:a.tmps.getD q undef=.pointer (some ⟨z,0,none⟩)) (Z:a.tmps.getD s undef=.pointer (some ⟨d,0,none⟩)) (hp:a.tmps.getD p undef=u) (ht:a.tmps.getD t undef=v) (hd:a.defers=[])
  (h:Q (.returned (.tuple #[u,.agg #[e,A],.agg #[D,F,G,I,J,L,M],v])) W):bodyPost pG O Q .ret a W:=by
 refine bodyPost_ret (v:=.tuple #[u,.agg #[e,A],.agg #[D,F,G,I,J,L,M],v]) ?_ hd h;have a0:a.tmps[p]?.getD undef=u:=by simpa using hp
 have a1:a.tmps[q]?.getD undef=.pointer (some ⟨z,0,none⟩):=by simpa using Y
 have a2:a.tmps[s]?.getD undef=.pointer (some ⟨d,0,none⟩):=by simpa using Z
 have a3:a.tmps[t]?.getD undef=v:=by simpa using ht
 simp[results,R,a0,a1,a2,a3,asAddr,WR W z _ _ _ (0,0) _ U underlying47 rfl bOd,WR W d _ _ _ (0,0) _ V underlying40 rfl bNo,Result.andThen]
theorem DkM.start {w:World} {C:Nat} {a:ByteArray} {d e A:Value} {room clock:Int} {P:List Prt} {H:List Hld} {D:List Rdr} {dec:Int} (I:OwR w C 103 5 d ((gU 0 P).map bG)) (J:OwR w C 113 3 e (H.map mX)) (L:OwR w C 116 7 A (D.map bK3)) (M:∀c,A.ownBlock=some c->(∀b,d.ownBlock=some b->b<c)/\∀b,e.ownBlock=some b->b<c) (hl:1<=D.length):
  ∃g cap T,A=.slice (some ⟨g,0,none⟩) D.length cap/\C<=g/\DkM (w.alloc (.cells #[.string a,d,.int .i64 room,.int .i64 clock,e,A,.int .i64 dec] 40)) (w.heap.size+1) w.heap.size g cap T a d e room clock P H D dec:=by
 have F:=bD (aH w.heap.size w) (.cells #[.string a,d,.int .i64 room,.int .i64 clock,e,A,.int .i64 dec] 40);have G:(w.alloc (.cells #[.string a,d,.int .i64 room,.int .i64 clock,e,A,.int .i64 dec] 40)).heap.size=w.heap.size+1:=fP _ _;have O:=Arr.new w 40 [.string a,d,.int .i64 room,.int .i64 clock,e,A,.int .i64 dec];have Z:=I.lt;have l2:=J.lt;have R:=L.lt;obtain⟨h0,h|⟨g,cap,a0,rfl,hg,hc,U,h2,h3,V⟩⟩:=id L
 ·rw[aS] at h;omega
 ·rw[aS] at U V O F G M R ⊢;have a1:=(R g rfl).2;have hR:Arr w g 116 ((D.map bK3).flatten++a0.toList.drop (D.length*7)):=by
   rw[<-V,List.take_append_drop];exact hc
  have Y:=M g rfl;refine⟨g,cap,_,rfl,hg,⟨O,hR.below F a1,?_,?_,by omega,⟨fun q=>?_,fun q=>?_⟩,⟨fun q=>?_,fun q=>?_⟩,⟨U,h2⟩,by omega,by omega,by omega⟩⟩
  ·have:=RdZ.of (I.rd.below F);rw[G] at this;exact this
  ·have:=RdZ.of (J.rd.below F);rw[G] at this;exact this
  ·have:=Y.1 g q;omega
  ·have:=Z _ q;omega
  ·have:=Y.2 g q;omega
  ·have:=l2 _ q;omega
structure StE (w W:World) (z:Nat) (l l2 y:List Value):Prop where
 d:Arr W z 40 l
 y:Arr W (z+1) 47 y
 o:Arr W (z+1+1) 40 l2
 b:Below w.heap.size w W
 s:w.heap.size=z
theorem StE.bel {w W A:World} {z:Nat} {l D y:List Value} (h:StE w W z l D y) (e:Below W.heap.size W A):StE w A z l D y:=
 ⟨h.d.below e h.d.lt,h.y.below e h.y.lt,h.o.below e h.o.lt,h.b.trans (e.mono (by have:=h.d.lt;have:=h.s;omega)),h.s⟩
theorem StE.start (w:World) (l d y:List Value):StE w (((w.alloc (.cells l.toArray 40)).alloc (.cells y.toArray 47)).alloc (.cells d.toArray 40)) w.heap.size l d y:=by
 have D:=((Arr.new w 40 l).alloc (.cells y.toArray 47)).alloc (.cells d.toArray 40);have e:=(Arr.new (w.alloc (.cells l.toArray 40)) 47 y).alloc (.cells d.toArray 40);have A:=Arr.new ((w.alloc (.cells l.toArray 40)).alloc (.cells y.toArray 47)) 40 d;rw[fP] at e;rw[fP,fP] at A;exact⟨D,e,A,bD (bD (bD (aH _ _) _) _) _,rfl⟩
def bOf (w:World) (a:ByteArray) (P:List Prt) (room:Int) (R:(Bool×ByteArray×Int)×Dk) (e:Ending) (w':World):Prop:=
 ∃v,e=.returned (.tuple #[.bool R.1.1,.agg #[.string R.1.2.1,.int .i64 R.1.2.2],v,.int .i64 0])/\RdD w' v a P room R.2/\Fr v w.heap.size/\Below w.heap.size w w'
theorem StE.low {w W A:World} {z B:Nat} {l D y:List Value} (h:StE w W z l D y) (e:Below B W A) (F:z+1+1<B):StE w A z l D y:=
 ⟨h.d.below e (by omega),h.y.below e (by omega),h.o.below e F,h.b.trans (e.mono (by have:=h.s;omega)),h.s⟩
theorem bLp {w w':World} {g n:Nat} {v:Value} {l:lC} (h:RdR w v l) (k:bK6 w w' g n) (A:v.ownBlock≠some g) (D:v.ownBlock≠some n):RdR w' v l:=by
 obtain⟨a,cap,rfl,F,G,I⟩:=h;refine⟨a,cap,rfl,F,G,I.imp id fun⟨b,off,e,d,J⟩=>⟨b,off,e,fB d k.size,fun j L=>?_⟩⟩;subst e;rw[World.cell?_of_block (a:=⟨b,off+j,none⟩) (k.same b d (fun q=>A (congrArg some q)) (fun q=>D (congrArg some q)))];exact J j L
theorem DkM.rr {W:World} {Z n g cap:Nat} {T:List Value} {a:ByteArray} {A D:Value} {room clock:Int} {P:List Prt} {H:List Hld} {d:List Rdr} {dec:Int} (h:DkM W Z n g cap T a A D room clock P H d dec):RdR W (.slice (some ⟨g,0,none⟩) d.length cap) (d.map bK3):=by
 refine⟨_,cap,by rw[aS],by rw[aS];exact h.cp.1,h.cp.2,.inr ⟨g,0,rfl,h.rds.lt,fun j e=>?_⟩⟩;rw[Nat.zero_add];exact h.rds.cell (by rw[List.getElem?_append_left e,List.getD_eq_getElem?_getD,aN e];rfl)
theorem StE.put {w W:World} {z:Nat} {l e y:List Value} (h:StE w W z l e y) (p:Addr) (A:z+1+1<p.block) (v:Value):StE w (W.setCell p v) z l e y:=
 ⟨h.d.other p (by omega) v,h.y.other p (by omega) v,h.o.other p (by omega) v,h.b.setCell (by have:=h.s;omega) v,h.s⟩
theorem StE.setRd {w W:World} {z g:Nat} {l A y:List Value} (h:StE w W z l A y) (d:z+1+1<g) (r:Nat) (s o m b e:Int) (D F:ByteArray):StE w (bMr W g r s o m b e D F) z l A y:=
 ((((((h.put ⟨g,r*7,none⟩ d _).put ⟨g,r*7+1,none⟩ d _).put ⟨g,r*7+2,none⟩ d _).put ⟨g,r*7+3,none⟩ d _).put ⟨g,r*7+4,none⟩ d _).put ⟨g,r*7+5,none⟩ d _).put ⟨g,r*7+6,none⟩ d _
abbrev bPm (W:World) (z:Nat) (X:ByteArray) (C:Int) (v0 v1 v2 v3 v4 v5 v6:Value):World:=(bLn ((W.setCell ⟨z+1,0,none⟩ (.string X)).setCell ⟨z+1,1,none⟩ (.int .i64 C)) (z+1+1) v0 v1 v2 v3 v4 v5 v6).drew
theorem bOg {w W W1:World} {z:Nat} {l:List Value} {d e A D F G I J L u0 u1 v0 v1 v2 v3 v4 v5 v6:Value} (E:StE w W z l [d,e,A,D,F,G,I] [J,L]) (M:W1=bLn ((W.setCell ⟨z+1,0,none⟩ u0).setCell ⟨z+1,1,none⟩ u1) (z+1+1) v0 v1 v2 v3 v4 v5 v6):
  Arr W1 (z+1) 47 [u0,u1]/\Arr W1 (z+1+1) 40 [v0,v1,v2,v3,v4,v5,v6]/\bK6 W W1 (z+1) (z+1+1)/\Below w.heap.size w W1:=by
 have V:=E.s;have k:=(((((((((bK6.of (z+1) (z+1+1) (aH W.heap.size W)).put ⟨z+1,0,none⟩ (.inl rfl) u0).put ⟨z+1,1,none⟩ (.inl rfl) u1).put ⟨z+1+1,0,none⟩ (.inr (.inl rfl)) v0).put ⟨z+1+1,1,none⟩ (.inr (.inl rfl)) v1).put ⟨z+1+1,2,none⟩ (.inr (.inl rfl)) v2).put ⟨z+1+1,3,none⟩ (.inr (.inl rfl)) v3).put ⟨z+1+1,4,none⟩ (.inr (.inl rfl)) v4).put ⟨z+1+1,5,none⟩ (.inr (.inl rfl)) v5).put ⟨z+1+1,6,none⟩ (.inr (.inl rfl)) v6;have O:=bM7 (y:=z+1+1) v0 v1 v2 v3 v4 v5 v6 ((E.y.set 0 u0).set 1 u1) (show z+1+1≠z+1 by omega)
 have R:=bLz v0 v1 v2 v3 v4 v5 v6 ((E.o.other ⟨z+1,0,none⟩ (show z+1≠z+1+1 by omega) u0).other ⟨z+1,1,none⟩ (show z+1≠z+1+1 by omega) u1);have U:=bL2 (y:=z+1+1) v0 v1 v2 v3 v4 v5 v6 ((E.b.setCell (p:=⟨z+1,0,none⟩) (show w.heap.size<=z+1 by omega) u0).setCell (p:=⟨z+1,1,none⟩) (show w.heap.size<=z+1 by omega) u1) (by omega);rw[M];exact⟨O,R,k,U⟩
theorem bPn {w W W1:World} {z Z n g cap C:Nat} {T:List Value} {a:ByteArray} {d e:Value} {room:Int} {P:List Prt} {S:Dk} {X:ByteArray} {c:Int} {l:List Value} {M O R U V Y x6 y0 y1:Value} (E:StE w W z l [M,O,R,U,V,Y,x6] [y0,y1]) (D:DkM W Z n g cap T a d e room S.clock P (byB S.Hs) S.Rs S.dec) (F:z+1+1<C) (G:∀b,d.ownBlock=some b->C<=b) (I:∀b,e.ownBlock=some b->C<=b) (J:C<=g)
  (L:W1=(bLn ((W.setCell ⟨z+1,0,none⟩ (.string X)).setCell ⟨z+1,1,none⟩ (.int .i64 c)) (z+1+1) (.string a) d (.int .i64 room) (.int .i64 S.clock) e (.slice (some ⟨g,0,none⟩) S.Rs.length cap) (.int .i64 S.dec))):Arr W1 (z+1) 47 [.string X,.int .i64 c]/\Arr W1 (z+1+1) 40 [.string a,d,.int .i64 room,.int .i64 S.clock,e,.slice (some ⟨g,0,none⟩) S.Rs.length cap,.int .i64 S.dec]/\RdD W1 (bLa a d room S.clock e (.slice (some ⟨g,0,none⟩) S.Rs.length cap) S.dec) a P room S/\Fr (bLa a d room S.clock e (.slice (some ⟨g,0,none⟩) S.Rs.length cap) S.dec) w.heap.size/\Below w.heap.size w W1:=by
 obtain⟨hy,ho,k,hb⟩:=bOg E L;clear L;have A:∀{v:Value},(∀b,v.ownBlock=some b->C<=b)->∀j,j<C->v.ownBlock≠some j:=fun h j hj q=>by have:=h j q;omega
 exact⟨hy,ho,⟨d,e,_,rfl,bLp D.ri.1 k (A G _ (by omega)) (A G _ F),bLp D.rh.1 k (A I _ (by omega)) (A I _ F),bLp D.rr k (A (fun b q=>by injection q with q;rw[<-q];exact J) _ (by omega)) (A (fun b q=>by injection q with q;rw[<-q];exact J) _ F)⟩,Fr.mk (fun b q=>by have:=G b q;have:=E.s;omega) (fun b q=>by have:=I b q;have:=E.s;omega) (fun b q=>by injection q with q;have:=E.s;rw[<-q];show w.heap.size<=g;omega),hb⟩
theorem bPo {I:Func} {w W:World} {d:Act} {z p q s t Z n g cap C J:Nat} {T:List Value} {a:ByteArray} {e A:Value} {room:Int} {P:List Prt} {S:Dk} {X:ByteArray} {c:Int} {L:Bool} {l:List Value} {M O R U V Y x6 y0 y1:Value} (a0:J=S.Rs.length) (hr:I.results=#[.tmp p,.cell q 47,.cell s 40,.tmp t]) (E:StE w W z l [M,O,R,U,V,Y,x6] [y0,y1]) (D:DkM W Z n g cap T a e A room S.clock P (byB S.Hs) S.Rs S.dec) (hz:z+1+1<C) (hi:∀b,e.ownBlock=some b->C<=b) (hh:∀b,A.ownBlock=some b->C<=b) (hg:C<=g)
  (hq:d.tmps.getD q undef=.pointer (some ⟨z+1,0,none⟩)) (hs:d.tmps.getD s undef=.pointer (some ⟨z+1+1,0,none⟩)) (hp:d.tmps.getD p undef=.bool L) (ht:d.tmps.getD t undef=.int .i64 0) (hd:d.defers=[]):
  bodyPost pG I (bOf w a P room ((L,X,c),S)) .ret d (bPm W z X c (.string a) e (.int .i64 room) (.int .i64 S.clock) A (.slice (some ⟨g,0,none⟩) J cap) (.int .i64 S.dec)):=by
 subst a0;obtain⟨F,G,a1,a2,hb⟩:=bPn (X:=X) (c:=c) E D hz hi hh hg rfl;rw[bPm];generalize bLn ((W.setCell ⟨z+1,0,none⟩ (.string X)).setCell ⟨z+1,1,none⟩ (.int .i64 c)) (z+1+1) (.string a) e (.int .i64 room) (.int .i64 S.clock) A (.slice (some ⟨g,0,none⟩) S.Rs.length cap) (.int .i64 S.dec)=W1 at*
 have F:Arr W1.drew _ _ _:=F;have G:Arr W1.drew _ _ _:=G;exact bOe hr F G hq hs hp ht hd ⟨_,rfl,a1.below (aH _ _).drew,a2,hb.drew⟩
theorem bR7 {w:World} {v:Value} {a:ByteArray} {P:List Prt} {room:Int} {S:Dk} (hd:RdD w v a P room S) (G:bK7 P room S) (b4:room<=11) (hc:S.clock<1099511627776) (b5:S.dec<1099511627776) (hE:dU w) (hs:a.size<=120000) (hP:∀p∈P,zP a.data.toList p) {r:Nat} (hr:r<S.Rs.length):
  Calls pG 17 #[v,.int .i64 (r:Int)] w (bOf w a P room (bLi P room S r)):=by
 obtain⟨ai,ni,ci,ah,nh,ch,ar,cr,rfl,r1,r2,r3⟩:=hd.open;have hC:=fun W h1 J L=>bNp a (.slice ai ni ci) (.slice ah nh ch) (.slice ar S.Rs.length cr) room S.clock S.dec (r:Int) P (byB S.Hs) S.Rs W h1 J L G.D
 rw[aA (by omega)] at hC;have c7:=NK P 0;have c8:=G.shelf.perm.length_eq;have c9:=G.shelf.len;have hO:=fun W h1 J L=>bPd a (.slice ai ni ci) (.slice ah nh ch) (.slice ar S.Rs.length cr) room S.clock S.dec (gU 0 P) (byB S.Hs) S.Rs W h1 J L (by have:=G.few;omega) (by omega) (by have:=G.r8;omega)
 have M:=StE.start w [.string a,.slice ai ni ci,.int .i64 room,.int .i64 S.clock,.slice ah nh ch,.slice ar S.Rs.length cr,.int .i64 S.dec] [.string ⟨#[]⟩,.slice none 0 0,.int .i64 0,.int .i64 0,.slice none 0 0,.slice none 0 0,.int .i64 0] [.string ⟨#[]⟩,.int .i64 0];obtain⟨y,hy⟩:∃y,S.Rs[r]? =some y:=⟨_,aN hr⟩;obtain⟨b7,b8,a7⟩:=bR6 G b4 hc b5 hs hP hy;have a8:=fun W=>bR5 y.st b7 W
 go_enter func17,ntmps17;go_wp2_with fail;refine(hC _ (r1.below M.b) (r2.below M.b) (r3.below M.b)).mono ?_;obtain⟨z,hz⟩:=ex1 (w.heap.size);rw[<-hz] at M ⊢;rintro e1 w2 ⟨rfl,J⟩;have A:=M.bel J;clear M J hC;have c0:=A.d.cell (i:=0) rfl;have c1:=A.d.cell (i:=1) rfl;have c2:=A.d.cell (i:=2) rfl;have c3:=A.d.cell (i:=3) rfl;have c4:=A.d.cell (i:=4) rfl;have c5:=A.d.cell (i:=5) rfl;have c6:=A.d.cell (i:=6) rfl;have HZ:=hid hz;clear hz;go_wp2_with fail;refine(hO _ (r1.below A.b) (r2.below A.b) (r3.below A.b)).mono ?_;rintro e1 I ⟨ui,uh,ur,rfl,V,Y,o3,a9,L⟩;have s3:=A.bel L;have l2:=A.o.lt
 clear hO c0 c1 c2 c3 c4 c5 c6 A L r1 r2 r3;obtain⟨g,cap,T,rfl,hg,O⟩:=DkM.start (a:=a) (room:=room) (clock:=S.clock) (dec:=S.dec) V Y o3 a9 G.r1;have l1:=V.lt;have b0:=Y.lt;obtain⟨a0,a1,rfl,-⟩:=V.rd.open (yG _) (by decide);obtain⟨a2,a3,rfl,-⟩:=Y.rd.open (bLd _) (by decide);obtain⟨a4,b1⟩:=ex1 (((gU 0 P).map bG).length);obtain⟨a5,Z⟩:=ex1 (((byB S.Hs).map mX).length);rw[<-b1] at O l1 ⊢;rw[<-Z] at O b0 ⊢
 have b2:=bD (aH I.heap.size I) (.cells #[.string a,.slice a0 a4 a1,.int .i64 room,.int .i64 S.clock,.slice a2 a5 a3,.slice (some ⟨g,0,none⟩) S.Rs.length cap,.int .i64 S.dec] 40);have s4:=s3.bel b2;have b9:w2.heap.size<=I.heap.size:=by have:=(o3.lt g rfl);omega
 clear V Y o3 a9 b2 s3 b1 Z;have d0:I.heap.size<(I.alloc (.cells #[.string a,.slice a0 a4 a1,.int .i64 room,.int .i64 S.clock,.slice a2 a5 a3,.slice (some ⟨g,0,none⟩) S.Rs.length cap,.int .i64 S.dec] 40)).heap.size:=by rw[fP];omega
 go_upto_region 5 with fail;generalize I.alloc (.cells #[.string a,.slice a0 a4 a1,.int .i64 room,.int .i64 S.clock,.slice a2 a5 a3,.slice (some ⟨g,0,none⟩) S.Rs.length cap,.int .i64 S.dec] 40)=w4 at*
 generalize I.heap.size=n at*
 have n5:=O.arr.cell (i:=5) rfl;have k0:w4.cell? ⟨g,r*7,none⟩=_:=O.cell hy (j:=0) rfl;have d1:(r:Int)<(S.Rs.length:Int):=by omega
 go_wp2_with fail;refine(a8 _).mono ?_;rintro e1 w5 ⟨rfl,h5⟩;have s5:=s4.bel h5;have D5:=O.bel h5;clear n5 k0 a8 s4 O h5;go_wp2_with fail;refine(a7 w5 _ n g cap T _ _ w2.heap.size D5 ⟨hg,b9⟩ (fun b q=>(b0 b q).1) (hE.below (HZ.out▸s5.b)) (by have:=hE.lt;have:=HZ.out;omega)).mono ?_;generalize bLi P room S r=R at*
 obtain⟨⟨bo,X,c⟩,S'⟩:=R;rintro e1 U ⟨vh,rfl,D6,b6,k6,b3⟩;dsimp only at D6;have s6:=s5.low b6 l2;obtain⟨d2,d3,rfl,-⟩:=D6.rh.1.open (bLd _) (by decide);obtain⟨d4,Z⟩:=ex1 (((byB S'.Hs).map mX).length);rw[<-Z] at D6 b3;dsimp only
 clear s5 D5 a7 b8 b6 k6 Z hy;have a6:=bD (aH U.heap.size U) (.cells #[.string X,.int .i64 c] 47);have hX:=Arr.new U 47 [.string X,.int .i64 c];change Arr (U.alloc (.cells #[.string X,.int .i64 c] 47)) _ _ _ at hX;have e:=s6.bel a6;have F:=D6.bel a6;clear s6 D6 a6;go_upto_region 6 with fail;generalize U.alloc (.cells #[.string X,.int .i64 c] 47)=w7 at*
 generalize U.heap.size=x7 at*
 have x0:=hX.cell (i:=0) rfl;have x1:=hX.cell (i:=1) rfl;have n0:=F.arr.cell (i:=0) rfl;have n1:=F.arr.cell (i:=1) rfl;have n2:=F.arr.cell (i:=2) rfl;have n3:=F.arr.cell (i:=3) rfl;have n4:=F.arr.cell (i:=4) rfl;have n5:=F.arr.cell (i:=5) rfl;have n6:=F.arr.cell (i:=6) rfl;have e0:=e.y.cell (i:=0) rfl;have e1:=e.y.cell (i:=1) rfl;have f0:=e.y.free 0;have f1:=e.y.free 1;have ly:=e.y.lt;have lo:=e.o.lt;have o0:=e.o.cell (i:=0) rfl;have p0:=e.o.free 0;have V:=e.o.cell (i:=1) rfl;have p1:=e.o.free 1;have Y:=e.o.cell (i:=2) rfl;have p2:=e.o.free 2;have o3:=e.o.cell (i:=3) rfl;have p3:=e.o.free 3
 have o4:=e.o.cell (i:=4) rfl;have p4:=e.o.free 4;have o5:=e.o.cell (i:=5) rfl;have p5:=e.o.free 5;have o6:=e.o.cell (i:=6) rfl;have p6:=e.o.free 6
 go_region
 go_wp2_with fail;exact bPo rfl rfl e F l2 (fun b q=>(l1 b q).1) b3 hg rfl rfl rfl rfl rfl
theorem bSa {w:World} {v:Value} {a:ByteArray} {P:List Prt} {room:Int} {S:Dk} (L:RdD w v a P room S) (M:bK7 P room S) (e3:room<=11) {r:Nat} (O:S.Rs[r]? =some bK8) (o m:Nat) (ho:o<=1000000000) (hm:m<1048576):
  Calls pG 16 #[v,.int .i64 (r:Int),.int .i64 (o:Int),.int .i64 (m:Int)] w (bOf w a P room (bLl P S r o m)):=by
 have hr:=(eF.1 O).1;obtain⟨U,V,Y,ah,nh,ch,ar,cr,rfl,r1,r2,r3⟩:=L.open;have hC:=fun W h1 h2 h3=>bNp a (.slice U V Y) (.slice ah nh ch) (.slice ar S.Rs.length cr) room S.clock S.dec (r:Int) P (byB S.Hs) S.Rs W h1 h2 h3 M.D
 rw[aA (by omega)] at hC;have e4:=NK P 0;have e5:=M.shelf.perm.length_eq;have e6:=M.shelf.len;have hO:=fun W h1 h2 h3=>bPd a (.slice U V Y) (.slice ah nh ch) (.slice ar S.Rs.length cr) room S.clock S.dec (gU 0 P) (byB S.Hs) S.Rs W h1 h2 h3 (by have:=M.few;omega) (by omega) (by have:=M.r8;omega)
 have s0:=StE.start w [.string a,.slice U V Y,.int .i64 room,.int .i64 S.clock,.slice ah nh ch,.slice ar S.Rs.length cr,.int .i64 S.dec] [.string ⟨#[]⟩,.slice none 0 0,.int .i64 0,.int .i64 0,.slice none 0 0,.slice none 0 0,.int .i64 0] [.string ⟨#[]⟩,.int .i64 0];have a8:=fun W h=>aKn (.slice U V Y) (gU 0 P) (o:Int) (m:Int) W h (by have:=M.few;omega) (by omega) (by omega) (by omega) (by omega)
 have d1:=fun W=>bPa o m W hm
 have b4:=fun W h=>bPe a (.slice U V Y) room S.clock S.dec ah ar nh ch S.Rs.length cr P o m W h M.right M.few M.size (by omega) (by omega)
 obtain⟨R,hR⟩:=ex1 (bLl P S r o m);rw[<-hR];unfold bLl at hR;generalize yF (gU 0 P) (o:Int) (m:Int)=Cv at*
 obtain⟨f,e⟩:=Cv;dsimp only at hR a8;obtain⟨CC,b5⟩:=ex1 (bLj (iH (P.map Prt.t)).size o m);rw[<-b5] at b4 hR;have HR:=hid hR;clear b5 hR;obtain⟨va,vc,ev,d2,-,b6⟩:=bNn r3;obtain⟨b,off,d3,d4,b7⟩:=b6 (by omega);obtain rfl:ar=va:=by injection ev
 subst d3;have b8:=(b7 r bK8 O).1;have e7:(r:Int)<(S.Rs.length:Int):=by omega
 clear b6 b7 ev d2;go_enter func16,ntmps16;go_wp2_with fail;refine(hC _ (r1.below s0.b) (r2.below s0.b) (r3.below s0.b)).mono ?_;obtain⟨z,hz⟩:=ex1 (w.heap.size);rw[<-hz] at s0 ⊢;rintro e1 w2 ⟨rfl,h2⟩;have J:=s0.bel h2;clear s0 h2 hC;have c0:=J.d.cell (i:=0) rfl;have c1:=J.d.cell (i:=1) rfl;have c2:=J.d.cell (i:=2) rfl;have c3:=J.d.cell (i:=3) rfl;have c4:=J.d.cell (i:=4) rfl;have c5:=J.d.cell (i:=5) rfl;have c6:=J.d.cell (i:=6) rfl;have k0:=(J.b.cell (p:=⟨b,off+r*7,none⟩) d4).trans b8;have HZ:=hid hz;clear hz b8;go_wp2_with fail;refine(d1 _).mono ?_;rintro e1 w2 ⟨rfl,rfl⟩
 go_wp2_with fail;refine(hO _ (r1.below J.b) (r2.below J.b) (r3.below J.b)).mono ?_;rintro e1 w3 ⟨ui,uh,ur,rfl,o1,o2,o3,b9,h3⟩;have s3:=J.bel h3;have l2:=J.o.lt;clear hO c0 c1 c2 c3 c4 c5 c6 h3 r2 r3 k0;obtain⟨g,cap,T,rfl,hg,D4⟩:=DkM.start (a:=a) (room:=room) (clock:=S.clock) (dec:=S.dec) o1 o2 o3 b9 M.r1;have l1:=o1.lt;have a9:=o2.lt;have d5:w2.heap.size<=w3.heap.size:=by have:=(o3.lt g rfl);omega
 obtain⟨a0,a1,rfl,-⟩:=o1.rd.open (yG _) (by decide);obtain⟨a2,a3,rfl,-⟩:=o2.rd.open (bLd _) (by decide);obtain⟨a4,c7⟩:=ex1 (((gU 0 P).map bG).length);obtain⟨a5,c8⟩:=ex1 (((byB S.Hs).map mX).length);rw[<-c7] at D4 l1 ⊢;rw[<-c8] at D4 a9 ⊢;have c9:=bD (aH w3.heap.size w3) (.cells #[.string a,.slice a0 a4 a1,.int .i64 room,.int .i64 S.clock,.slice a2 a5 a3,.slice (some ⟨g,0,none⟩) S.Rs.length cap,.int .i64 S.dec] 40);have s4:=s3.bel c9;clear o1 o2 o3 b9 c9 s3 c7 c8 J;go_upto_region 9 with fail
 generalize w3.alloc (.cells #[.string a,.slice a0 a4 a1,.int .i64 room,.int .i64 S.clock,.slice a2 a5 a3,.slice (some ⟨g,0,none⟩) S.Rs.length cap,.int .i64 S.dec] 40)=w4 at*
 generalize w3.heap.size=n at*
 have c1:=s4.d.cell (i:=1) rfl;go_wp2_with fail;refine(a8 _ (r1.below (HZ.out▸s4.b))).mono ?_;rintro e1 w5 ⟨rfl,h5⟩;have s5:=s4.bel h5;have G:=D4.bel h5;clear s4 D4 h5 a8 c1
 by_cases q:f<0
 ·have t1:decide (f<0)=true:=aG q;obtain rfl:R=((true,⟨#[]⟩,CC),S):=HR.out.trans (aB q);go_upto_region 11 with fail
  have Z:∀W:World,Arr W z 40 [.string a,.slice U V Y,.int .i64 room,.int .i64 S.clock,.slice ah nh ch,.slice (some ⟨b,off,none⟩) S.Rs.length cr,.int .i64 S.dec]->Arr W n 40 [.string a,.slice a0 a4 a1,.int .i64 room,.int .i64 S.clock,.slice a2 a5 a3,.slice (some ⟨g,0,none⟩) S.Rs.length cap,.int .i64 S.dec]->(fun F:World=>(F.cell? ⟨z,0,none⟩=some (.string a)/\F.cell? ⟨z,1,none⟩=some (.slice U V Y)/\F.cell? ⟨z,2,none⟩=some (.int .i64 room)/\F.cell? ⟨z,3,none⟩=some (.int .i64 S.clock)/\F.cell? ⟨z,4,none⟩=some (.slice ah nh ch)/\F.cell? ⟨z,5,none⟩=some (.slice (some ⟨b,off,none⟩) S.Rs.length cr)/\F.cell? ⟨z,6,none⟩=some (.int .i64 S.dec))/\F.cell? ⟨n,0,none⟩=some (.string a)/\F.cell? ⟨n,1,none⟩=some (.slice a0 a4 a1)/\F.cell? ⟨n,2,none⟩=some (.int .i64 room)/\F.cell? ⟨n,3,none⟩=some (.int .i64 S.clock)/\F.cell? ⟨n,4,none⟩=some (.slice a2 a5 a3)/\F.cell? ⟨n,5,none⟩=some (.slice (some ⟨g,0,none⟩) S.Rs.length cap)/\F.cell? ⟨n,6,none⟩=some (.int .i64 S.dec)) W:=fun W L hn=>
   ⟨⟨L.cell (i:=0) rfl,L.cell (i:=1) rfl,L.cell (i:=2) rfl,L.cell (i:=3) rfl,L.cell (i:=4) rfl,L.cell (i:=5) rfl,L.cell (i:=6) rfl⟩,hn.cell (i:=0) rfl,hn.cell (i:=1) rfl,hn.cell (i:=2) rfl,hn.cell (i:=3) rfl,hn.cell (i:=4) rfl,hn.cell (i:=5) rfl,hn.cell (i:=6) rfl⟩
  have L:=(aH w5.heap.size w5).drew;have s6:=s5.bel L;have D6:=G.bel L
  refine wp_region_held_drew (S:=(fun F:World=>(F.cell? ⟨z,0,none⟩=some (.string a)/\F.cell? ⟨z,1,none⟩=some (.slice U V Y)/\F.cell? ⟨z,2,none⟩=some (.int .i64 room)/\F.cell? ⟨z,3,none⟩=some (.int .i64 S.clock)/\F.cell? ⟨z,4,none⟩=some (.slice ah nh ch)/\F.cell? ⟨z,5,none⟩=some (.slice (some ⟨b,off,none⟩) S.Rs.length cr)/\F.cell? ⟨z,6,none⟩=some (.int .i64 S.dec))/\F.cell? ⟨n,0,none⟩=some (.string a)/\F.cell? ⟨n,1,none⟩=some (.slice a0 a4 a1)/\F.cell? ⟨n,2,none⟩=some (.int .i64 room)/\F.cell? ⟨n,3,none⟩=some (.int .i64 S.clock)/\F.cell? ⟨n,4,none⟩=some (.slice a2 a5 a3)/\F.cell? ⟨n,5,none⟩=some (.slice (some ⟨g,0,none⟩) S.Rs.length cap)/\F.cell? ⟨n,6,none⟩=some (.int .i64 S.dec))) (by kernel_rfl) (Z _ s6.d D6.arr) (fun d0=>?_)
  clear s5 G L;generalize w5.drew=w6 at*
  refine bKf [0,1,2,5] ?_
  iterate 4
   refine bKg (by simp only[gA,gH,gB];rfl) (by kernel_rfl) (by exact fun _ _ _ h=>h) (by first|exact gI ⟨by rfl,rfl⟩|(refine gJ ⟨by rfl,?_⟩;intro w' a6;(try dsimp only at a6);(try go_simp);try with_reducible rfl)) d0 ?_
   try simp only[bJ,bK,bH,bB]
  refine dJ (i:=3) (by kernel_rfl) rfl (fun K hK=>?_);go_simp;refine(b4 w6 (r1.below (HZ.out▸s6.b))).mono ?_;rintro e1 w7 ⟨rfl,h7⟩;have A:=s6.bel h7;have I:=D6.bel h7;have e8:z+1+1<n:=by have:=I.zn;have:=d5;omega
  (try go_wp2_with fail)
  refine hK.out _ _ (Z _ A.d I.arr) (fun _=>?_)
  try simp only[bJ,bK,bH,bB]
  clear hK K;refine fV 0 1 (by simp only[dB,aU,aV,cV,dC]<;>rfl) (by simp only[gA,gH,gB];rfl) (by kernel_rfl) (by exact fun _ _ _ h=>h) (by first|exact gI ⟨by rfl,rfl⟩|(refine gJ ⟨by rfl,?_⟩;intro w' a6;(try dsimp only at a6);(try go_simp);try with_reducible rfl)) (Z _ A.d I.arr) ?_
  try simp only[bJ,bK,bH,bB]
  refine fV 0 0 (by simp only[dB,aU,aV,cV,dC]<;>rfl) (by simp only[gA,gH,gB];rfl) (by kernel_rfl) (by exact fun _ _ _ h=>h) (by first|exact gI ⟨by rfl,rfl⟩|(refine gJ ⟨by rfl,?_⟩;intro w' a6;(try dsimp only at a6);(try go_simp);try with_reducible rfl)) (Z _ A.d I.arr) ?_
  try simp only[bJ,bK,bH,bB]
  have e0:=A.y.cell (i:=0) rfl;have e1:=A.y.cell (i:=1) rfl;have f0:=A.y.free 0;have f1:=A.y.free 1;have ly:=A.y.lt;have lo:=A.o.lt;have o0:=A.o.cell (i:=0) rfl;have p0:=A.o.free 0;have o1:=A.o.cell (i:=1) rfl;have p1:=A.o.free 1;have o2:=A.o.cell (i:=2) rfl;have p2:=A.o.free 2;have o3:=A.o.cell (i:=3) rfl;have p3:=A.o.free 3;have o4:=A.o.cell (i:=4) rfl;have p4:=A.o.free 4;have o5:=A.o.cell (i:=5) rfl;have p5:=A.o.free 5;have o6:=A.o.cell (i:=6) rfl;have p6:=A.o.free 6;refine dJ (i:=7) (by kernel_rfl) rfl (fun K hK=>?_);go_simp
  have b0:=(A.d.other ⟨z+1,0,none⟩ (show z+1≠z by omega) (.string ⟨#[]⟩)).other ⟨z+1,1,none⟩ (show z+1≠z by omega) (.int .i64 CC);have b1:=(I.arr.other ⟨z+1,0,none⟩ (show z+1≠n by omega) (.string ⟨#[]⟩)).other ⟨z+1,1,none⟩ (show z+1≠n by omega) (.int .i64 CC);refine hK.out _ _ (Z _ b0 b1) (fun _=>?_)
  try simp only[bJ,bK,bH,bB]
  clear hK K;refine dJ (i:=8) (by kernel_rfl) rfl (fun K hK=>?_);go_simp;have b2:=bM7 (y:=z+1+1) (.string a) (.slice a0 a4 a1) (.int .i64 room) (.int .i64 S.clock) (.slice a2 a5 a3) (.slice (some ⟨g,0,none⟩) S.Rs.length cap) (.int .i64 S.dec) b0 (show z+1+1≠z by omega);have b3:=bM7 (y:=z+1+1) (.string a) (.slice a0 a4 a1) (.int .i64 room) (.int .i64 S.clock) (.slice a2 a5 a3) (.slice (some ⟨g,0,none⟩) S.Rs.length cap) (.int .i64 S.dec) b1 (show z+1+1≠n by omega);refine hK.out _ _ (Z _ b2 b3) (fun _=>?_)
  try simp only[bJ,bK,bH,bB]
  clear hK K;refine fV 0 0 (by simp only[dB,aU,aV,cV,dC]<;>rfl) (by simp only[gA,gH,gB];rfl) (by kernel_rfl) (by exact fun _ _ _ h=>h) (by first|exact gI ⟨by rfl,rfl⟩|(refine gJ ⟨by rfl,?_⟩;intro w' a6;(try dsimp only at a6);(try go_simp);try with_reducible rfl)) (Z _ b2 b3) ?_
  try simp only[bJ,bK,bH,bB]
  refine wpAnyH_done (by kernel_rfl) ?_ _;obtain⟨d6,d7,d8,d9,e2⟩:=bPn (X:=⟨#[]⟩) (c:=CC) A I l2 (fun b q=>(l1 b q).1) (fun b q=>(a9 b q).1) hg rfl;clear d0 Z b0 b1 b2 b3 s6 D6 A I h7 e0 e1 f0 f1 ly lo o0 o1 o2 o3 o4 o5 o6 p0 p1 p2 p3 p4 p5 p6;go_wp2_with fail;exact bOe rfl d6 d7 rfl rfl rfl rfl rfl ⟨_,rfl,d8,d9,e2⟩
 ·have t1:decide (f<0)=false:=aE q;obtain rfl:=HR.out.trans (aA q);have k0:w5.cell? ⟨g,r*7,none⟩=_:=G.cell O (j:=0) rfl;have k1:=G.cell O (j:=1) rfl;have k2:=G.cell O (j:=2) rfl;have k3:=G.cell O (j:=3) rfl;have k4:=G.cell O (j:=4) rfl;have k5:=G.cell O (j:=5) rfl;have k6:=G.cell O (j:=6) rfl;have j0:=G.rds.free (r*7);have j1:=G.rds.free (r*7+1);have j2:=G.rds.free (r*7+2);have j3:=G.rds.free (r*7+3);have j4:=G.rds.free (r*7+4);have j5:=G.rds.free (r*7+5);have j6:=G.rds.free (r*7+6);have lg:=G.rds.lt;have n5:=G.arr.cell (i:=5) rfl;go_upto_region 13 with fail
  have I:=G.putR O 1 o m f e ⟨#[]⟩ ⟨#[]⟩;have A:=s5.setRd (fB l2 hg) r 1 o m f e ⟨#[]⟩ ⟨#[]⟩;clear k0 k1 k2 k3 k4 k5 k6 j0 j1 j2 j3 j4 j5 j6 lg n5 s5 G;unfold bMr at I A;generalize ((((((w5.setCell ⟨g,r*7,none⟩ (.int .i64 1)).setCell ⟨g,r*7+1,none⟩ (.int .i64 o)).setCell ⟨g,r*7+2,none⟩ (.int .i64 m)).setCell ⟨g,r*7+3,none⟩ (.int .i64 f)).setCell ⟨g,r*7+4,none⟩ (.int .i64 e)).setCell ⟨g,r*7+5,none⟩ (.string ⟨#[]⟩)).setCell ⟨g,r*7+6,none⟩ (.string ⟨#[]⟩)=w7 at*
  have n0:=I.arr.cell (i:=0) rfl;have n1:=I.arr.cell (i:=1) rfl;have n2:=I.arr.cell (i:=2) rfl;have n3:=I.arr.cell (i:=3) rfl;have n4:=I.arr.cell (i:=4) rfl;have n5:=I.arr.cell (i:=5) rfl;have n6:=I.arr.cell (i:=6) rfl;have e0:=A.y.cell (i:=0) rfl;have e1:=A.y.cell (i:=1) rfl;have f0:=A.y.free 0;have f1:=A.y.free 1;have ly:=A.y.lt;have lo:=A.o.lt;have o0:=A.o.cell (i:=0) rfl;have p0:=A.o.free 0;have o1:=A.o.cell (i:=1) rfl;have p1:=A.o.free 1;have o2:=A.o.cell (i:=2) rfl;have p2:=A.o.free 2;have o3:=A.o.cell (i:=3) rfl;have p3:=A.o.free 3;have o4:=A.o.cell (i:=4) rfl;have p4:=A.o.free 4
  have o5:=A.o.cell (i:=5) rfl;have p5:=A.o.free 5;have o6:=A.o.cell (i:=6) rfl;have p6:=A.o.free 6
  go_region
  go_wp2_with fail;exact bPo (S:=⟨S.clock,S.Hs,S.Rs.set r ⟨1,o,m,f,e,⟨#[]⟩,⟨#[]⟩⟩,S.dec⟩) (List.length_set).symm rfl A I l2 (fun b q=>(l1 b q).1) (fun b q=>(a9 b q).1) hg rfl rfl rfl rfl rfl
def bOj (w:World) (c:Int) (e:Ending) (w':World):Prop:=e=.returned (.tuple #[.bool false,.agg #[.string ⟨#[]⟩,.int .i64 0],.agg #[.string ⟨#[]⟩,.slice none 0 0,.int .i64 0,.int .i64 0,.slice none 0 0,.slice none 0 0,.int .i64 0],.int .i64 c])/\Below w.heap.size w w'
theorem bPu {e:Func} {w W:World} {d:Act} {z p q s t:Nat} {c:Int} {l:List Value} {A D F G I J L M O:Value} (R:e.results=#[.tmp p,.cell q 47,.cell s 40,.tmp t]) (E:StE w W z l [A,D,F,G,I,J,L] [M,O])
  (U:d.tmps.getD q undef=.pointer (some ⟨z+1,0,none⟩)) (V:d.tmps.getD s undef=.pointer (some ⟨z+1+1,0,none⟩)) (Y:d.tmps.getD p undef=.bool false) (Z:d.tmps.getD t undef=.int .i64 c) (hd:d.defers=[]):
  bodyPost pG e (bOj w c) .ret d (bLn ((W.setCell ⟨z+1,0,none⟩ (.string ⟨#[]⟩)).setCell ⟨z+1,1,none⟩ (.int .i64 0)) (z+1+1) (.string ⟨#[]⟩) (.slice none 0 0) (.int .i64 0) (.int .i64 0) (.slice none 0 0) (.slice none 0 0) (.int .i64 0)):=by
 obtain⟨hy,ho,-,hb⟩:=bOg E rfl;exact bOe R hy ho U V Y Z hd ⟨rfl,hb⟩
theorem bSb (m:Int) (w:World):Calls pG 53 #[.int .i64 (-1),.int .i64 m] w fun e w'=>e=.returned (.bool false)/\w'=w:=by
 go_enter func53,ntmps53;go_wp2_with fail;go_ret;exact⟨rfl,rfl⟩
theorem bSc {w:World} {v:Value} {a:ByteArray} {P:List Prt} {room:Int} {S:Dk} (Y:RdD w v a P room S) (Z:bK7 P room S) {r:Int} (I:r<0\/(S.Rs.length:Int)<=r):
  Calls pG 17 #[v,.int .i64 r] w (bOj w 5):=by
 obtain⟨J,L,M,O,R,ch,U,V,rfl,r1,r2,r3⟩:=Y.open;have F:=fun W h1 A h3=>bNp a (.slice J L M) (.slice O R ch) (.slice U S.Rs.length V) room S.clock S.dec r P (byB S.Hs) S.Rs W h1 A h3 Z.D
 rw[aB I] at F;have e:=StE.start w [.string a,.slice J L M,.int .i64 room,.int .i64 S.clock,.slice O R ch,.slice U S.Rs.length V,.int .i64 S.dec] [.string ⟨#[]⟩,.slice none 0 0,.int .i64 0,.int .i64 0,.slice none 0 0,.slice none 0 0,.int .i64 0] [.string ⟨#[]⟩,.int .i64 0];go_enter func17,ntmps17;go_wp2_with fail;refine(F _ (r1.below e.b) (r2.below e.b) (r3.below e.b)).mono ?_;obtain⟨z,G⟩:=ex1 (w.heap.size);rw[<-G] at e ⊢;have HZ:=hid G;clear G;rintro e1 w2 ⟨rfl,A⟩;have d:=e.bel A;clear e A F I;have e0:=d.y.cell (i:=0) rfl;have e1:=d.y.cell (i:=1) rfl;have f0:=d.y.free 0
 have f1:=d.y.free 1;have ly:=d.y.lt;have lo:=d.o.lt;have o0:=d.o.cell (i:=0) rfl;have p0:=d.o.free 0;have o1:=d.o.cell (i:=1) rfl;have p1:=d.o.free 1;have o2:=d.o.cell (i:=2) rfl;have p2:=d.o.free 2;have o3:=d.o.cell (i:=3) rfl;have p3:=d.o.free 3;have o4:=d.o.cell (i:=4) rfl;have p4:=d.o.free 4;have o5:=d.o.cell (i:=5) rfl;have p5:=d.o.free 5;have o6:=d.o.cell (i:=6) rfl;have p6:=d.o.free 6;go_wp2_with fail;exact bPu rfl d rfl rfl rfl rfl rfl
theorem bSd {w:World} {v:Value} {a:ByteArray} {P:List Prt} {room:Int} {S:Dk} (hd:RdD w v a P room S) (hS:bK7 P room S) {r:Nat} {y:Rdr} (M:S.Rs[r]? =some y) (O:y.st=0) (m:Int):
  Calls pG 16 #[v,.int .i64 (r:Int),.int .i64 (-1),.int .i64 m] w (bOj w 1):=by
 have hr:=(eF.1 M).1;obtain⟨R,U,V,Y,Z,ch,G,cr,rfl,r1,r2,r3⟩:=hd.open;have I:=fun W h1 F h3=>bNp a (.slice R U V) (.slice Y Z ch) (.slice G S.Rs.length cr) room S.clock S.dec (r:Int) P (byB S.Hs) S.Rs W h1 F h3 hS.D
 rw[aA (by omega)] at I;have hw:=fun W=>bSb m W
 have A:=StE.start w [.string a,.slice R U V,.int .i64 room,.int .i64 S.clock,.slice Y Z ch,.slice G S.Rs.length cr,.int .i64 S.dec] [.string ⟨#[]⟩,.slice none 0 0,.int .i64 0,.int .i64 0,.slice none 0 0,.slice none 0 0,.int .i64 0] [.string ⟨#[]⟩,.int .i64 0];obtain⟨va,vc,ev,a2,-,a0⟩:=bNn r3;obtain⟨b,off,a3,a4,a1⟩:=a0 (by omega);obtain rfl:G=va:=by injection ev
 subst a3;have J:=(a1 r y M).1;have a5:(r:Int)<(S.Rs.length:Int):=by omega
 clear a0 a1 ev a2;rw[O] at J;go_enter func16,ntmps16;go_wp2_with fail;refine(I _ (r1.below A.b) (r2.below A.b) (r3.below A.b)).mono ?_;obtain⟨z,L⟩:=ex1 (w.heap.size);rw[<-L] at A ⊢;rintro e1 w2 ⟨rfl,F⟩;have e:=A.bel F;clear A F I;have c5:=e.d.cell (i:=5) rfl;have k0:=(e.b.cell (p:=⟨b,off+r*7,none⟩) a4).trans J;have HZ:=hid L;clear L J O;have e0:=e.y.cell (i:=0) rfl;have e1:=e.y.cell (i:=1) rfl;have f0:=e.y.free 0;have f1:=e.y.free 1;have ly:=e.y.lt;have lo:=e.o.lt;have o0:=e.o.cell (i:=0) rfl;have p0:=e.o.free 0;have o1:=e.o.cell (i:=1) rfl;have p1:=e.o.free 1
 have o2:=e.o.cell (i:=2) rfl;have p2:=e.o.free 2;have o3:=e.o.cell (i:=3) rfl;have p3:=e.o.free 3;have o4:=e.o.cell (i:=4) rfl;have p4:=e.o.free 4;have o5:=e.o.cell (i:=5) rfl;have p5:=e.o.free 5;have o6:=e.o.cell (i:=6) rfl;have p6:=e.o.free 6;go_wp2_with fail;refine(hw _).mono ?_;rintro e1 w2 ⟨rfl,rfl⟩;go_wp2_with fail;exact bPu rfl e rfl rfl rfl rfl rfl
end Go.Proofs.YtfckbfofgeilgaaGreatDoor
