/-
  Texts put together (part 42): the walks and the plain laws on which the statement stands.
-/
import Derived.Test.YtfckbfofgeilgaaGreatDoorZ32
import Derived.Test.YtfckbfofgeilgaaGreatDoorZ41
set_option maxRecDepth 100000
set_option maxHeartbeats 12800000
set_option linter.unusedVariables false
set_option linter.unusedSimpArgs false
open Go.Proofs.Tryz
open Go.Proofs.Tryz renaming prog->pG
open And renaming intro->tK
open Go renaming bodyPost_ret->fM,run_loadVar_row->WR
open Go.RowKit.Below renaming refl->aH
open Go.World renaming size_alloc->fP
open Int renaming le_refl->lV
open List renaming length_replicate->AT,not_mem_nil->YB,replicate->aX
open List.Pairwise renaming nil->bNd
open Nat renaming le_refl->aD,succ_ne_self->bP8
namespace Go.Proofs.YtfckbfofgeilgaaGreatDoor
open Go.RowKit Go Go.Shelf
theorem bPv {O:Func} {Q:Ending->World->Prop} {W:World} {a:Act} {z d q s t:Nat} {e A D F G I J L M v:Value} (R:O.results=#[.cell q 47,.cell s 40,.tmp t]) (U:Arr W z 47 [e,A]) (V:Arr W d 40 [D,F,G,I,J,L,M]) (Y:a.tmps.getD q undef=.pointer (some ⟨z,0,none⟩)) (Z:a.tmps.getD s undef=.pointer (some ⟨d,0,none⟩)) (ht:a.tmps.getD t undef=v) (hd:a.defers=[])
  (h:Q (.returned (.tuple #[.agg #[e,A],.agg #[D,F,G,I,J,L,M],v])) W):bodyPost pG O Q .ret a W:=by
 refine fM (v:=.tuple #[.agg #[e,A],.agg #[D,F,G,I,J,L,M],v]) ?_ hd h;have a0:a.tmps[q]?.getD undef=.pointer (some ⟨z,0,none⟩):=by simpa using Y
 have a1:a.tmps[s]?.getD undef=.pointer (some ⟨d,0,none⟩):=by simpa using Z
 have a2:a.tmps[t]?.getD undef=v:=by simpa using ht
 simp[results,R,a0,a1,a2,asAddr,WR W z _ _ _ (0,0) _ U underlying47 rfl bOd,WR W d _ _ _ (0,0) _ V underlying40 rfl bNo,Result.andThen]
theorem bPw {w W W1:World} {z:Nat} {l:List Value} {A D F G I J L M O u0 u1 v0 v1 v2 v3 v4 v5 v6:Value} (E:StE w W z l [A,D,F,G,I,J,L] [M,O]) (e:W1=(bLn ((W.setCell ⟨z+1,0,none⟩ u0).setCell ⟨z+1,1,none⟩ u1) (z+1+1) v0 v1 v2 v3 v4 v5 v6).drew):
  Arr W1 (z+1) 47 [u0,u1]/\Arr W1 (z+1+1) 40 [v0,v1,v2,v3,v4,v5,v6]/\bK6 W W1 (z+1) (z+1+1)/\Below w.heap.size w W1:=by
 obtain⟨Z,d⟩:=ex1 (bLn ((W.setCell ⟨z+1,0,none⟩ u0).setCell ⟨z+1,1,none⟩ u1) (z+1+1) v0 v1 v2 v3 v4 v5 v6);obtain⟨R,U,V,Y⟩:=bOg E d;rw[<-d] at e;clear d;subst e;exact⟨R,U,V.drew,Y.drew⟩
theorem bSe {w W W1:World} {z A:Nat} {l D y:List Value} {F G I J L M O R U u0 u1 v0 v1 v2 v3 v4 v5 v6:Value} (E:StE w W z l D y) (V:Arr W A 47 [R,U]) (Y:Arr W (A+1) 40 [F,G,I,J,L,M,O]) (e:z+1+1<A) (Z:W1=bLn ((W.setCell ⟨A,0,none⟩ u0).setCell ⟨A,1,none⟩ u1) (A+1) v0 v1 v2 v3 v4 v5 v6):
  StE w W1 z l D y/\Arr W1 A 47 [u0,u1]/\Arr W1 (A+1) 40 [v0,v1,v2,v3,v4,v5,v6]/\bK6 W W1 A (A+1):=by
 have d:=Nat.lt_succ_of_lt e;have k:=(((((((((bK6.of A (A+1) (aH W.heap.size W)).put ⟨A,0,none⟩ (.inl rfl) u0).put ⟨A,1,none⟩ (.inl rfl) u1).put ⟨A+1,0,none⟩ (.inr (.inl rfl)) v0).put ⟨A+1,1,none⟩ (.inr (.inl rfl)) v1).put ⟨A+1,2,none⟩ (.inr (.inl rfl)) v2).put ⟨A+1,3,none⟩ (.inr (.inl rfl)) v3).put ⟨A+1,4,none⟩ (.inr (.inl rfl)) v4).put ⟨A+1,5,none⟩ (.inr (.inl rfl)) v5).put ⟨A+1,6,none⟩ (.inr (.inl rfl)) v6;have h1:=bM7 (y:=A+1) v0 v1 v2 v3 v4 v5 v6 ((V.set 0 u0).set 1 u1) (bP8 A)
 have h2:=bLz v0 v1 v2 v3 v4 v5 v6 ((Y.other ⟨A,0,none⟩ (bP8 A).symm u0).other ⟨A,1,none⟩ (bP8 A).symm u1);have h3:=((((((((E.put ⟨A,0,none⟩ e u0).put ⟨A,1,none⟩ e u1).put ⟨A+1,0,none⟩ d v0).put ⟨A+1,1,none⟩ d v1).put ⟨A+1,2,none⟩ d v2).put ⟨A+1,3,none⟩ d v3).put ⟨A+1,4,none⟩ d v4).put ⟨A+1,5,none⟩ d v5).put ⟨A+1,6,none⟩ d v6;rw[Z];exact⟨h3,h1,h2,k⟩
theorem dU.kept {W W1:World} {g n:Nat} (h:dU W) (k:bK6 W W1 g n) (d:0<g) (e:0<n):dU W1:=(World.cell?_of_block (a:=⟨0,0,none⟩) (k.same _ h.lt (by show 0≠g;omega) (by show 0≠n;omega))).trans h
def bSf (w:World) (a:ByteArray) (P:List Prt) (room:Int) (X:ByteArray) (c:Int) (S:Dk) (e:Ending) (w':World):Prop:=
 ∃v,e=.returned (.tuple #[.agg #[.string X,.int .i64 c],v,.int .i64 0])/\RdD w' v a P room S/\Fr v w.heap.size/\Below w.heap.size w w'
theorem bM0 {w:World} {v:Value} {a:ByteArray} {P:List Prt} {room:Int} {S:Dk} (hd:RdD w v a P room S) (hS:bK7 P room S) (c5:room<=11) (hc:S.clock+6000<1099511627776) (i3:S.dec+6000<1099511627776) (hE:dU w) (hs:a.size<=120000) (hP:∀p∈P,zP a.data.toList p) {r:Nat} (hy:S.Rs[r]? =some bK8) (o m:Nat) (ho:o<=1000000000) (hm:m<1048576):
  Calls pG 21 #[v,.int .i64 (r:Int),.int .i64 (o:Int),.int .i64 (m:Int)] w (bSf w a P room (bLq (iH (P.map Prt.t)) o m) (bLj (iH (P.map Prt.t)).size o m) (bLe P room S o m)):=by
 have hr:=(List.getElem?_eq_some_iff.1 hy).1;obtain⟨N,hN,b7⟩:=bPr hS hy o m;have c6:=bPs hS (r:=r) o m hm;have I:(bLl P S r o m).2.clock<=S.clock/\(bLl P S r o m).2.dec<=S.dec/\(bLl P S r o m).2.Rs.length=S.Rs.length:=by
  unfold bLl;split
  ·exact⟨lV _,lV _,rfl⟩
  ·exact⟨lV _,lV _,List.length_set⟩
 have c7:=hid I.2.2
 replace I:=tK I.1 I.2.1
 have i4:=hS.few;generalize bLe P room S o m=SF at*
 generalize bLq (iH (P.map Prt.t)) o m=XF at*
 generalize bLj (iH (P.map Prt.t)).size o m=CF at*
 have c8:=fun W (h:RdD W v a P room S)=>bSa h hS c5 hy o m ho hm
 generalize bLl P S r o m=R0 at*
 have c9:=hd;obtain⟨ai,ni,ci,ah,nh,ch,ar,cr,rfl,r1,r2,r3⟩:=hd.open;have d0:∀W,Below w.heap.size w W->RdD W (bLa a (.slice ai ni ci) room S.clock (.slice ah nh ch) (.slice ar S.Rs.length cr) S.dec) a P room S:=fun W b=>c9.below b
 have s0:=StE.start w [.string a,.slice ai ni ci,.int .i64 room,.int .i64 S.clock,.slice ah nh ch,.slice ar S.Rs.length cr,.int .i64 S.dec] [.string ⟨#[]⟩,.slice none 0 0,.int .i64 0,.int .i64 0,.slice none 0 0,.slice none 0 0,.int .i64 0] [.string ⟨#[]⟩,.int .i64 0];clear hd c9 r1 r2 r3;go_enter func21,ntmps21;go_wp2_with fail;refine(c8 _ (d0 _ s0.b)).mono ?_;obtain⟨z,hz⟩:=ex1 (w.heap.size);rw[<-hz] at s0 ⊢;have HZ:=hid hz;clear hz;rintro e1 w2 ⟨v1,rfl,d1,f1,h2⟩;have s2:=s0.bel h2;have lz:=s0.o.lt;obtain⟨O,U,V,Y,Z,a2,a3,a4,rfl,q1,q2,q3⟩:=d1.open;obtain⟨J,L,M⟩:=f1 _ _ _ _ _ _ _ rfl
 have d2:Fr (bLa a (.slice O U V) room R0.2.clock (.slice Y Z a2) (.slice a3 R0.2.Rs.length a4) R0.2.dec) (z+1+1+1):=Fr.mk (fun b q=>by have:=J b q;omega) (fun b q=>by have:=L b q;omega) (fun b q=>by have:=M b q;omega);clear J L M lz;clear s0 h2 c8 d0 d1 f1;obtain⟨⟨bo,X,c⟩,e⟩:=R0;dsimp only at q3 b7 c6 I c7 d2 ⊢;go_wp2_with fail;have a5:=bD (bD (aH w2.heap.size w2) (.cells #[.string X,.int .i64 c] 47)) (.cells #[.string a,.slice O U V,.int .i64 room,.int .i64 e.clock,.slice Y Z a2,.slice a3 e.Rs.length a4,.int .i64 e.dec] 40)
 have hA:=(Arr.new w2 47 [.string X,.int .i64 c]).alloc (.cells #[.string a,.slice O U V,.int .i64 room,.int .i64 e.clock,.slice Y Z a2,.slice a3 e.Rs.length a4,.int .i64 e.dec] 40);have hB:=Arr.new (w2.alloc (.cells #[.string X,.int .i64 c] 47)) 40 [.string a,.slice O U V,.int .i64 room,.int .i64 e.clock,.slice Y Z a2,.slice a3 e.Rs.length a4,.int .i64 e.dec];rw[fP] at hB;have s3:=s2.bel a5;have q1:=q1.below a5;have q2:=q2.below a5;have q3:=q3.below a5;have l2:=s2.o.lt;have b8:=hE.below s2.b;have f8:=b8.lt;have f9:=b8.below a5;clear s2 a5 hE b8
 change Arr ((w2.alloc (.cells #[.string X,.int .i64 c] 47)).alloc (.cells #[.string a,.slice O U V,.int .i64 room,.int .i64 e.clock,.slice Y Z a2,.slice a3 e.Rs.length a4,.int .i64 e.dec] 40)) _ _ [.string X,.int .i64 c] at hA;change Arr ((w2.alloc (.cells #[.string X,.int .i64 c] 47)).alloc (.cells #[.string a,.slice O U V,.int .i64 room,.int .i64 e.clock,.slice Y Z a2,.slice a3 e.Rs.length a4,.int .i64 e.dec] 40)) _ _ [.string a,.slice O U V,.int .i64 room,.int .i64 e.clock,.slice Y Z a2,.slice a3 e.Rs.length a4,.int .i64 e.dec] at hB
 generalize (w2.alloc (.cells #[.string X,.int .i64 c] 47)).alloc (.cells #[.string a,.slice O U V,.int .i64 room,.int .i64 e.clock,.slice Y Z a2,.slice a3 e.Rs.length a4,.int .i64 e.dec] 40)=w3 at*
 generalize w2.heap.size=A at*
 go_loopg [11,14] N (fun g g0 g4 wr=>∃(F:Nat) (R:(Bool×ByteArray×Int)×Dk) (bi bh br:Option Addr) (mi di mh dh dr:Nat),g=F/\F<=6000/\g0=.bool R.1.1/\g4=.int .i64 0/\Hid (bLr P room r F R=((true,XF,CF),SF))/\bK7 P room R.2/\(R.2.clock+F<1099511627776/\R.2.dec+F<1099511627776)/\Hid (R.2.Rs.length=S.Rs.length)/\dU wr/\StE w wr z [.string a,.slice ai ni ci,.int .i64 room,.int .i64 S.clock,.slice ah nh ch,.slice ar S.Rs.length cr,.int .i64 S.dec] [.string ⟨#[]⟩,.slice none 0 0,.int .i64 0,.int .i64 0,.slice none 0 0,.slice none 0 0,.int .i64 0] [.string ⟨#[]⟩,.int .i64 0]/\Arr wr A 47 [.string R.1.2.1,.int .i64 R.1.2.2]/\Arr wr (A+1) 40 [.string a,.slice bi mi di,.int .i64 room,.int .i64 R.2.clock,.slice bh mh dh,.slice br R.2.Rs.length dr,.int .i64 R.2.dec]/\(RdR wr (.slice bi mi di) ((gU 0 P).map bG)/\RdR wr (.slice bh mh dh) ((byB R.2.Hs).map mX)/\RdR wr (.slice br R.2.Rs.length dr) (R.2.Rs.map bK3))/\Fr (bLa a (.slice bi mi di) room R.2.clock (.slice bh mh dh) (.slice br R.2.Rs.length dr) R.2.dec) (z+1+1+1))
 case atStart=>exact⟨N,((bo,X,c),e),O,Y,a3,U,V,Z,a2,a4,rfl,by omega,rfl,rfl,hid b7,c6,by dsimp only;omega,c7,f9,s3,hA,hB,⟨q1,q2,q3⟩,d2⟩
 case round=>
  obtain⟨F,R,d3,d5,d6,d7,d8,d9,e2,e3,b9,i5,rfl,rfl,HR,a6,e4,HL,c0,d,a7,G,⟨p1,p2,p3⟩,c1⟩:=hrel;have g5:r<R.2.Rs.length:=by rw[HL.out];exact hr
  have g6:=hid b9;clear b9;have c3:RdD wr (bLa a (.slice d3 d7 d8) room R.2.clock (.slice d5 d9 e2) (.slice d6 R.2.Rs.length e3) R.2.dec) a P room R.2:=⟨_,_,_,rfl,p1,p2,p3⟩;have a8:=fun h1 h2=>bR7 c3 a6 c5 h1 h2 c0 hs hP g5
  obtain⟨⟨g7,X',c'⟩,S'⟩:=R;dsimp only at e4 HL a7 G p1 p2 p3 c1 a8;have b0:=G.cell (i:=0) rfl;have b1:=G.cell (i:=1) rfl;have b2:=G.cell (i:=2) rfl;have b3:=G.cell (i:=3) rfl;have b4:=G.cell (i:=4) rfl;have b5:=G.cell (i:=5) rfl;have b6:=G.cell (i:=6) rfl
  cases g7 with
  |true=>
   have c4:=HR.out;rw[bR8 rfl] at c4;obtain⟨⟨rfl,rfl⟩,rfl⟩:(X'=XF/\c'=CF)/\S'=SF:=by
    injection c4 with h1 h2
    injection h1 with h3 h4
    injection h4 with h5 h6
    exact⟨⟨h5,h6⟩,h2⟩
   have a0:=a7.cell (i:=0) rfl;have a1:=a7.cell (i:=1) rfl;have e0:=d.y.cell (i:=0) rfl;have e1:=d.y.cell (i:=1) rfl;have f0:=d.y.free 0;have f1:=d.y.free 1;have ly:=d.y.lt;have lo:=d.o.lt;have o0:=d.o.cell (i:=0) rfl;have j0:=d.o.free 0;have o1:=d.o.cell (i:=1) rfl;have j1:=d.o.free 1;have o2:=d.o.cell (i:=2) rfl;have j2:=d.o.free 2;have o3:=d.o.cell (i:=3) rfl;have j3:=d.o.free 3;have o4:=d.o.cell (i:=4) rfl;have j4:=d.o.free 4;have o5:=d.o.cell (i:=5) rfl;have j5:=d.o.free 5;have o6:=d.o.cell (i:=6) rfl;have j6:=d.o.free 6;clear a8 c3 HR c4 a6 b7;go_wp2_with fail
   go_region
   go_wp2_with fail;obtain⟨hy,ho,k,hb⟩:=bPw d (u0:=.string X') (u1:=.int .i64 c') (v0:=.string a) (v1:=.slice d3 d7 d8) (v2:=.int .i64 room) (v3:=.int .i64 S'.clock) (v4:=.slice d5 d9 e2) (v5:=.slice d6 S'.Rs.length e3) (v6:=.int .i64 S'.dec) rfl;obtain⟨J,L,M⟩:=c1 _ _ _ _ _ _ _ rfl;have i6:=d.s
   exact bPv rfl hy ho rfl rfl rfl rfl ⟨_,rfl,⟨_,_,_,rfl,bLp p1 k (fun q=>by have:=J _ q;omega) (fun q=>by have:=J _ q;omega),bLp p2 k (fun q=>by have:=L _ q;omega) (fun q=>by have:=L _ q;omega),bLp p3 k (fun q=>by have:=M _ q;omega) (fun q=>by have:=M _ q;omega)⟩,Fr.mk (fun b q=>by have:=J b q;omega) (fun b q=>by have:=L b q;omega) (fun b q=>by have:=M b q;omega),hb⟩
  |false=>
   cases F with
   |zero=>exact absurd HR.out (by unfold bLr;intro h;injection h with h;injection h with h;cases h)
   |succ F=>
    have hn:=HR.out;rw[bNb rfl rfl] at hn;have HN:=hid hn;have a6:bK7 P room S':=a6;have I:=bPt (P:=P) (room:=room) S' r;have e5:=a6.step r (by omega) (by omega);have a8:=a8 (by omega) (by omega);clear hn HR;go_wp2_with fail;refine a8.mono ?_;rintro e1 w4 ⟨v4,rfl,d4,f4,h4⟩;obtain⟨e6,e7,e8,e9,f2,f3,f5,f6,rfl,q1,q2,q3⟩:=d4.open;have s7:=d.bel h4;have a9:=a7.below h4 a7.lt;have D:=G.below h4 G.lt;have g8:=c0.below h4;have f7:=hid (I.2.2.trans HL.out)
    replace I:=tK I.1 I.2.1
    have i7:S'.clock+((F+1:Nat):Int)<1099511627776/\S'.dec+((F+1:Nat):Int)<1099511627776:=e4;have i8:=G.lt;obtain⟨J,L,M⟩:=f4 _ _ _ _ _ _ _ rfl;generalize bLi P room S' r=R2 at*
    obtain⟨⟨g9,X2,c2⟩,S2⟩:=R2;dsimp only at q3 I HN e5 f7 ⊢;have a0:=a9.cell (i:=0) rfl;have a1:=a9.cell (i:=1) rfl;have e0:=a9.free 0;have e1:=a9.free 1;have lA:=a9.lt;have lB:=D.lt;have o0:=D.cell (i:=0) rfl;have j0:=D.free 0;have o1:=D.cell (i:=1) rfl;have j1:=D.free 1;have o2:=D.cell (i:=2) rfl;have j2:=D.free 2;have o3:=D.cell (i:=3) rfl;have j3:=D.free 3;have o4:=D.cell (i:=4) rfl;have j4:=D.free 4;have o5:=D.cell (i:=5) rfl;have j5:=D.free 5;have o6:=D.cell (i:=6) rfl;have j6:=D.free 6;clear a7 G d h4 c0 c3 b7 HL a8 f4 a6 c1 p1 p2 p3 b0 b1 b2 b3 b4 b5 b6;go_wp2_with fail
    obtain⟨s8,i0,i1,k⟩:=bSe s7 a9 D l2 (u0:=.string X2) (u1:=.int .i64 c2) (v0:=.string a) (v1:=.slice e6 e7 e8) (v2:=.int .i64 room) (v3:=.int .i64 S2.clock) (v4:=.slice e9 f2 f3) (v5:=.slice f5 S2.Rs.length f6) (v6:=.int .i64 S2.dec) rfl;have i2:=g8.kept k f8 (by omega);have b9:=g6.out
    go_roundg F
    ·exact⟨F,((g9,X2,c2),S2),e6,e9,f5,e7,e8,f2,f3,f6,rfl,by omega,rfl,rfl,HN,e5,by dsimp only;omega,f7,i2,s8,i0,i1,⟨bLp q1 k (fun q=>by have:=J _ q;omega) (fun q=>by have:=J _ q;omega),bLp q2 k (fun q=>by have:=L _ q;omega) (fun q=>by have:=L _ q;omega),bLp q3 k (fun q=>by have:=M _ q;omega) (fun q=>by have:=M _ q;omega)⟩,Fr.mk (fun b q=>by have:=J b q;omega) (fun b q=>by have:=L b q;omega) (fun b q=>by have:=M b q;omega)⟩
    ·omega
theorem bSg (n:Nat) (h:n<=8):madeCells #[.int .i64 0,.int .i64 0,.int .i64 0,.int .i64 0,.int .i64 0,.string ⟨#[]⟩,.string ⟨#[]⟩] (n*7)=(((aX n bK8).map bK3).flatten).toArray:=by
 refine Array.toList_inj.1 ?_;rcases(show n=0\/n=1\/n=2\/n=3\/n=4\/n=5\/n=6\/n=7\/n=8 by omega) with rfl|rfl|rfl|rfl|rfl|rfl|rfl|rfl|rfl<;>kernel_rfl
theorem bSh (n:Nat) (h:n<=8) (W:World):(Instr.makeSlice 38 (.int .i64 (n:Int)) (.int .i64 (n:Int))).run pG W=.ok (.slice (some ⟨W.heap.size,0,none⟩) n n) (W.alloc (.cells (((aX n bK8).map bK3).flatten).toArray 116)):=by
 obtain⟨i,d,e,A,D⟩:=bN9.info;have F:(i.bytes:Int)*(n:Int)<=281474976710656:=by rw[D];omega
 have:=run_make (P:=pG) W 38 116 i _ bN9.under d e .i64 .i64 (n:Int) (n:Int) (by omega) (lV _) F (by omega);rw[A,Int.toNat_natCast] at this;rw[<-bSg n h];exact this
def bLk (n:Nat):Dk:=⟨0,[],aX n bK8,0⟩
theorem bPx {P:List Prt} {room:Int} {n:Nat} (A:jA (gU 0 P)) (D:P.length<=2000) (F:(iH (P.map Prt.t)).size<=1000000000) (d:1<=room/\room<=64) (e:1<=n/\n<=8):bK7 P room (bLk n):=
 ⟨A,D,F,⟨d,⟨lV _,by show(0:Int)<=1099511627776;decide⟩,by show(0:Int)<=room;omega,bNd,fun _ h=>absurd h YB,bNd⟩,fun _ h=>absurd h YB,by rw[bLk,AT];exact e.1,by rw[bLk,AT];exact e.2,lV _,by show(0:Int)<=1099511627776;decide,fun r d=>.inl (List.eq_of_mem_replicate d)⟩
theorem bMj {d:Func} {Q:Ending->World->Prop} {W:World} {a:Act} {z p q:Nat} {e A D F G I J u:Value} (L:d.results=#[.cell p 40,.tmp q]) (M:Arr W z 40 [e,A,D,F,G,I,J]) (O:a.tmps.getD p undef=.pointer (some ⟨z,0,none⟩)) (R:a.tmps.getD q undef=u) (U:a.defers=[])
  (h:Q (.returned (.tuple #[.agg #[e,A,D,F,G,I,J],u])) W):bodyPost pG d Q .ret a W:=by
 refine fM (uS L _ _ z _ _ (0,0) _ O M underlying40 rfl bNo) U ?_;rw[R];exact h
theorem bPy {w:World} {z:Nat} {v:Value} {l:List Ent} (G:Arr w z 40 [.string ⟨#[]⟩,.slice none 0 0,.int .i64 0,.int .i64 0,.slice none 0 0,.slice none 0 0,.int .i64 0]) (h:RdR w v (l.map bG)):v.ownBlock≠some z\/l=[]:=by
 cases l with
 |nil=>exact .inr rfl
 |cons x l=>
  refine .inl fun q=>?_
  obtain⟨a,cap,rfl,-,-,I⟩:=nS h;obtain⟨b,off,rfl,-,J⟩:=I (Nat.succ_pos _)
  injection q with q
  obtain rfl:b=z:=q;obtain⟨d,e,A,D,F⟩:=J 0 x rfl;rw[Nat.zero_mul,Nat.add_zero] at d e A D F;rw[cell_of_row w b _ _ _ (0,0) G] at d e A D F
  match off with
  |0=>cases d
  |1=>cases d
  |2=>cases A
  |3=>cases e
  |4=>cases d
  |5=>cases d
  |6=>cases e
  |k+7=>simp at d
theorem bSi {W:World} {g e n:Nat} (h:Arr W g e ((aX n (bK3 bK8)).flatten)) (A:n<=8):RdR W (.slice (some ⟨g,0,none⟩) n n) ((aX n bK8).map bK3):=by
 rw[List.map_replicate];refine⟨_,n,by rw[AT],by rw[AT];exact aD _,by unfold maxLen;omega,.inr ⟨g,0,rfl,h.lt,fun j d=>?_⟩⟩;rw[Nat.zero_add];exact h.cell (by rw[List.getD_eq_getElem?_getD,List.getElem?_eq_getElem d];rfl)
def bMk (w:World) (a:ByteArray) (P:List Prt) (room A E:Int) (e:Ending) (w':World):Prop:=
 (∃v,e=.returned (.tuple #[v,.int .i64 E])/\(E≠0->v=.agg #[.string ⟨#[]⟩,.slice none 0 0,.int .i64 0,.int .i64 0,.slice none 0 0,.slice none 0 0,.int .i64 0])/\(E=0->∃d vr,v=bLa a d room 0 (.slice none 0 0) vr 0/\RdR w' d ((gU 0 P).map bG)/\RdR w' vr ((aX A.toNat bK8).map bK3)/\∀b,vr.ownBlock=some b->w.heap.size<=b))/\Below w.heap.size w w'
theorem bPz (a:ByteArray) (P:List Prt) (room M:Int) (f:Nat) (cs:Array Value) (w:World) (E:Int) (hr:1<=room/\room<=64) (hn:1<=M/\M<=8) (eg:∀args w,(callFunc f args).run pG w=.ok (.enter f args) w)
  (hf:∀W,Below w.heap.size w W->Calls pG f cs W fun e w'=>∃D F G,e=.returned (.tuple #[.slice D F G,.int .i64 E])/\(E=0->RdR w' (.slice D F G) ((gU 0 P).map bG))/\Below W.heap.size W w'):
  Calls pG 44 #[.string a,.int .i64 room,.int .i64 M,.func (.func f) #[] cs] w (bMk w a P room M E):=by
 have hN:=fun W=>bQf room W hr.1 hr.2
 obtain⟨n,rfl⟩:∃n:Nat,M=(n:Int):=⟨M.toNat,by omega⟩;have t1:decide ((n:Int)<1)=false:=aE (by omega);have t2:decide ((n:Int)>8)=false:=aE (by omega);have b2:decide (8<(n:Int))=false:=aE (by omega);have b3:decide (n<1)=false:=aE (by omega);have b4:decide (8<n)=false:=aE (by omega);have a7:=bD (aH w.heap.size w) (.cells #[.string ⟨#[]⟩,.slice none 0 0,.int .i64 0,.int .i64 0,.slice none 0 0,.slice none 0 0,.int .i64 0] 40);have V:=Arr.new w 40 [.string ⟨#[]⟩,.slice none 0 0,.int .i64 0,.int .i64 0,.slice none 0 0,.slice none 0 0,.int .i64 0]
 change Arr (w.alloc (.cells #[.string ⟨#[]⟩,.slice none 0 0,.int .i64 0,.int .i64 0,.slice none 0 0,.slice none 0 0,.int .i64 0] 40)) _ _ _ at V;go_enter func44,ntmps44;go_wp2_with fail;generalize w.alloc (.cells #[.string ⟨#[]⟩,.slice none 0 0,.int .i64 0,.int .i64 0,.slice none 0 0,.slice none 0 0,.int .i64 0] 40)=w1 at*
 refine(hN _).mono ?_;rintro e1 O ⟨rfl,R⟩;have a9:=aW a7 R;have Y:=V.below R V.lt;clear V R hN a7;have a2:=bD (aH O.heap.size O) (.cells #[.int .i64 room,.int .i64 0,.slice none 0 0] 37);have Z:=Arr.new O 37 [.int .i64 room,.int .i64 0,.slice none 0 0];change Arr (O.alloc (.cells #[.int .i64 room,.int .i64 0,.slice none 0 0] 37)) _ _ _ at Z;have a0:=Y.below a2 Y.lt;have a3:=aW a9 a2;have lx:=Y.lt;clear Y a2;go_upto_region 4 with fail;generalize O.alloc (.cells #[.int .i64 room,.int .i64 0,.slice none 0 0] 37)=w3 at*
 generalize O.heap.size=y at*
 obtain⟨z,hz⟩:=ex1 (w.heap.size);have HZ:=hid hz;have a8:=hf w3 a3;rw[<-hz] at a0 lx ⊢;clear hz hf;go_wp2_with fail;refine a8.mono ?_;rintro e1 A ⟨D,F,G,rfl,a4,h4⟩;have d:=a0.below h4 a0.lt;have a1:=Z.below h4 Z.lt;have a5:=aW a3 h4;clear a0 Z a3 h4 a8;have e0:=d.cell (i:=0) rfl;have e1:=d.cell (i:=1) rfl;have e2:=d.cell (i:=2) rfl;have e3:=d.cell (i:=3) rfl;have e4:=d.cell (i:=4) rfl;have e5:=d.cell (i:=5) rfl;have e6:=d.cell (i:=6) rfl;have f0:=d.free 0;have f1:=d.free 1;have f2:=d.free 2;have f3:=d.free 3;have f4:=d.free 4;have f5:=d.free 5;have f6:=d.free 6;have lz:=d.lt
 by_cases I:E=0
 ·have u1:(E != 0)=false:=by rw[I];rfl
  have c0:=a1.cell (i:=0) rfl;have c1:=a1.cell (i:=1) rfl;have c2:=a1.cell (i:=2) rfl;have ly:=a1.lt;have b5:=bSh n (by omega);go_upto_region 7 with fail
  go_region
  go_wp2_with fail;obtain⟨W1,U⟩:=ex1 (bLn A z (.string a) (.slice D F G) (.int .i64 room) (.int .i64 0) (.slice none 0 0) (.slice (some ⟨A.heap.size,0,none⟩) n n) (.int .i64 0));have k:bK6 A W1 z z:=by
   rw[U];exact(((((((bK6.of z z (aH A.heap.size A)).put ⟨z,0,none⟩ (.inl rfl) _).put ⟨z,1,none⟩ (.inl rfl) _).put ⟨z,2,none⟩ (.inl rfl) _).put ⟨z,3,none⟩ (.inl rfl) _).put ⟨z,4,none⟩ (.inl rfl) _).put ⟨z,5,none⟩ (.inl rfl) _).put ⟨z,6,none⟩ (.inl rfl) _
  have b0:W1.heap.size=A.heap.size:=by rw[U];simp only[World.size_setCell]
  have J:=bLz (.string a) (.slice D F G) (.int .i64 room) (.int .i64 0) (.slice none 0 0) (.slice (some ⟨A.heap.size,0,none⟩) n n) (.int .i64 0) d;have L:=bL2 (y:=z) (.string a) (.slice D F G) (.int .i64 room) (.int .i64 0) (.slice none 0 0) (.slice (some ⟨A.heap.size,0,none⟩) n n) (.int .i64 0) a5 (by have:=HZ.out;omega);rw[<-U] at J L;change bodyPost _ _ _ _ _ ((World.alloc (bLn A z (.string a) (.slice D F G) (.int .i64 room) (.int .i64 0) (.slice none 0 0) (.slice (some ⟨A.heap.size,0,none⟩) n n) (.int .i64 0)) _).drew);rw[<-U];clear U
  have a6:=(bD (aH W1.heap.size W1) (.cells (aX n (bK3 bK8)).flatten.toArray 116)).drew;have hR:Arr (W1.alloc (.cells (aX n (bK3 bK8)).flatten.toArray 116)).drew W1.heap.size 116 ((aX n (bK3 bK8)).flatten):=Arr.new W1 116 _;rw[b0] at hR;have J:=J.below a6 J.lt;have k:=k.bel a6;have L:=L.trans (a6.mono (by have:=k.size;have:=L.size;omega));generalize (W1.alloc (.cells (aX n (bK3 bK8)).flatten.toArray 116)).drew=W2 at*
  refine bMj (u:=.int .i64 0) rfl J rfl rfl rfl ⟨⟨bLa a (.slice D F G) room 0 (.slice none 0 0) (.slice (some ⟨A.heap.size,0,none⟩) n n) 0,by rw[I],fun h=>absurd I h,fun _=>⟨_,_,rfl,?_,bSi hR (by omega),fun b q=>by injection q with q;have:=a5.size;rw[<-q];exact this⟩⟩,L⟩;rcases bPy d (a4 I) with q|q
  ·exact bLp (a4 I) k q q
  ·have:=a4 I;rw[q] at this ⊢;obtain⟨a',b1,e',h1,R,-⟩:=this;exact⟨a',b1,e',h1,R,.inl rfl⟩
 ·have u1:(E != 0)=true:=bne_iff_ne.2 I;go_wp2_with fail;have J:=bLz (.string ⟨#[]⟩) (.slice none 0 0) (.int .i64 0) (.int .i64 0) (.slice none 0 0) (.slice none 0 0) (.int .i64 0) d;have L:=bL2 (y:=z) (.string ⟨#[]⟩) (.slice none 0 0) (.int .i64 0) (.int .i64 0) (.slice none 0 0) (.slice none 0 0) (.int .i64 0) a5 (by have:=HZ.out;omega);exact bMj rfl J rfl rfl rfl ⟨⟨_,rfl,fun _=>rfl,fun h=>absurd h I⟩,L⟩
theorem bMk.ok {w w':World} {a:ByteArray} {P:List Prt} {room d:Int} {e:Ending} (h:bMk w a P room d 0 e w'):∃v,e=.returned (.tuple #[v,.int .i64 0])/\RdD w' v a P room (bLk d.toNat)/\Below w.heap.size w w':=by
 obtain⟨⟨v,A,-,D⟩,F⟩:=h;obtain⟨G,vr,rfl,I,J,-⟩:=D rfl;exact⟨_,A,⟨G,_,vr,rfl,I,RdR.nil _,J⟩,F⟩
theorem bMk.no {w w':World} {a:ByteArray} {P:List Prt} {room d E:Int} {e:Ending} (h:bMk w a P room d E e w') (A:E≠0):e=.returned (.tuple #[.agg #[.string ⟨#[]⟩,.slice none 0 0,.int .i64 0,.int .i64 0,.slice none 0 0,.slice none 0 0,.int .i64 0],.int .i64 E])/\Below w.heap.size w w':=by
 obtain⟨⟨v,D,F,-⟩,G⟩:=h;obtain rfl:=F A;exact⟨D,G⟩
theorem bP0 {w W W1:World} {z n A D d:Nat} {a:ByteArray} {P:List Prt} {room:Int} {F e:Option Addr} {l:lC} (L:Arr W z 40 [.string ⟨#[]⟩,.slice none 0 0,.int .i64 0,.int .i64 0,.slice none 0 0,.slice none 0 0,.int .i64 0]) (R:w.heap.size<=z) (G:Below w.heap.size w W) (I:RdR W (.slice F A D) ((gU 0 P).map bG)) (U:RdR W (.slice e n d) l) (M:∀b,(Value.slice e n d).ownBlock=some b->z<b)
  (J:W1=bLn W z (.string a) (.slice F A D) (.int .i64 room) (.int .i64 0) (.slice none 0 0) (.slice e n d) (.int .i64 0)):Arr W1 z 40 [.string a,.slice F A D,.int .i64 room,.int .i64 0,.slice none 0 0,.slice e n d,.int .i64 0]/\RdR W1 (.slice F A D) ((gU 0 P).map bG)/\RdR W1 (.slice e n d) l/\Below w.heap.size w W1:=by
 have k:bK6 W W1 z z:=by
  rw[J];exact(((((((bK6.of z z (aH W.heap.size W)).put ⟨z,0,none⟩ (.inl rfl) _).put ⟨z,1,none⟩ (.inl rfl) _).put ⟨z,2,none⟩ (.inl rfl) _).put ⟨z,3,none⟩ (.inl rfl) _).put ⟨z,4,none⟩ (.inl rfl) _).put ⟨z,5,none⟩ (.inl rfl) _).put ⟨z,6,none⟩ (.inl rfl) _
 have O:=bLz (.string a) (.slice F A D) (.int .i64 room) (.int .i64 0) (.slice none 0 0) (.slice e n d) (.int .i64 0) L;have G:=bL2 (y:=z) (.string a) (.slice F A D) (.int .i64 room) (.int .i64 0) (.slice none 0 0) (.slice e n d) (.int .i64 0) G R;rw[<-J] at O G;clear J;refine⟨O,?_,bLp U k (fun q=>by have:=M _ q;omega) (fun q=>by have:=M _ q;omega),G⟩;rcases bPy L I with q|q
 ·exact bLp I k q q
 ·rw[q] at I ⊢;obtain⟨V,Y,Z,i1,i2,-⟩:=I;exact⟨V,Y,Z,i1,i2,.inl rfl⟩
theorem bSj (a:ByteArray) (z:Nat) (w:World) (G:Arr w z 9 [.string a]) (I:dU w) (J:a.size<=120000):
  Calls pG 45 #[.pointer (some ⟨z,0,none⟩)] w fun e w'=>∃d D A,e=.returned (.tuple #[.slice d D A,.int .i64 (cI a.data.toList).2])/\((cI a.data.toList).2=0->RdR w' (.slice d D A) ((gU 0 (eY a.data.toList)).map bG))/\Below w.heap.size w w':=by
 have O:=G.cell (i:=0) rfl;have L:=GK a w I J;generalize (cI a.data.toList).2=E at*
 generalize eY a.data.toList=P at*
 go_enter func45,ntmps45;go_wp2_with fail;refine L.mono ?_;rintro e R ⟨v,rfl,F,M⟩;obtain⟨d,A,rfl,-⟩:=nS F;go_wp2_with fail
 go_ret2
 exact⟨_,_,_,rfl,fun _=>F,M⟩
theorem bSk (a s:ByteArray) (z:Nat) (w:World) (I:Arr w z 9 [.string a]) (J:Arr w (z+1) 9 [.string s]) (L:dU w) (M:a.size<=120000) (O:s.size<=1000000):
  Calls pG 46 #[.pointer (some ⟨z,0,none⟩),.pointer (some ⟨z+1,0,none⟩)] w fun e w'=>∃d D A,e=.returned (.tuple #[.slice d D A,.int .i64 (vF a.data.toList s.data.toList)])/\(vF a.data.toList s.data.toList=0->RdR w' (.slice d D A) ((gU 0 (eY a.data.toList)).map bG))/\Below w.heap.size w w':=by
 have V:=I.cell (i:=0) rfl;have Y:=J.cell (i:=0) rfl;have R:=bHc a s w L O M;generalize vF a.data.toList s.data.toList=E at*
 generalize eY a.data.toList=P at*
 go_enter func46,ntmps46;go_wp2_with fail;refine R.mono ?_;rintro e Z ⟨v,rfl,F,U⟩;have G:=F;obtain⟨d,A,rfl,-⟩:=nS F;generalize (if E=0 then gU 0 P else[]).length=N at*
 go_wp2_with fail
 go_ret2
 exact⟨_,_,_,rfl,fun h=>by rw[aB h] at G;exact G,U⟩
theorem bOk (a:ByteArray) (room e:Int) (w:World) (hE:dU w) (hs:a.size<=120000) (hr:1<=room/\room<=64) (hn:1<=e/\e<=8):
  Calls pG 13 #[.string a,.int .i64 room,.int .i64 e] w (bMk w a (eY a.data.toList) room e (cI a.data.toList).2):=by
 have G:=bD (bD (aH w.heap.size w) (.cells #[.string a] 9)) (.cells #[.string ⟨#[]⟩,.slice none 0 0,.int .i64 0,.int .i64 0,.slice none 0 0,.slice none 0 0,.int .i64 0] 40);have F:=(Arr.new w 9 [.string a]).alloc (.cells #[.string ⟨#[]⟩,.slice none 0 0,.int .i64 0,.int .i64 0,.slice none 0 0,.slice none 0 0,.int .i64 0] 40);have A:=Arr.new (w.alloc (.cells #[.string a] 9)) 40 [.string ⟨#[]⟩,.slice none 0 0,.int .i64 0,.int .i64 0,.slice none 0 0,.slice none 0 0,.int .i64 0];rw[fP] at A
 change Arr ((w.alloc (.cells #[.string a] 9)).alloc (.cells #[.string ⟨#[]⟩,.slice none 0 0,.int .i64 0,.int .i64 0,.slice none 0 0,.slice none 0 0,.int .i64 0] 40)) _ _ _ at F A;have M:=fun W b=>bSj a w.heap.size W (F.below b F.lt) ((hE.below G).below b) hs
 have O:=bPz a (eY a.data.toList) room e 45 #[.pointer (some ⟨w.heap.size,0,none⟩)] _ (cI a.data.toList).2 hr hn (enters_of func45 (by kernel_rfl) rfl) M;generalize (cI a.data.toList).2=E at*
 generalize eY a.data.toList=P at*
 clear M F;go_enter func13,ntmps13;go_wp2_with fail;refine O.mono ?_;rintro e1 w2 ⟨⟨v,rfl,v0,v1⟩,I⟩;have d:=A.below I A.lt;have lx:=A.lt;have R:=aW G I;clear O A I G;have U:w.heap.size<=(w.heap.size+1):=by omega
 generalize (w.heap.size+1)=z at*
 have e0:=d.cell (i:=0) rfl;have e1:=d.cell (i:=1) rfl;have e2:=d.cell (i:=2) rfl;have e3:=d.cell (i:=3) rfl;have e4:=d.cell (i:=4) rfl;have e5:=d.cell (i:=5) rfl;have e6:=d.cell (i:=6) rfl;have f0:=d.free 0;have f1:=d.free 1;have f2:=d.free 2;have f3:=d.free 3;have f4:=d.free 4;have f5:=d.free 5;have f6:=d.free 6;have lz:=d.lt
 by_cases D:E=0
 ·obtain⟨vi,vr,rfl,V,Y,Z⟩:=v1 D;obtain⟨ai,ci,rfl,-⟩:=V.open (yG _) (by decide);obtain⟨ar,cr,rfl,-⟩:=Y.open (bL1 _) (by decide);generalize ((gU 0 P).map bG).length=ni at*
  generalize a0:((aX e.toNat bK8).map bK3).length=nr at*
  clear a0 v0 v1;go_wp2_with fail;obtain⟨J,r1,r2,L⟩:=bP0 (a:=a) (room:=room) d U R V Y (fun b q=>by have:=Z b q;omega) rfl;exact bMj (u:=.int .i64 0) rfl J rfl rfl rfl ⟨⟨bLa a (.slice ai ni ci) room 0 (.slice none 0 0) (.slice ar nr cr) 0,by rw[D],fun h=>absurd D h,fun _=>⟨_,_,rfl,r1,r2,fun b q=>by have:=Z b q;omega⟩⟩,L⟩
 ·obtain rfl:=v0 D;go_wp2_with fail;have J:=bLz (.string ⟨#[]⟩) (.slice none 0 0) (.int .i64 0) (.int .i64 0) (.slice none 0 0) (.slice none 0 0) (.int .i64 0) d;have L:=bL2 (y:=z) (.string ⟨#[]⟩) (.slice none 0 0) (.int .i64 0) (.int .i64 0) (.slice none 0 0) (.slice none 0 0) (.int .i64 0) R U;exact bMj rfl J rfl rfl rfl ⟨⟨_,rfl,fun _=>rfl,fun h=>absurd h D⟩,L⟩
theorem bSl (a s:ByteArray) (room e:Int) (w:World) (hE:dU w) (hs:a.size<=120000) (a0:s.size<=1000000) (hr:1<=room/\room<=64) (hn:1<=e/\e<=8):
  Calls pG 14 #[.string a,.string s,.int .i64 room,.int .i64 e] w (bMk w a (eY a.data.toList) room e (vF a.data.toList s.data.toList)):=by
 have I:=bD (bD (bD (aH w.heap.size w) (.cells #[.string a] 9)) (.cells #[.string s] 9)) (.cells #[.string ⟨#[]⟩,.slice none 0 0,.int .i64 0,.int .i64 0,.slice none 0 0,.slice none 0 0,.int .i64 0] 40);have G:=((Arr.new w 9 [.string a]).alloc (.cells #[.string s] 9)).alloc (.cells #[.string ⟨#[]⟩,.slice none 0 0,.int .i64 0,.int .i64 0,.slice none 0 0,.slice none 0 0,.int .i64 0] 40);have D:=(Arr.new (w.alloc (.cells #[.string a] 9)) 9 [.string s]).alloc (.cells #[.string ⟨#[]⟩,.slice none 0 0,.int .i64 0,.int .i64 0,.slice none 0 0,.slice none 0 0,.int .i64 0] 40)
 have A:=Arr.new ((w.alloc (.cells #[.string a] 9)).alloc (.cells #[.string s] 9)) 40 [.string ⟨#[]⟩,.slice none 0 0,.int .i64 0,.int .i64 0,.slice none 0 0,.slice none 0 0,.int .i64 0];rw[fP,fP] at A;rw[fP] at D;change Arr (((w.alloc (.cells #[.string a] 9)).alloc (.cells #[.string s] 9)).alloc (.cells #[.string ⟨#[]⟩,.slice none 0 0,.int .i64 0,.int .i64 0,.slice none 0 0,.slice none 0 0,.int .i64 0] 40)) _ _ _ at G D A;have O:=fun W b=>bSk a s w.heap.size W (G.below b G.lt) (D.below b D.lt) ((hE.below I).below b) hs a0
 have R:=bPz a (eY a.data.toList) room e 46 #[.pointer (some ⟨w.heap.size,0,none⟩),.pointer (some ⟨w.heap.size+1,0,none⟩)] _ (vF a.data.toList s.data.toList) hr hn (enters_of func46 (by kernel_rfl) rfl) O;generalize vF a.data.toList s.data.toList=E at*
 generalize eY a.data.toList=P at*
 clear O G D;go_enter func14,ntmps14;go_wp2_with fail;refine R.mono ?_;rintro e1 w2 ⟨⟨v,rfl,v0,v1⟩,J⟩;have d:=A.below J A.lt;have lx:=A.lt;have U:=aW I J;clear R A J I;have V:w.heap.size<=(w.heap.size+1+1):=by omega
 generalize (w.heap.size+1+1)=z at*
 have e0:=d.cell (i:=0) rfl;have e1:=d.cell (i:=1) rfl;have e2:=d.cell (i:=2) rfl;have e3:=d.cell (i:=3) rfl;have e4:=d.cell (i:=4) rfl;have e5:=d.cell (i:=5) rfl;have e6:=d.cell (i:=6) rfl;have f0:=d.free 0;have f1:=d.free 1;have f2:=d.free 2;have f3:=d.free 3;have f4:=d.free 4;have f5:=d.free 5;have f6:=d.free 6;have lz:=d.lt
 by_cases F:E=0
 ·obtain⟨vi,vr,rfl,Y,Z,i3⟩:=v1 F;obtain⟨ai,ci,rfl,-⟩:=Y.open (yG _) (by decide);obtain⟨ar,cr,rfl,-⟩:=Z.open (bL1 _) (by decide);generalize ((gU 0 P).map bG).length=ni at*
  generalize a1:((aX e.toNat bK8).map bK3).length=nr at*
  clear a1 v0 v1;go_wp2_with fail;obtain⟨L,r1,r2,M⟩:=bP0 (a:=a) (room:=room) d V U Y Z (fun b q=>by have:=i3 b q;omega) rfl;exact bMj (u:=.int .i64 0) rfl L rfl rfl rfl ⟨⟨bLa a (.slice ai ni ci) room 0 (.slice none 0 0) (.slice ar nr cr) 0,by rw[F],fun h=>absurd F h,fun _=>⟨_,_,rfl,r1,r2,fun b q=>by have:=i3 b q;omega⟩⟩,M⟩
 ·obtain rfl:=v0 F;go_wp2_with fail;have L:=bLz (.string ⟨#[]⟩) (.slice none 0 0) (.int .i64 0) (.int .i64 0) (.slice none 0 0) (.slice none 0 0) (.int .i64 0) d;have M:=bL2 (y:=z) (.string ⟨#[]⟩) (.slice none 0 0) (.int .i64 0) (.int .i64 0) (.slice none 0 0) (.slice none 0 0) (.int .i64 0) U V;exact bMj rfl L rfl rfl rfl ⟨⟨_,rfl,fun _=>rfl,fun h=>absurd h F⟩,M⟩
theorem bSm (room:Int) (w:World) (h:room<1\/64<room):
  Calls pG 82 #[.int .i64 room] w fun e w'=>e=.returned (.tuple #[.agg #[.int .i64 0,.int .i64 0,.slice none 0 0],.int .i64 1])/\Below w.heap.size w w':=by
 have J:=fun W=>bOq (.slice none 0 0) room 0 W h
 have D:=(Arr.new w 37 [.int .i64 0,.int .i64 0,.slice none 0 0]).alloc (.cells #[.int .i64 room,.int .i64 0,.slice none 0 0] 37);have A:=Arr.new (w.alloc (.cells #[.int .i64 0,.int .i64 0,.slice none 0 0] 37)) 37 [.int .i64 room,.int .i64 0,.slice none 0 0];rw[fP] at A;change Arr ((w.alloc (.cells #[.int .i64 0,.int .i64 0,.slice none 0 0] 37)).alloc (.cells #[.int .i64 room,.int .i64 0,.slice none 0 0] 37)) _ _ _ at D A;have L:=bD (bD (aH w.heap.size w) (.cells #[.int .i64 0,.int .i64 0,.slice none 0 0] 37)) (.cells #[.int .i64 room,.int .i64 0,.slice none 0 0] 37)
 go_enter func82,ntmps82;go_wp2_with fail;generalize (w.alloc (.cells #[.int .i64 0,.int .i64 0,.slice none 0 0] 37)).alloc (.cells #[.int .i64 room,.int .i64 0,.slice none 0 0] 37)=R at*
 refine(J _).mono ?_;rintro e U ⟨rfl,F⟩;have d:=D.below F D.lt;have G:=A.below F A.lt;have M:=aW L F;obtain⟨z,I⟩:=ex1 (w.heap.size);rw[<-I] at d G ⊢;have O:=hid I;have V:=G.cell (i:=0) rfl;have Y:=G.cell (i:=1) rfl;have Z:=G.cell (i:=2) rfl;have e0:=d.cell (i:=0) rfl;have e1:=d.cell (i:=1) rfl;have e2:=d.cell (i:=2) rfl;have f0:=d.free 0;have f1:=d.free 1;have f2:=d.free 2;clear I J D A L F;go_wp2_with fail
 exact bOr rfl (((d.set 0 _).set 1 _).set 2 _) rfl rfl rfl ⟨rfl,by rw[<-O.out] at M ⊢;exact((M.setCell (p:=⟨z,0,none⟩) (aD _) _).setCell (p:=⟨z,1,none⟩) (aD _) _).setCell (p:=⟨z,2,none⟩) (aD _) _⟩
theorem bSn (a:ByteArray) (room O:Int) (w:World) (hr:room<1\/64<room):
  Calls pG 13 #[.string a,.int .i64 room,.int .i64 O] w fun e w'=>e=.returned (.tuple #[.agg #[.string ⟨#[]⟩,.slice none 0 0,.int .i64 0,.int .i64 0,.slice none 0 0,.slice none 0 0,.int .i64 0],.int .i64 1])/\Below w.heap.size w w':=by
 have R:∀(f:Nat) (U:Array Value) (W:World),Calls pG 44 #[.string a,.int .i64 room,.int .i64 O,.func (.func f) #[] U] W fun e w'=>e=.returned (.tuple #[.agg #[.string ⟨#[]⟩,.slice none 0 0,.int .i64 0,.int .i64 0,.slice none 0 0,.slice none 0 0,.int .i64 0],.int .i64 1])/\Below W.heap.size W w':=fun f U W=>by
  have Y:=fun V=>bSm room V hr
  have Z:=bD (aH W.heap.size W) (.cells #[.string ⟨#[]⟩,.slice none 0 0,.int .i64 0,.int .i64 0,.slice none 0 0,.slice none 0 0,.int .i64 0] 40);have A:=Arr.new W 40 [.string ⟨#[]⟩,.slice none 0 0,.int .i64 0,.int .i64 0,.slice none 0 0,.slice none 0 0,.int .i64 0];change Arr (W.alloc (.cells #[.string ⟨#[]⟩,.slice none 0 0,.int .i64 0,.int .i64 0,.slice none 0 0,.slice none 0 0,.int .i64 0] 40)) _ _ _ at A;go_enter func44,ntmps44;go_wp2_with fail;refine(Y _).mono ?_;rintro I G ⟨rfl,D⟩;have J:=A.below D A.lt;have a0:=aW Z D
  have L:=bD (aH G.heap.size G) (.cells #[.int .i64 0,.int .i64 0,.slice none 0 0] 37);have d:=J.below L J.lt;have M:=aW a0 L;clear A D Y Z J L a0;go_upto_region 2 with fail;generalize G.alloc (.cells #[.int .i64 0,.int .i64 0,.slice none 0 0] 37)=w3 at*
  obtain⟨z,F⟩:=ex1 (W.heap.size);rw[<-F] at d ⊢;have HZ:=hid F;clear F;have e0:=d.cell (i:=0) rfl;have I:=d.cell (i:=1) rfl;have e2:=d.cell (i:=2) rfl;have e3:=d.cell (i:=3) rfl;have e4:=d.cell (i:=4) rfl;have e5:=d.cell (i:=5) rfl;have e6:=d.cell (i:=6) rfl;have f0:=d.free 0;have f1:=d.free 1;have f2:=d.free 2;have f3:=d.free 3;have f4:=d.free 4;have f5:=d.free 5;have f6:=d.free 6;have lz:=d.lt;go_wp2_with fail;exact bMj rfl (bLz _ _ _ _ _ _ _ d) rfl rfl rfl ⟨rfl,bL2 _ _ _ _ _ _ _ M (by have:=HZ.out;omega)⟩
 have b0:=bD (bD (aH w.heap.size w) (.cells #[.string a] 9)) (.cells #[.string ⟨#[]⟩,.slice none 0 0,.int .i64 0,.int .i64 0,.slice none 0 0,.slice none 0 0,.int .i64 0] 40);have A:=Arr.new (w.alloc (.cells #[.string a] 9)) 40 [.string ⟨#[]⟩,.slice none 0 0,.int .i64 0,.int .i64 0,.slice none 0 0,.slice none 0 0,.int .i64 0];rw[fP] at A;change Arr ((w.alloc (.cells #[.string a] 9)).alloc (.cells #[.string ⟨#[]⟩,.slice none 0 0,.int .i64 0,.int .i64 0,.slice none 0 0,.slice none 0 0,.int .i64 0] 40)) _ _ _ at A;go_enter func13,ntmps13;go_wp2_with fail
 refine(R _ _ _).mono ?_;rintro I G ⟨rfl,D⟩;have d:=A.below D A.lt;have M:=aW b0 D;have F:w.heap.size<=w.heap.size+1:=by omega
 generalize w.heap.size+1=z at*
 clear R A D b0;have e0:=d.cell (i:=0) rfl;have I:=d.cell (i:=1) rfl;have e2:=d.cell (i:=2) rfl;have e3:=d.cell (i:=3) rfl;have e4:=d.cell (i:=4) rfl;have e5:=d.cell (i:=5) rfl;have e6:=d.cell (i:=6) rfl;have f0:=d.free 0;have f1:=d.free 1;have f2:=d.free 2;have f3:=d.free 3;have f4:=d.free 4;have f5:=d.free 5;have f6:=d.free 6;have lz:=d.lt;go_wp2_with fail;exact bMj rfl (bLz _ _ _ _ _ _ _ d) rfl rfl rfl ⟨rfl,bL2 _ _ _ _ _ _ _ M F⟩
theorem bSo (w:World):Calls pG 15 #[.agg #[.string ⟨#[]⟩,.slice none 0 0,.int .i64 0,.int .i64 0,.slice none 0 0,.slice none 0 0,.int .i64 0]] w fun e w'=>e=.returned (.bool false)/\Below w.heap.size w w':=by
 have A:=fun W=>DB (.slice none 0 0) [] W (RdR.nil W) (by decide)
 have L:=fun W=>bOq (.slice none 0 0) 0 0 W (by decide)
 have I:=bD (aH w.heap.size w) (.cells #[.string ⟨#[]⟩,.slice none 0 0,.int .i64 0,.int .i64 0,.slice none 0 0,.slice none 0 0,.int .i64 0] 40);have d:=Arr.new w 40 [.string ⟨#[]⟩,.slice none 0 0,.int .i64 0,.int .i64 0,.slice none 0 0,.slice none 0 0,.int .i64 0];change Arr (w.alloc (.cells #[.string ⟨#[]⟩,.slice none 0 0,.int .i64 0,.int .i64 0,.slice none 0 0,.slice none 0 0,.int .i64 0] 40)) _ _ _ at d;generalize decide (jA [])=B at A;go_enter func15,ntmps15;go_wp2_with fail
 generalize w.alloc (.cells #[.string ⟨#[]⟩,.slice none 0 0,.int .i64 0,.int .i64 0,.slice none 0 0,.slice none 0 0,.int .i64 0] 40)=R at*
 obtain⟨z,D⟩:=ex1 (w.heap.size);rw[<-D] at d ⊢;have U:=hid D;clear D;refine(A _).mono ?_;rintro e V ⟨rfl,F⟩;have G:=d.below F d.lt;have J:=aW I F;have Y:=G.cell (i:=2) rfl;have Z:=G.cell (i:=3) rfl;have c4:=G.cell (i:=4) rfl
 cases B with
 |false=>
  go_wp2_with fail;go_ret;exact⟨rfl,J⟩
 |true=>
  clear A d F I;go_wp2_with fail;refine(L _).mono ?_;rintro e w3 ⟨rfl,M⟩;have O:=aW J M;go_wp2_with fail;go_ret;exact⟨rfl,O⟩
theorem bSp {w:World} {v:Value} {a:ByteArray} {P:List Prt} {room:Int} {S:Dk} (I:RdD w v a P room S) (hS:bK7 P room S) {r:Nat} {y:Rdr} (J:S.Rs[r]? =some y) (a4:y.st=0) (m:Int):
  Calls pG 21 #[v,.int .i64 (r:Int),.int .i64 (-1),.int .i64 m] w fun e w'=>e=.returned (.tuple #[.agg #[.string ⟨#[]⟩,.int .i64 0],.agg #[.string ⟨#[]⟩,.slice none 0 0,.int .i64 0,.int .i64 0,.slice none 0 0,.slice none 0 0,.int .i64 0],.int .i64 1])/\Below w.heap.size w w':=by
 have R:=fun W (h:RdD W v a P room S)=>bSd h hS J a4 m
 have U:=I;obtain⟨V,Y,Z,ah,nh,ch,ar,cr,rfl,r1,r2,r3⟩:=I.open;have a2:∀W,Below w.heap.size w W->RdD W (bLa a (.slice V Y Z) room S.clock (.slice ah nh ch) (.slice ar S.Rs.length cr) S.dec) a P room S:=fun W b=>U.below b
 have G:=StE.start w [.string a,.slice V Y Z,.int .i64 room,.int .i64 S.clock,.slice ah nh ch,.slice ar S.Rs.length cr,.int .i64 S.dec] [.string ⟨#[]⟩,.slice none 0 0,.int .i64 0,.int .i64 0,.slice none 0 0,.slice none 0 0,.int .i64 0] [.string ⟨#[]⟩,.int .i64 0];clear I U r1 r2 r3;go_enter func21,ntmps21;go_wp2_with fail;refine(R _ (a2 _ G.b)).mono ?_;obtain⟨z,L⟩:=ex1 (w.heap.size);rw[<-L] at G ⊢;have HZ:=hid L;clear L;rintro e1 F ⟨rfl,h2⟩;have M:=G.bel h2;clear G h2 R a2;go_wp2_with fail
 have a3:=bD (bD (aH F.heap.size F) (.cells #[.string ⟨#[]⟩,.int .i64 0] 47)) (.cells #[.string ⟨#[]⟩,.slice none 0 0,.int .i64 0,.int .i64 0,.slice none 0 0,.slice none 0 0,.int .i64 0] 40);have O:=(Arr.new F 47 [.string ⟨#[]⟩,.int .i64 0]).alloc (.cells #[.string ⟨#[]⟩,.slice none 0 0,.int .i64 0,.int .i64 0,.slice none 0 0,.slice none 0 0,.int .i64 0] 40);have D:=Arr.new (F.alloc (.cells #[.string ⟨#[]⟩,.int .i64 0] 47)) 40 [.string ⟨#[]⟩,.slice none 0 0,.int .i64 0,.int .i64 0,.slice none 0 0,.slice none 0 0,.int .i64 0];rw[fP] at D;have d:=M.bel a3
 have l2:=M.o.lt;clear M a3;change Arr ((F.alloc (.cells #[.string ⟨#[]⟩,.int .i64 0] 47)).alloc (.cells #[.string ⟨#[]⟩,.slice none 0 0,.int .i64 0,.int .i64 0,.slice none 0 0,.slice none 0 0,.int .i64 0] 40)) _ _ [.string ⟨#[]⟩,.int .i64 0] at O;change Arr ((F.alloc (.cells #[.string ⟨#[]⟩,.int .i64 0] 47)).alloc (.cells #[.string ⟨#[]⟩,.slice none 0 0,.int .i64 0,.int .i64 0,.slice none 0 0,.slice none 0 0,.int .i64 0] 40)) _ _ [.string ⟨#[]⟩,.slice none 0 0,.int .i64 0,.int .i64 0,.slice none 0 0,.slice none 0 0,.int .i64 0] at D
 generalize (F.alloc (.cells #[.string ⟨#[]⟩,.int .i64 0] 47)).alloc (.cells #[.string ⟨#[]⟩,.slice none 0 0,.int .i64 0,.int .i64 0,.slice none 0 0,.slice none 0 0,.int .i64 0] 40)=w3 at*
 generalize F.heap.size=A at*
 go_loopg [11,14] 0 (fun g a6 a5 wr=>g=0/\a5=.int .i64 1/\wr=w3)
 case atStart=>exact⟨rfl,rfl,rfl⟩
 case round=>
  obtain⟨-,rfl,rfl⟩:=hrel;have a0:=O.cell (i:=0) rfl;have a1:=O.cell (i:=1) rfl;have b0:=D.cell (i:=0) rfl;have b1:=D.cell (i:=1) rfl;have b2:=D.cell (i:=2) rfl;have b3:=D.cell (i:=3) rfl;have b4:=D.cell (i:=4) rfl;have b5:=D.cell (i:=5) rfl;have b6:=D.cell (i:=6) rfl;have e0:=d.y.cell (i:=0) rfl;have e1:=d.y.cell (i:=1) rfl;have f0:=d.y.free 0;have f1:=d.y.free 1;have ly:=d.y.lt;have lo:=d.o.lt;have o0:=d.o.cell (i:=0) rfl;have j0:=d.o.free 0;have o1:=d.o.cell (i:=1) rfl;have j1:=d.o.free 1;have o2:=d.o.cell (i:=2) rfl;have j2:=d.o.free 2;have o3:=d.o.cell (i:=3) rfl;have j3:=d.o.free 3
  have o4:=d.o.cell (i:=4) rfl;have j4:=d.o.free 4;have o5:=d.o.cell (i:=5) rfl;have j5:=d.o.free 5;have o6:=d.o.cell (i:=6) rfl;have j6:=d.o.free 6;go_wp2_with fail
  go_region
  go_wp2_with fail;obtain⟨J,ho,k,hb⟩:=bPw d (u0:=.string ⟨#[]⟩) (u1:=.int .i64 0) (v0:=.string ⟨#[]⟩) (v1:=.slice none 0 0) (v2:=.int .i64 0) (v3:=.int .i64 0) (v4:=.slice none 0 0) (v5:=.slice none 0 0) (v6:=.int .i64 0) rfl;exact bPv rfl J ho rfl rfl rfl rfl ⟨rfl,hb⟩
theorem bP1 {P:List Prt} {room:Int} {r:Nat}:∀(n:Nat) (R:(Bool×ByteArray×Int)×Dk),bK7 P room R.2->R.2.clock+n<=1099511627776->R.2.dec+n<=1099511627776->bK7 P room (bLr P room r n R).2/\(bLr P room r n R).2.clock<=R.2.clock+n/\(bLr P room r n R).2.dec<=R.2.dec+n
 |0,R,h,_,_=>⟨h,by show R.2.clock<=R.2.clock+((0:Nat):Int);omega,by show R.2.dec<=R.2.dec+((0:Nat):Int);omega⟩
 |n+1,R,h,d,e=>by
  unfold bLr;have A:=bPt (P:=P) (room:=room) R.2 r;split
  ·exact⟨h,by omega,by omega⟩
  ·have:=bP1 (r:=r) n (bLi P room R.2 r) (h.step r (by omega) (by omega)) (by omega) (by omega);exact⟨this.1,by omega,by omega⟩
theorem bNc {P:List Prt} {room:Int} {S:Dk} (d:bK7 P room S) {r:Nat} (e:S.Rs[r]? =some bK8) (o m:Nat) (A:m<1048576) (I:S.clock+6000<1099511627776) (J:S.dec+6000<1099511627776):
  bK7 P room (bLe P room S o m)/\(bLe P room S o m).clock<=S.clock+6000/\(bLe P room S o m).dec<=S.dec+6000/\(bLe P room S o m).Rs=S.Rs:=by
 obtain⟨n,L,h⟩:=bPr d e o m;have M:=d.few;have O:(bLl P S r o m).2.clock<=S.clock/\(bLl P S r o m).2.dec<=S.dec:=by
  unfold bLl;split
  ·exact⟨lV _,lV _⟩
  ·exact⟨lV _,lV _⟩
 have:=bP1 (r:=r) n (bLl P S r o m) (bPs d o m A) (by omega) (by omega);rw[h] at this;obtain⟨D,F,G⟩:=this;refine⟨D,by dsimp only at F;omega,by dsimp only at G;omega,?_⟩;unfold bLe;split
 ·rfl
 ·exact bOi _ _ _ _ _
end Go.Proofs.YtfckbfofgeilgaaGreatDoor
