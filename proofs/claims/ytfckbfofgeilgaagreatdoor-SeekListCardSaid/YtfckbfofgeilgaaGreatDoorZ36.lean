/-
  Texts put together (part 36): the walks and the plain laws on which the statement stands.
-/
import Derived.Test.YtfckbfofgeilgaaGreatDoorZ27
import Derived.Test.YtfckbfofgeilgaaGreatDoorZ34
set_option maxRecDepth 100000
set_option maxHeartbeats 12800000
set_option linter.unusedVariables false
set_option linter.unusedSimpArgs false
open Go.Proofs.Tryz
open Go.Proofs.Tryz renaming prog->pG
open Go.Addr renaming add->gP
open Go.IntKind renaming i64->aJ,wrap_i64->aM
open Go.RowKit renaming ownsRow_setCell_below->vL
open Go.RowKit.Below renaming refl->aH
open Go.World renaming size_alloc->fP
open List renaming getElem?_eq_getElem->aN,getElem?_map->eQ,length_map->aS,mem_of_getElem?->cN
open Nat renaming lt_of_lt_of_le->fB,zero_le->aO
namespace Go.Proofs.YtfckbfofgeilgaaGreatDoor
open Go.RowKit Go Go.Shelf
theorem RdR.alloc3 {w:World} {v:Value} {l:lC} (h:RdR w v l) (o:Obj):RdR (w.alloc o) v l:=h.below (bD (aH _ _) _)
theorem bRb (v:Value) (room clock d:Int) (U:ByteArray) (H:List Hld) (w:World) (hr:RdR w v (H.map mX)) (V:okH room clock H) (c4:∀h∈H,h.b<=9223372036854775807) (hl:H.length<=11) (hc:clock<1099511627776) (c5:0<=d) (c6:d<=9223372036854775807) {y:Hld} (hy:y∈H) (a0:y.b=d):
  Calls pG 132 #[.agg #[.int .i64 room,.int .i64 clock,v],.int .i64 d,.string U] w fun e w'=>∃u:Value,e=.returned (.tuple #[.int .i64 (-1),.agg #[.int .i64 room,.int .i64 (clock+1),u],.int .i64 0])/\OwR w' w.heap.size 113 3 u ((bLf H ⟨d,clock+1,U⟩).map mX)/\Below w.heap.size w w':=by
 have b1:decide (d<0)=false:=aE (by omega);have a9:=hr;obtain⟨A,F,rfl,-⟩:=bLm hr;have b0:=fun W h=>bMf (.slice A H.length F) room clock H W h V
 have b2:=fun W h=>bM5 (.slice A H.length F) room clock H W h V c4
 have HK:=hid V;obtain⟨k1,k2,k3,k4,-,-⟩:=V;have q1:(clock==1099511627776)=false:=beq_eq_false_iff_ne.2 (by omega);have Y:=(Arr.new w 37 [.int .i64 room,.int .i64 clock,.slice A H.length F]).alloc (.cells #[.int .i64 0,.int .i64 0,.slice none 0 0] 37);have L:=Arr.new (w.alloc (.cells #[.int .i64 room,.int .i64 clock,.slice A H.length F] 37)) 37 [.int .i64 0,.int .i64 0,.slice none 0 0];rw[fP] at L;change Arr ((w.alloc (.cells #[.int .i64 room,.int .i64 clock,.slice A H.length F] 37)).alloc (.cells #[.int .i64 0,.int .i64 0,.slice none 0 0] 37)) _ _ _ at Y L
 have a1:=bD (bD (aH w.heap.size w) (.cells #[.int .i64 room,.int .i64 clock,.slice A H.length F] 37)) (.cells #[.int .i64 0,.int .i64 0,.slice none 0 0] 37);go_enter func132,ntmps132;go_wp2_with fail;generalize (w.alloc (.cells #[.int .i64 room,.int .i64 clock,.slice A H.length F] 37)).alloc (.cells #[.int .i64 0,.int .i64 0,.slice none 0 0] 37)=w1 at*
 have a2:=a9.below a1;refine(b0 _ a2).mono ?_;rintro e w2 ⟨rfl,M⟩;have G:=Y.below M Y.lt;have J:=L.below M L.lt;have a3:=a2.below M;have c7:=aW a1 M;obtain⟨z,hz⟩:=ex1 (w.heap.size);have HZ:=hid hz;rw[<-hz] at G J ⊢;have c0:=G.cell (i:=0) rfl;have c1:=G.cell (i:=1) rfl;have c2:=G.cell (i:=2) rfl;clear Y L M a1 a2 b0 a9 hr hz;go_wp2_with fail;refine(b2 _ a3).mono ?_;rintro e O ⟨mb,D,rfl,a4,b3,d6,Z⟩;have R:=G.below Z G.lt;have b4:=J.below Z J.lt;have c8:=a3.below Z;have b5:=aW c7 Z;have d7:z+2<=O.heap.size:=by have:=b4.lt;omega
 have d8:z<=mb:=by have:=J.lt;omega
 have d9:z+1<mb:=by have:=J.lt;omega
 clear G J a3 b2 c0 c1 c2;have c9:=bO1 a4 b3 hy (by omega) (by omega);rw[a0] at c9;have d0:=a0;clear a0;have hX:=R.alloc (.cells #[.int .i64 y.b,.int .i64 y.s,.string y.t] 113);have d1:=b4.alloc (.cells #[.int .i64 y.b,.int .i64 y.s,.string y.t] 113);have a6:=b5.alloc b5.size (.cells #[.int .i64 y.b,.int .i64 y.s,.string y.t] 113);have d2:=a4.alloc (.cells #[.int .i64 y.b,.int .i64 y.s,.string y.t] 113);have e3:=c8.alloc3 (.cells #[.int .i64 y.b,.int .i64 y.s,.string y.t] 113);have e4:(O.alloc (.cells #[.int .i64 y.b,.int .i64 y.s,.string y.t] 113)).heap.size=O.heap.size+1:=by simp
 have e5:z<O.heap.size:=R.lt;have e6:=a4.lt;have c0:=R.cell (i:=0) rfl;have c1:=R.cell (i:=1) rfl;have c2:=R.cell (i:=2) rfl;have k0:=hX.cell (i:=0) rfl;have e7:=hX.cell (i:=1) rfl;have e8:=hX.cell (i:=2) rfl;have b6:=fun W ho hB=>bNi mb H.length w.heap.size D H (.slice A H.length F) room clock d U W ho (by omega) b3 k4 hl ⟨_,_,_,rfl⟩ hB (by have:=HZ.out;omega) k2.1 (by omega) c5 c6
 rw[d0] at*
 go_wp2_with fail;refine(b6 _ d2 a6.size).mono ?_;rintro e w5 ⟨u5,rfl,b7,h5,e9,d3⟩;have I:Arr w5 (z+1) 37 _:=(d3 (z+1) (by simp;omega) (by omega)).trans d1;have b8:=a6.trans h5;obtain⟨a5,d4,b9,-⟩:=(OwR.rd b7).open (bLd _) (by decide:1<=3);obtain⟨n5,c3⟩:=ex1 (((bLf H ⟨d,clock+1,U⟩).map mX).length);rw[<-c3] at b9;subst b9;have e0:=I.cell (i:=0) rfl;have e1:=I.cell (i:=1) rfl;have e2:=I.cell (i:=2) rfl;have f0:=I.free 0;have f1:=I.free 1;have f2:=I.free 2;have a7:w.heap.size<=z+1:=by have:=HZ.out;omega
 have a8:z+1<(O.alloc (.cells #[.int .i64 d,.int .i64 y.s,.string y.t] 113)).heap.size:=by simp;omega
 clear c3 b6;go_wp2_with fail;have d5:=vL (vL (vL b7 (a:=⟨z+1,0,none⟩) a8 (.int .i64 room)) (a:=⟨z+1,1,none⟩) a8 (.int .i64 (clock+1))) (a:=⟨z+1,2,none⟩) a8 (.slice a5 n5 d4);exact bM4 rfl (((I.set 0 _).set 1 _).set 2 _) rfl rfl rfl rfl ⟨_,rfl,OwR.base d5 (by first|exact a6.size|exact hb6.size|exact b8.size|omega),((b8.setCell (p:=⟨z+1,0,none⟩) a7 _).setCell (p:=⟨z+1,1,none⟩) a7 _).setCell (p:=⟨z+1,2,none⟩) a7 _⟩
theorem bRc (v:Value) (room clock d:Int) (U:ByteArray) (H:List Hld) (w:World) (hr:RdR w v (H.map mX)) (V:okH room clock H) (c5:∀h∈H,h.b<=9223372036854775807) (hl:H.length<=11) (hc:clock<1099511627776) (c6:0<=d) (a9:d<=9223372036854775807) (c7:∀h∈H,h.b≠d) (d4:(H.length:Int)<room):
  Calls pG 132 #[.agg #[.int .i64 room,.int .i64 clock,v],.int .i64 d,.string U] w fun e w'=>∃u:Value,e=.returned (.tuple #[.int .i64 (-1),.agg #[.int .i64 room,.int .i64 (clock+1),u],.int .i64 0])/\OwR w' w.heap.size 113 3 u ((bLf H ⟨d,clock+1,U⟩).map mX)/\Below w.heap.size w w':=by
 have r1:((H.length:Int)==room)=false:=beq_eq_false_iff_ne.2 (by omega);have b1:decide (d<0)=false:=aE (by omega);have b0:=hr;obtain⟨A,F,rfl,-⟩:=bLm hr;have b2:=fun W h=>bMf (.slice A H.length F) room clock H W h V
 have b3:=fun W h=>bM5 (.slice A H.length F) room clock H W h V c5
 have HK:=hid V;obtain⟨k1,k2,k3,k4,-,-⟩:=V;have q1:(clock==1099511627776)=false:=beq_eq_false_iff_ne.2 (by omega);have Y:=(Arr.new w 37 [.int .i64 room,.int .i64 clock,.slice A H.length F]).alloc (.cells #[.int .i64 0,.int .i64 0,.slice none 0 0] 37);have M:=Arr.new (w.alloc (.cells #[.int .i64 room,.int .i64 clock,.slice A H.length F] 37)) 37 [.int .i64 0,.int .i64 0,.slice none 0 0];rw[fP] at M;change Arr ((w.alloc (.cells #[.int .i64 room,.int .i64 clock,.slice A H.length F] 37)).alloc (.cells #[.int .i64 0,.int .i64 0,.slice none 0 0] 37)) _ _ _ at Y M
 have a0:=bD (bD (aH w.heap.size w) (.cells #[.int .i64 room,.int .i64 clock,.slice A H.length F] 37)) (.cells #[.int .i64 0,.int .i64 0,.slice none 0 0] 37);go_enter func132,ntmps132;go_wp2_with fail;generalize (w.alloc (.cells #[.int .i64 room,.int .i64 clock,.slice A H.length F] 37)).alloc (.cells #[.int .i64 0,.int .i64 0,.slice none 0 0] 37)=w1 at*
 have a1:=b0.below a0;refine(b2 _ a1).mono ?_;rintro e w2 ⟨rfl,O⟩;have G:=Y.below O Y.lt;have L:=M.below O M.lt;have a2:=a1.below O;have c8:=aW a0 O;obtain⟨z,hz⟩:=ex1 (w.heap.size);have HZ:=hid hz;rw[<-hz] at G L ⊢;have c0:=G.cell (i:=0) rfl;have c1:=G.cell (i:=1) rfl;have c2:=G.cell (i:=2) rfl;clear Y M O a0 a1 b2 b0 hr hz;go_wp2_with fail;refine(b3 _ a2).mono ?_;rintro e I ⟨Z,D,rfl,a3,a4,d5,h3⟩;have R:=G.below h3 G.lt;have b4:=L.below h3 L.lt;have c9:=a2.below h3;have b5:=aW c8 h3;have d6:z+2<=I.heap.size:=by have:=b4.lt;omega
 have d7:z<=Z:=by have:=L.lt;omega
 have d8:z+1<Z:=by have:=L.lt;omega
 clear G L a2 b3 c0 c1 c2;have d9:=bN4 a3 a4 c7 (by omega) a9;have hX:=R.alloc (.cells #[.int .i64 0,.int .i64 0,.string ⟨#[]⟩] 113);have d0:=b4.alloc (.cells #[.int .i64 0,.int .i64 0,.string ⟨#[]⟩] 113);have a6:=b5.alloc b5.size (.cells #[.int .i64 0,.int .i64 0,.string ⟨#[]⟩] 113);have b6:=a3.alloc (.cells #[.int .i64 0,.int .i64 0,.string ⟨#[]⟩] 113);have e3:=c9.alloc3 (.cells #[.int .i64 0,.int .i64 0,.string ⟨#[]⟩] 113);have e4:(I.alloc (.cells #[.int .i64 0,.int .i64 0,.string ⟨#[]⟩] 113)).heap.size=I.heap.size+1:=by simp
 have e5:z<I.heap.size:=R.lt;have e6:=a3.lt;have c0:=R.cell (i:=0) rfl;have c1:=R.cell (i:=1) rfl;have c2:=R.cell (i:=2) rfl;have k0:=hX.cell (i:=0) rfl;have e7:=hX.cell (i:=1) rfl;have e8:=hX.cell (i:=2) rfl;have b7:=fun W ho hB=>bNi Z H.length w.heap.size D H (.slice A H.length F) room clock d U W ho (by omega) a4 k4 hl ⟨_,_,_,rfl⟩ hB (by have:=HZ.out;omega) k2.1 (by omega) c6 a9
 have e9:∀ty,(Builtin.len_ #[252] ty #[.map (some Z)]).run pG (I.alloc (.cells #[.int .i64 0,.int .i64 0,.string ⟨#[]⟩] 113))=.ok (.int .i64 (H.length:Int)) (I.alloc (.cells #[.int .i64 0,.int .i64 0,.string ⟨#[]⟩] 113)):=fun ty=>by
  rw[<-a4.2.2];exact b6.len underlying252 ty
 go_wp2_with fail;refine(b7 _ b6 a6.size).mono ?_;rintro e w5 ⟨u5,rfl,b8,h5,f3,d1⟩;have J:Arr w5 (z+1) 37 _:=(d1 (z+1) (by simp;omega) (by omega)).trans d0;have b9:=a6.trans h5;obtain⟨a5,d2,c3,-⟩:=(OwR.rd b8).open (bLd _) (by decide:1<=3);obtain⟨n5,c4⟩:=ex1 (((bLf H ⟨d,clock+1,U⟩).map mX).length);rw[<-c4] at c3;subst c3;have e0:=J.cell (i:=0) rfl;have e1:=J.cell (i:=1) rfl;have e2:=J.cell (i:=2) rfl;have f0:=J.free 0;have f1:=J.free 1;have f2:=J.free 2;have a7:w.heap.size<=z+1:=by have:=HZ.out;omega
 have a8:z+1<(I.alloc (.cells #[.int .i64 0,.int .i64 0,.string ⟨#[]⟩] 113)).heap.size:=by simp;omega
 clear c4 b7;go_wp2_with fail;have d3:=vL (vL (vL b8 (a:=⟨z+1,0,none⟩) a8 (.int .i64 room)) (a:=⟨z+1,1,none⟩) a8 (.int .i64 (clock+1))) (a:=⟨z+1,2,none⟩) a8 (.slice a5 n5 d2);exact bM4 rfl (((J.set 0 _).set 1 _).set 2 _) rfl rfl rfl rfl ⟨_,rfl,OwR.base d3 (by first|exact a6.size|exact hb6.size|exact b9.size|omega),((b9.setCell (p:=⟨z+1,0,none⟩) a7 _).setCell (p:=⟨z+1,1,none⟩) a7 _).setCell (p:=⟨z+1,2,none⟩) a7 _⟩
theorem bRd (v:Value) (room clock A:Int) (a4:ByteArray) (H:List Hld) (w:World) (hr:RdR w v (H.map mX)) (M:okH room clock H) (c3:∀h∈H,h.b<=9223372036854775807) (hl:H.length<=11) (hc:clock<1099511627776) (e7:0<=A) (c4:A<=9223372036854775807) (e8:∀h∈H,h.b≠A) (c6:(H.length:Int)=room) (Hs:List Hld) (a6:Hs.Perm H) (e9:Hs.Pairwise (fun a b=>b.s<a.s)) (y:Hld) (hy:Hs[H.length-1]? =some y):
  Calls pG 132 #[.agg #[.int .i64 room,.int .i64 clock,v],.int .i64 A,.string a4] w fun e w'=>∃u:Value,e=.returned (.tuple #[.int .i64 y.b,.agg #[.int .i64 room,.int .i64 (clock+1),u],.int .i64 0])/\OwR w' w.heap.size 113 3 u ((bLf (bLc H y.b) ⟨A,clock+1,a4⟩).map mX)/\Below w.heap.size w w':=by
 have Y:y∈H:=a6.mem_iff.1 (cN hy);have i6:=M.2.2.2.2.1 y Y;have f3:=c3 y Y;have i7:0<H.length:=List.length_pos_of_mem Y;have f4:=a6.length_eq;have r1:((H.length:Int)==room)=true:=beq_iff_eq.2 c6;have c7:=fun W h=>bRa v room clock H Hs W h M (by omega) a6 e9
 clear c6;have b1:decide (A<0)=false:=aE (by omega);have c8:=hr;obtain⟨F,G,rfl,-⟩:=bLm hr;have c9:=fun W h=>bMf (.slice F H.length G) room clock H W h M
 have d0:=fun W h=>bM5 (.slice F H.length G) room clock H W h M c3
 have HK:=hid M;obtain⟨k1,k2,k3,k4,-,-⟩:=M;have q1:(clock==1099511627776)=false:=beq_eq_false_iff_ne.2 (by omega);have hA:=(Arr.new w 37 [.int .i64 room,.int .i64 clock,.slice F H.length G]).alloc (.cells #[.int .i64 0,.int .i64 0,.slice none 0 0] 37);have Z:=Arr.new (w.alloc (.cells #[.int .i64 room,.int .i64 clock,.slice F H.length G] 37)) 37 [.int .i64 0,.int .i64 0,.slice none 0 0];rw[fP] at Z;change Arr ((w.alloc (.cells #[.int .i64 room,.int .i64 clock,.slice F H.length G] 37)).alloc (.cells #[.int .i64 0,.int .i64 0,.slice none 0 0] 37)) _ _ _ at hA Z
 have a7:=bD (bD (aH w.heap.size w) (.cells #[.int .i64 room,.int .i64 clock,.slice F H.length G] 37)) (.cells #[.int .i64 0,.int .i64 0,.slice none 0 0] 37);go_enter func132,ntmps132;go_wp2_with fail;generalize (w.alloc (.cells #[.int .i64 room,.int .i64 clock,.slice F H.length G] 37)).alloc (.cells #[.int .i64 0,.int .i64 0,.slice none 0 0] 37)=w1 at*
 have a8:=c8.below a7;refine(c9 _ a8).mono ?_;rintro e w2 ⟨rfl,h2⟩;have I:=hA.below h2 hA.lt;have O:=Z.below h2 Z.lt;have a9:=a8.below h2;have f5:=aW a7 h2;obtain⟨z,hz⟩:=ex1 (w.heap.size);have HZ:=hid hz;rw[<-hz] at I O ⊢;have c0:=I.cell (i:=0) rfl;have c1:=I.cell (i:=1) rfl;have c2:=I.cell (i:=2) rfl;clear hA Z h2 a7 a8 c9 c8 hr hz;go_wp2_with fail;refine(d0 _ a9).mono ?_;rintro e J ⟨mb,D,rfl,a0,b0,i8,h3⟩;have a1:=I.below h3 I.lt;have d1:=O.below h3 O.lt;have f6:=a9.below h3;have d2:=aW f5 h3;have i9:z+2<=J.heap.size:=by have:=d1.lt;omega
 have j0:z<=mb:=by have:=O.lt;omega
 have j1:z+1<mb:=by have:=O.lt;omega
 clear I O a9 d0 c0 c1 c2;have f7:=bN4 a0 b0 e8 (by omega) c4;have R:=a1.alloc (.cells #[.int .i64 0,.int .i64 0,.string ⟨#[]⟩] 113);have b2:=d1.alloc (.cells #[.int .i64 0,.int .i64 0,.string ⟨#[]⟩] 113);have b3:=d2.alloc d2.size (.cells #[.int .i64 0,.int .i64 0,.string ⟨#[]⟩] 113);have b4:=a0.alloc (.cells #[.int .i64 0,.int .i64 0,.string ⟨#[]⟩] 113);have d3:=f6.alloc3 (.cells #[.int .i64 0,.int .i64 0,.string ⟨#[]⟩] 113);have j2:(J.alloc (.cells #[.int .i64 0,.int .i64 0,.string ⟨#[]⟩] 113)).heap.size=J.heap.size+1:=by simp
 have j3:z<J.heap.size:=a1.lt;have j4:=a0.lt;have c0:=a1.cell (i:=0) rfl;have c1:=a1.cell (i:=1) rfl;have c2:=a1.cell (i:=2) rfl;have k0:=R.cell (i:=0) rfl;have f8:=R.cell (i:=1) rfl;have f9:=R.cell (i:=2) rfl;have g3:∀ty,(Builtin.len_ #[252] ty #[.map (some mb)]).run pG (J.alloc (.cells #[.int .i64 0,.int .i64 0,.string ⟨#[]⟩] 113))=.ok (.int .i64 (H.length:Int)) (J.alloc (.cells #[.int .i64 0,.int .i64 0,.string ⟨#[]⟩] 113)):=fun ty=>by
  rw[<-b0.2.2];exact b4.len underlying252 ty
 go_wp2_with fail;generalize J.alloc (.cells #[.int .i64 0,.int .i64 0,.string ⟨#[]⟩] 113)=w4 at*
 refine(c7 _ d3).mono ?_;rintro e w5 ⟨u5,rfl,d4,L⟩;have d5:=bN2 b4 L;have a2:=R.below L R.lt;have d:=b2.below L b2.lt;have U:=aW b3 L;have j5:=L.size;obtain⟨a5,c5,hu,g4,g5,b5⟩:=d4.open;rw[aS] at hu g4 b5;obtain⟨bb,bo,rfl,j6,d6⟩:=b5 (by omega);have d7:=d6 (H.length-1) y.b (by rw[eQ,hy];rfl);subst hu;obtain⟨V,d8⟩:=ex1 (H.length-1);rw[<-d8] at d7;rw[f4] at*
 have n1:aJ.wrap ((H.length:Int)-1)=(V:Int):=by rw[show(H.length:Int)-1=(V:Int) by omega];exact tE V (by unfold maxLen at g5;omega)
 have j7:(H.length:Int)-1=(V:Int):=by omega
 have n2:V<H.length:=by omega
 have n3:(V:Int)<(H.length:Int):=by omega
 have g6:=bMn (n:=y.b) (by omega) f3;have g7:=a2.cell (i:=0) rfl;have g8:=a2.cell (i:=1) rfl;have g9:=a2.cell (i:=2) rfl;clear g3 c7 f7 R b2 b4 b3 d3 d4 b5 d6 c0 c1 c2 k0 f8 f9 d8 hy;go_wp2_with (at_delete;refine wpList_delete_own _ rfl _ _ 252 3 rfl 113 bLv underlying252 _ mb H.length D rfl d5 _ _ rfl g6 ?_;intro w6 i0 d9;(have a3:=d9.grown);(have b6:=bM3 a2 a3 (by intro q;injection q;omega));(have g0:=b6.cell (i:=0) rfl);(have g1:=b6.cell (i:=1) rfl);(have g2:=b6.cell (i:=2) rfl));have i1:=bM3 d a3 (by intro q;injection q;omega)
 have b7:=U.grown a3 U.size (fun j hj=>by cases hj;have:=HZ.out;omega);have j8:=a3.size;have i2:=bLg.del b0 (a0.tidy bLv) Y k4;have j9:=bNh k4 Y;have e3:=fun W ho hB=>bNi mb H.length w.heap.size _ (bLc H y.b) (.slice F H.length G) room clock A a4 W ho (by omega) i2 (k4.filter _) (by omega) ⟨_,_,_,rfl⟩ hB (by have:=HZ.out;omega) k2.1 (by omega) e7 c4
 clear d7 a2 d d5 a0 U g7 g8 g9 d9 a3;refine(e3 _ i0 b7.size).mono ?_;rintro e w5 ⟨u5,rfl,e4,L,k5,i3⟩;have d:Arr w5 (z+1) 37 _:=(i3 (z+1) (by omega) (by omega)).trans i1;have U:=b7.trans L;obtain⟨a5,i4,e5,-⟩:=(OwR.rd e4).open (bLd _) (by decide:1<=3);obtain⟨n5,e6⟩:=ex1 (((bLf (bLc H y.b) ⟨A,clock+1,a4⟩).map mX).length);rw[<-e6] at e5;subst e5;have e0:=d.cell (i:=0) rfl;have e1:=d.cell (i:=1) rfl;have e2:=d.cell (i:=2) rfl;have f0:=d.free 0;have f1:=d.free 1;have f2:=d.free 2;have b8:w.heap.size<=z+1:=by have:=HZ.out;omega
 have b9:z+1<w6.heap.size:=by omega
 clear e6 e3;go_wp2_with fail;have i5:=vL (vL (vL e4 (a:=⟨z+1,0,none⟩) b9 (.int .i64 room)) (a:=⟨z+1,1,none⟩) b9 (.int .i64 (clock+1))) (a:=⟨z+1,2,none⟩) b9 (.slice a5 n5 i4);exact bM4 rfl (((d.set 0 _).set 1 _).set 2 _) rfl rfl rfl rfl ⟨_,rfl,OwR.base i5 (by first|exact b3.size|exact b7.size|exact U.size|omega),((U.setCell (p:=⟨z+1,0,none⟩) b8 _).setCell (p:=⟨z+1,1,none⟩) b8 _).setCell (p:=⟨z+1,2,none⟩) b8 _⟩
theorem bO9 (I J L:Int) (A Z o m:Nat) (w:World) (d:A<=1099511627776) (hZ:Z<=1099511627776) (ho:o<=1099511627776) (hm:m<=1099511627776) (h2:A<o+m):
  Calls pG 87 #[.agg #[.int .i64 I,.int .i64 J,.int .i64 (A:Int),.int .i64 (Z:Int),.int .u32 L],.int .i64 (o:Int),.int .i64 (m:Int)] w fun e w'=>e=.returned (.tuple #[.int .i64 ((o-A:Nat):Int),.int .i64 ((max (min (o+m-A) Z) (o-A):Nat):Int)])/\Below w.heap.size w w':=by
 obtain⟨F,hF⟩:=ex1 (o-A);obtain⟨G,U⟩:=ex1 (o+m-A);obtain⟨Y,V⟩:=ex1 (min G Z);obtain⟨T,hT⟩:=ex1 (max Y F);rw[<-U,<-hF,<-V,<-hT];obtain⟨D,O⟩:∃D:Int,D=(o:Int)-(A:Int):=⟨_,rfl⟩;have m1:aJ.wrap ((o:Int)-(A:Int))=D:=by rw[<-O,aM];omega
 have a3:=O.symm;have a4:aJ.wrap D=D:=by rw[aM];omega
 have m2:aJ.wrap (D+(m:Int))=(G:Int):=by rw[aM];omega
 have a5:D+(m:Int)=(G:Int):=by omega
 have a6:aJ.wrap (G:Int)=(G:Int):=by rw[aM];omega
 have x1:max D 0=(F:Int):=by omega
 have x2:min (G:Int) (Z:Int)=(Y:Int):=by omega
 have x3:max (Y:Int) (F:Int)=(T:Int):=by omega
 have hb:=bD (aH w.heap.size w) (.cells #[.int .i64 I,.int .i64 J,.int .i64 (A:Int),.int .i64 (Z:Int),.int .u32 L] 103);clear hF U V hT O;go_enter func87,ntmps87;go_wp2_with fail;have d:=Arr.new w 103 [.int .i64 I,.int .i64 J,.int .i64 (A:Int),.int .i64 (Z:Int),.int .u32 L];change Arr (w.alloc (.cells #[.int .i64 I,.int .i64 J,.int .i64 (A:Int),.int .i64 (Z:Int),.int .u32 L] 103)) _ _ _ at d;generalize w.alloc (.cells #[.int .i64 I,.int .i64 J,.int .i64 (A:Int),.int .i64 (Z:Int),.int .u32 L] 103)=w1 at*
 obtain⟨z,R⟩:=ex1 (w.heap.size);rw[<-R] at d ⊢;have HZ:=hid R;clear R;have a0:(fun M=>M.cell? ⟨z,2,none⟩=some (.int .i64 (A:Int))/\M.cell? ⟨z,3,none⟩=some (.int .i64 (Z:Int))) w1.drew:=⟨d.cell (i:=2) rfl,d.cell (i:=3) rfl⟩;refine wp_region_held_drew (S:=fun M=>M.cell? ⟨z,2,none⟩=some (.int .i64 (A:Int))/\M.cell? ⟨z,3,none⟩=some (.int .i64 (Z:Int))) (by kernel_rfl) a0 (fun a1=>?_);refine bKf [0,1,2,3,4,5,6,7,8,9,10,11,12,13] ?_
 iterate 14
  refine bKg (by simp only[List.getElem?_toArray,List.getElem?_cons_succ,List.getElem?_cons_zero];rfl) (by kernel_rfl) (by exact fun _ _ _ h=>h) (by first|exact Or.inr ⟨by rfl,rfl⟩|(refine Or.inl ⟨by rfl,?_⟩;intro w' a2;(try dsimp only at a2);(try go_simp);try with_reducible rfl)) a1 ?_
  try simp only[Act.put,List.setIfInBounds_toArray,List.set_cons_zero,List.set_cons_succ]
 refine wpAnyH_done (by kernel_rfl) ?_ _;clear a1 a0 d;go_wp2_with fail
 go_ret2
 exact⟨rfl,hb.drew⟩
theorem bPa (o m:Nat) (w:World) (d:m<1048576):Calls pG 53 #[.int .i64 (o:Int),.int .i64 (m:Int)] w fun e w'=>e=.returned (.bool true)/\w'=w:=by
 have A:decide ((o:Int)>=0)=true:=aG (by omega);have D:decide (0<=(o:Int))=true:=aG (by omega);have F:decide ((m:Int)>=0)=true:=aG (by omega);have G:decide (0<=(m:Int))=true:=aG (by omega);have I:decide ((m:Int)<1048576)=true:=aG (by omega);go_enter func53,ntmps53;go_wp2_with fail;go_ret;exact⟨rfl,rfl⟩
abbrev bLa (a:ByteArray) (d:Value) (room clock:Int) (e vr:Value) (dec:Int):Value:=.agg #[.string a,d,.int .i64 room,.int .i64 clock,e,vr,.int .i64 dec]
theorem bRk (a:ByteArray) (d:Option Addr) (A D:Nat) (room clock:Int) (F G:Option Addr) (I ch J L:Nat) (dec:Int) (w:World):
  Calls pG 51 #[bLa a (.slice d A D) room clock (.slice F I ch) (.slice G J L) dec,.agg (bK3 bK8).toArray] w fun e w'=>e=.returned (.bool true)/\Below w.heap.size w w':=by
 have M:=bD (bD (aH w.heap.size w) (.cells #[.string a,.slice d A D,.int .i64 room,.int .i64 clock,.slice F I ch,.slice G J L,.int .i64 dec] 40)) (.cells #[.int .i64 0,.int .i64 0,.int .i64 0,.int .i64 0,.int .i64 0,.string ⟨#[]⟩,.string ⟨#[]⟩] 116);unfold bK3 bK8;go_enter func51,ntmps51;go_wp2_with fail;go_ret;exact⟨rfl,M⟩
theorem bN7 (a:ByteArray) (vi:Value) (room clock:Int) (Y ar:Option Addr) (nh ch nr cr:Nat) (dec:Int) (P:List Prt) (o m f e k:Nat) (s:Int) (O:ByteArray) (w:World) (hr:RdR w vi ((gU 0 P).map bG)) (hR:jA (gU 0 P)) (hP:P.length<=2000) (hU:(iH (P.map Prt.t)).size<=1000000000)
  (hg:bL9 P o m f e k) (hs:(s=1\/s=2)/\O=⟨#[]⟩\/s=3/\∃p,P[k]? =some p/\O=p.t):
  Calls pG 51 #[bLa a vi room clock (.slice Y nh ch) (.slice ar nr cr) dec,.agg (bK3 (bK5 P o m e k s O)).toArray] w fun e w'=>e=.returned (.bool true)/\Below w.heap.size w w':=by
 have hl:=NK P 0;have b0:=hg.in hR;have b1:=hr;obtain⟨ai,I,rfl,c9,d2,hA⟩:=nS hr;unfold maxLen at d2;obtain⟨m1,m2,o1,b2,d3,e5,e6⟩:=hg;have a0:=fun W h=>aKn (.slice ai (gU 0 P).length I) (gU 0 P) (o:Int) (m:Int) W h (by omega) (by omega) (by omega) (by omega) (by omega)
 rw[b2] at a0;have b3:=fun W=>bPa o m W m2
 obtain⟨b,off,rfl,hb,hc⟩:=hA (by omega);have t0:decide (s<0)=false:=aE (by omega);have t1:decide (s>3)=false:=aE (by omega);have e7:decide (3<s)=false:=aE (by omega);have t2:(s==0)=false:=beq_eq_false_iff_ne.2 (by omega);have t3:decide ((f:Int)<0)=false:=aE (by omega);have t4:decide ((k:Int)<(f:Int))=false:=aE (by omega);have t5:decide ((k:Int)>(e:Int))=false:=aE (by omega);have e8:decide ((e:Int)<(k:Int))=false:=aE (by omega);have e9:decide (k<f)=false:=aE (by omega);have f0:decide (e<k)=false:=aE (by omega);have t6:((e:Int) != (e:Int))=false:=bne_self_eq_false _
 have HS:=hid hs;have a3:=hid b0;have HC:=hid hc;unfold bK3 bK5;obtain⟨G,hG⟩:=ex1 (bLh P o m k);rw[<-hG];have d4:=hid hG;obtain⟨N,hN⟩:=ex1 ((gU 0 P).length);rw[<-hN] at a0 b1 c9 ⊢;have HN:=hid hN;have d5:(f:Int)<=(k:Int):=by omega
 have b4:k<=I:=by omega
 have b5:(k:Int)<=(I:Int):=by omega
 have b6:¬I=f:=by omega
 have b7:¬I-f=0:=by omega
 have b8:∀W,(Instr.sliceAt 30 (.slice (some ⟨b,off,none⟩) N I) (some (.int .i64 (f:Int))) (some (.int .i64 (k:Int))) none).run pG W=.ok (.slice (some ⟨b,off+f*5,none⟩) (k-f) (I-f)) W:=fun W=>by
  by_cases h0:f=0
  ·subst h0;simp[go_sem,gP,b5,b4,b7,b6]
  ·have h5:¬f*5=0:=by omega
   simp[go_sem,gP,b5,b4,b7,b6,d3,d5,h0,h5]
 obtain⟨OF,a4⟩:=ex1 (off+f*5);obtain⟨J,hJ⟩:=ex1 (k-f);rw[<-a4,<-hJ] at b8;have d6:=hid a4;have HJ:=hid hJ;have f1:J<=I-f:=by omega
 clear hs b0 hc hA hr b2 hG hN a4 hJ;have hX:=(Arr.new w 40 [.string a,.slice (some ⟨b,off,none⟩) N I,.int .i64 room,.int .i64 clock,.slice Y nh ch,.slice ar nr cr,.int .i64 dec]).alloc (.cells #[.int .i64 s,.int .i64 (o:Int),.int .i64 (m:Int),.int .i64 (k:Int),.int .i64 (e:Int),.string G,.string O] 116);have hY:=Arr.new (w.alloc (.cells #[.string a,.slice (some ⟨b,off,none⟩) N I,.int .i64 room,.int .i64 clock,.slice Y nh ch,.slice ar nr cr,.int .i64 dec] 40)) 116 [.int .i64 s,.int .i64 (o:Int),.int .i64 (m:Int),.int .i64 (k:Int),.int .i64 (e:Int),.string G,.string O]
 rw[fP] at hY;change Arr ((w.alloc (.cells #[.string a,.slice (some ⟨b,off,none⟩) N I,.int .i64 room,.int .i64 clock,.slice Y nh ch,.slice ar nr cr,.int .i64 dec] 40)).alloc (.cells #[.int .i64 s,.int .i64 (o:Int),.int .i64 (m:Int),.int .i64 (k:Int),.int .i64 (e:Int),.string G,.string O] 116)) _ _ _ at hX hY
 have a5:=bD (bD (aH w.heap.size w) (.cells #[.string a,.slice (some ⟨b,off,none⟩) N I,.int .i64 room,.int .i64 clock,.slice Y nh ch,.slice ar nr cr,.int .i64 dec] 40)) (.cells #[.int .i64 s,.int .i64 (o:Int),.int .i64 (m:Int),.int .i64 (k:Int),.int .i64 (e:Int),.string G,.string O] 116);go_enter func51,ntmps51;go_wp2_with fail
 generalize (w.alloc (.cells #[.string a,.slice (some ⟨b,off,none⟩) N I,.int .i64 room,.int .i64 clock,.slice Y nh ch,.slice ar nr cr,.int .i64 dec] 40)).alloc (.cells #[.int .i64 s,.int .i64 (o:Int),.int .i64 (m:Int),.int .i64 (k:Int),.int .i64 (e:Int),.string G,.string O] 116)=w1 at*
 obtain⟨z,hz⟩:=ex1 (w.heap.size);rw[<-hz] at hX hY ⊢;have HZ:=hid hz;clear hz;refine(a0 _ (b1.below a5)).mono ?_;rintro e' w2 ⟨rfl,h2⟩;have b9:=hX.below h2 hX.lt;have d:=hY.below h2 hY.lt;have d7:=aW a5 h2;have d1:=b9.cell (i:=1) rfl;have d0:=d.cell (i:=0) rfl;have y1:=d.cell (i:=1) rfl;have y2:=d.cell (i:=2) rfl;have y3:=d.cell (i:=3) rfl;have y4:=d.cell (i:=4) rfl;clear hX hY a5 h2 a0;go_wp2_with fail;refine(b3 _).mono ?_;rintro e' w3 ⟨rfl,rfl⟩;go_wp2_with fail;have f2:(bLh P o m f).size=0:=by
  rw[bN5];have:=a3.out.1;omega
 go_loopg [7,9,10,11,72] J (fun g s7 _s9 _s10 _s11 d8 wr=>∃(j M:Nat),j<=J/\g=J-j/\d8=.int .i64 (j:Int)/\s7=.int .i64 (M:Int)/\Hid (M=min (o+m) (ahB P (f+j))-o)/\Below w3.heap.size w3 wr)
 case atStart=>exact⟨0,0,aO _,rfl,rfl,rfl,hid (by have:=a3.out.1;rw[Nat.add_zero];omega),aH _ _⟩
 case round=>
  obtain⟨j,M,hj,a6,rfl,rfl,a1,L⟩:=hrel;have a7:=hid a6;clear a6;have f3:=(L.cell (p:=⟨z+1,1,none⟩) d.lt).trans y1;have f4:=(L.cell (p:=⟨z+1,2,none⟩) d.lt).trans y2;have f5:=(L.cell (p:=⟨z+1,0,none⟩) d.lt).trans d0;have f6:=(L.cell (p:=⟨z+1,3,none⟩) d.lt).trans y3;have f7:=(L.cell (p:=⟨z+1,5,none⟩) d.lt).trans (d.cell (i:=5) rfl);have f8:=(L.cell (p:=⟨z+1,6,none⟩) d.lt).trans (d.cell (i:=6) rfl);have f9:=(L.cell (p:=⟨z,1,none⟩) b9.lt).trans d1;have R:=aW d7 L;clear y1 y2 d0 y3 d1 y4 b8 b3
  by_cases g2:j<J
  ·have u1:decide ((j:Int)<(J:Int))=true:=aG (by omega);have d9:f+j<P.length:=by have:=HJ.out;omega
   obtain⟨p,hp⟩:∃p,P[f+j]? =some p:=⟨_,aN d9⟩;obtain⟨x0,x1,x2,U,x4⟩:=HC.out (f+j) _ (bMo hp);obtain⟨i1,i2⟩:=a3.out.2.2 (f+j) p hp (by omega) (by have:=HJ.out;omega);have a2:=bNk hp;have c5:=bMx P (f+j);have e0:=bMx P (f+j+1);have eo:off+(f+j)*5=OF+j*5:=by have:=d6.out;omega
   rw[eo] at x0 x1 x2 U x4;dsimp only at x0 x1 x2 U x4;have c0:=(R.cell (p:=⟨b,OF+j*5,none⟩) hb).trans x0;have c1:=(R.cell (p:=⟨b,OF+j*5+1,none⟩) hb).trans x1;have c2:=(R.cell (p:=⟨b,OF+j*5+2,none⟩) hb).trans x2;have c3:=(R.cell (p:=⟨b,OF+j*5+3,none⟩) hb).trans U;have c4:=(R.cell (p:=⟨b,OF+j*5+4,none⟩) hb).trans x4;obtain⟨A,a8⟩:=ex1 (ahB P (f+j));obtain⟨Z,c6⟩:=ex1 (p.t.size);rw[<-a8] at c2 a2 i1 i2 c5;rw[<-c6] at c3 a2 i1;have a9:=fun W=>bO9 p.a p.r p.y A Z o m W (by omega) (by omega) (by omega) (by omega) i2
   obtain⟨F,hF⟩:=ex1 (o-A);obtain⟨T,hT⟩:=ex1 (max (min (o+m-A) Z) F);rw[<-hF,<-hT] at a9;obtain⟨D,hD⟩:=ex1 (T-F);obtain⟨V,e1⟩:=ex1 (M+D);have c7:=a1.out;rw[<-a8] at c7;have e2:=hid (show V=min (o+m) (ahB P (f+(j+1)))-o by rw[<-Nat.add_assoc,a2];omega);have m1:aJ.wrap ((T:Int)-(F:Int))=(D:Int):=by rw[show(T:Int)-(F:Int)=(D:Int) by omega];exact tE D (by omega)
   have g3:(T:Int)-(F:Int)=(D:Int):=by omega
   have m2:aJ.wrap ((M:Int)+(D:Int))=(V:Int):=by rw[show(M:Int)+(D:Int)=(V:Int) by omega];exact tE V (by omega)
   have g4:(M:Int)+(D:Int)=(V:Int):=by omega
   have m3:=tE D (by omega);have m4:=tE V (by omega);have g5:z+1<wr.heap.size:=fB d.lt L.size;have c8:=L.alloc L.size (.cells #[.int .i64 p.a,.int .i64 p.r,.int .i64 (A:Int),.int .i64 (Z:Int),.int .u32 p.y] 103);clear x0 x1 x2 U x4 eo hp a2 c5 e0 a8 c6 hF hT hD e1 c7 i1 i2;go_wp2_with fail;refine(a9 _).mono ?_;rintro e' w4 ⟨rfl,h4⟩;have e3:=c8.trans (h4.mono c8.size);clear a9 h4;go_wp2_with fail;have a6:=a7.out
   go_roundg (J-(j+1))
   ·exact⟨j+1,V,by omega,rfl,by go_num,rfl,e2,e3⟩
   ·omega
  ·have u1:decide ((j:Int)<(J:Int))=false:=aE (by omega);have ej:f+j=k:=by have:=HJ.out;omega
   have e4:G.size=M:=by rw[a1.out,d4.out,bN5,ej]
   have g6:((G.size:Int)==(M:Int))=true:=by rw[e4];exact beq_self_eq_true _
   rcases HS.out with⟨g7,rfl⟩|⟨rfl,p,hp,rfl⟩
   ·have v1:(s==3)=false:=beq_eq_false_iff_ne.2 (by omega);clear a7 a1;go_wp2_with fail;go_ret;exact⟨rfl,R⟩
   ·obtain⟨x0,x1,x2,U,x4⟩:=HC.out k _ (bMo hp);dsimp only at U;have c3:=(R.cell (p:=⟨b,off+k*5+3,none⟩) hb).trans U;have g8:k<N:=by have:=HN.out;omega
    have v2:((p.t.size:Int)==(p.t.size:Int))=true:=beq_self_eq_true _;clear a7 a1 x0 x1 x2 U x4;go_wp2_with fail;go_ret;exact⟨rfl,R⟩
theorem bL1 (l:List Rdr):oW 7 (l.map bK3):=fun q e=>by
 obtain⟨p,_,rfl⟩:=List.mem_map.1 e;exact⟨rfl,fun u d=>by unfold bK3 at d;simp only[List.mem_cons,List.not_mem_nil,or_false] at d;rcases d with rfl|rfl|rfl|rfl|rfl|rfl|rfl<;>rfl⟩
theorem bNn {w:World} {v:Value} {l:List Rdr} (h:RdR w v (l.map bK3)):∃a cap,v=.slice a l.length cap/\l.length<=cap/\cap<=maxLen/\
  (0<l.length->∃b off,a=some ⟨b,off,none⟩/\b<w.heap.size/\∀j p,l[j]? =some p->w.cell? ⟨b,off+j*7,none⟩=some (.int .i64 p.st)/\w.cell? ⟨b,off+j*7+1,none⟩=some (.int .i64 p.off)/\w.cell? ⟨b,off+j*7+2,none⟩=some (.int .i64 p.n)/\w.cell? ⟨b,off+j*7+3,none⟩=some (.int .i64 p.blk)/\w.cell? ⟨b,off+j*7+4,none⟩=some (.int .i64 p.last)/\w.cell? ⟨b,off+j*7+5,none⟩=some (.string p.got)/\w.cell? ⟨b,off+j*7+6,none⟩=some (.string p.text)):=by
 obtain⟨a,cap,d,A,F,D⟩:=h.open (bL1 l) (by decide);rw[aS] at d A D;refine⟨a,cap,d,A,F,fun G=>?_⟩;obtain⟨b,off,I,J,L⟩:=D G;refine⟨b,off,I,J,fun j p M=>?_⟩;have e:(l.map bK3)[j]? =some (bK3 p):=by rw[eQ,M];rfl
 have c:=fun i u O=>L j (bK3 p) i u e O
 exact⟨c 0 _ rfl,c 1 _ rfl,c 2 _ rfl,c 3 _ rfl,c 4 _ rfl,c 5 _ rfl,c 6 _ rfl⟩
theorem bRm (a:ByteArray) (d:Value) (room clock:Int) (A D:Option Addr) (F ch G I:Nat) (dec:Int) (P:List Prt) (r:Rdr) (w:World) (J:RdR w d ((gU 0 P).map bG)) (L:jA (gU 0 P)) (M:P.length<=2000) (O:(iH (P.map Prt.t)).size<=1000000000) (U:bMp P r):
  Calls pG 51 #[bLa a d room clock (.slice A F ch) (.slice D G I) dec,.agg (bK3 r).toArray] w fun e w'=>e=.returned (.bool true)/\Below w.heap.size w w':=by
 rcases U with rfl|⟨o,m,f,e,k,R,rfl|rfl|⟨p,V,rfl⟩⟩
 ·obtain⟨Y,Z,rfl,-⟩:=nS J;exact bRk a Y _ Z room clock A D F ch G I dec w
 ·exact bN7 a d room clock A D F ch G I dec P o m f e k 1 _ w J L M O R (.inl ⟨.inl rfl,rfl⟩)
 ·exact bN7 a d room clock A D F ch G I dec P o m f e k 2 _ w J L M O R (.inl ⟨.inr rfl,rfl⟩)
 ·exact bN7 a d room clock A D F ch G I dec P o m f e k 3 _ w J L M O R (.inr ⟨rfl,p,V,rfl⟩)
theorem bRn (a:ByteArray) (D:Value) (room clock:Int) (F G:Option Addr) (I ch J L:Nat) (dec:Int) (P:List Prt) (r:Rdr) (z:Nat) (w:World) (d:Arr w z 40 [.string a,D,.int .i64 room,.int .i64 clock,.slice F I ch,.slice G J L,.int .i64 dec]) (A:RdR w D ((gU 0 P).map bG)) (U:jA (gU 0 P)) (V:P.length<=2000) (Y:(iH (P.map Prt.t)).size<=1000000000) (Z:bMp P r):
  Calls pG 50 #[.agg (bK3 r).toArray,.pointer (some ⟨z,0,none⟩)] w fun e w'=>e=.returned (.bool false)/\Below w.heap.size w w':=by
 have M:=A;obtain⟨ai,ci,rfl,-⟩:=nS A;have O:=fun W h=>bRm a (.slice ai (gU 0 P).length ci) room clock F G I ch J L dec P r W h U V Y Z
 unfold bK3 at O ⊢;have a2:=d.alloc (.cells #[.int .i64 r.st,.int .i64 r.off,.int .i64 r.n,.int .i64 r.blk,.int .i64 r.last,.string r.got,.string r.text] 116);have R:=bD (aH w.heap.size w) (.cells #[.int .i64 r.st,.int .i64 r.off,.int .i64 r.n,.int .i64 r.blk,.int .i64 r.last,.string r.got,.string r.text] 116);have a0:=M.below R;have c0:=d.cell (i:=0) rfl;have c1:=d.cell (i:=1) rfl;have c2:=d.cell (i:=2) rfl;have c3:=d.cell (i:=3) rfl;have c4:=d.cell (i:=4) rfl;have c5:=d.cell (i:=5) rfl;have c6:=d.cell (i:=6) rfl;have a3:=d.lt;clear A M;go_enter func50,ntmps50
 go_wp2_with fail;refine(O _ a0).mono ?_;rintro e w2 ⟨rfl,h2⟩;have a1:=aW R h2;go_wp2_with fail;go_ret;exact⟨rfl,a1⟩
theorem bRo (a:ByteArray) (F:Value) (room clock:Int) (M O:Option Addr) (R ch U V:Nat) (dec:Int) (P:List Prt) (A:List Rdr) (v:Value) (z:Nat) (w:World) (Y:Arr w z 40 [.string a,F,.int .i64 room,.int .i64 clock,.slice M R ch,.slice O U V,.int .i64 dec]) (hr:RdR w F ((gU 0 P).map bG)) (hR:jA (gU 0 P)) (hP:P.length<=2000) (hU:(iH (P.map Prt.t)).size<=1000000000) (Z:RdR w v (A.map bK3)) (hl:A.length<=8) (hg:∀r∈A,bMp P r):
  Calls pG 86 #[v,.func (.func 50) #[] #[.pointer (some ⟨z,0,none⟩)]] w fun e w'=>e=.returned (.int .i64 (-1))/\Below w.heap.size w w':=by
 obtain⟨va,vc,rfl,a4,a0,hC⟩:=bNn Z;unfold maxLen at a0;have a1:=fun W r h1 G h3=>bRn a F room clock M O R ch U V dec P r z W h1 G hR hP hU h3
 clear Z;go_enter func86,ntmps86;go_wp2_with fail
 go_loopg [5,8] A.length (fun g _s5 s8 wr=>∃k:Nat,k<=A.length/\g=A.length-k/\s8=.int .i64 (k:Int)/\Below w.heap.size w wr)
 case atStart=>exact⟨0,aO _,rfl,rfl,aH _ _⟩
 case round=>
  obtain⟨k,hk,I,rfl,d⟩:=hrel;have HG:=hid I;clear I
  by_cases a2:k<A.length
  ·have u1:decide ((k:Int)<(A.length:Int))=true:=aG (by omega);obtain⟨b,off,rfl,D,hc⟩:=hC (by omega);obtain⟨x,J⟩:∃x,A[k]? =some x:=⟨_,aN a2⟩;obtain⟨x0,x1,x2,x3,x4,x5,x6⟩:=hc k x J;have L:=a1 wr x (Y.below d Y.lt) (hr.below d) (hg x (cN J));unfold bK3 at L;have c0:=(d.cell (p:=⟨b,off+k*7,none⟩) D).trans x0;have c1:=(d.cell (p:=⟨b,off+k*7+1,none⟩) D).trans x1;have c2:=(d.cell (p:=⟨b,off+k*7+2,none⟩) D).trans x2;have c3:=(d.cell (p:=⟨b,off+k*7+3,none⟩) D).trans x3;have c4:=(d.cell (p:=⟨b,off+k*7+4,none⟩) D).trans x4
   have c5:=(d.cell (p:=⟨b,off+k*7+5,none⟩) D).trans x5;have c6:=(d.cell (p:=⟨b,off+k*7+6,none⟩) D).trans x6;clear hc hC x0 x1 x2 x3 x4 x5 x6 J;go_wp2_with fail;refine L.mono ?_;rintro e w2 ⟨rfl,G⟩;have a3:=d.trans (G.mono d.size);clear L;go_wp2_with fail;have I:=HG.out
   go_roundg (A.length-(k+1))
   ·exact⟨k+1,by omega,rfl,by go_num,a3⟩
   ·omega
  ·have u1:decide ((k:Int)<(A.length:Int))=false:=aE (by omega);go_wp2_with fail;go_ret;exact⟨rfl,d⟩
theorem bPc (a:ByteArray) (vi vh vr:Value) (room clock dec:Int) (P:List Prt) (H:List Hld) (d:List Rdr) (w:World) (hr:RdR w vi ((gU 0 P).map bG)) (hh:RdR w vh (H.map mX)) (a0:RdR w vr (d.map bK3)) (hD:bN6 P room clock H d dec):
  Calls pG 15 #[bLa a vi room clock vh vr dec] w fun e w'=>e=.returned (.bool true)/\Below w.heap.size w w':=by
 have hl:=NK P 0;have a1:=hr;have b1:=hh;have b2:=a0;obtain⟨D,F,rfl,e2,b3,-⟩:=bNn a0;obtain⟨G,I,rfl,b4,b5,a5⟩:=nS hr;obtain⟨J,ch,rfl,e4,b6,a6⟩:=bLm hh;obtain⟨d1,d2,d3,d4,d5,d6,d7,d8,d9,a7⟩:=hD;unfold maxLen at b3 b5 b6;have U:=fun W h=>DB (.slice G (gU 0 P).length I) (gU 0 P) W h (by omega)
 rw[aG d1] at U;have a8:=fun W h=>bMf (.slice J H.length ch) room clock H W h d4
 have V:=fun z W hA h1 M=>bRo a (.slice G (gU 0 P).length I) room clock J D H.length ch d.length F dec P d (.slice D d.length F) z W hA h1 d1 d2 d3 M d7 a7
 have t1:decide ((d.length:Int)<1)=false:=aE (by omega);have t2:decide ((d.length:Int)>8)=false:=aE (by omega);have e5:decide (8<(d.length:Int))=false:=aE (by omega);have t3:decide (dec<0)=false:=aE (by omega);have t4:decide (dec>1099511627776)=false:=aE (by omega);have e6:decide (1099511627776<dec)=false:=aE (by omega);have e7:decide (d.length<1)=false:=aE (by omega);have e8:decide (8<d.length)=false:=aE (by omega);have HT:=hid d5;have HK:=hid d4;obtain⟨N,hN⟩:=ex1 ((gU 0 P).length);rw[<-hN] at U V a1 b4 ⊢;have HN:=hid (hN.trans hl);have b7:=hid a5
 clear hN hl hr hh a0 d1 d5 a7 d4 a5;have O:=Arr.new w 40 [.string a,.slice G N I,.int .i64 room,.int .i64 clock,.slice J H.length ch,.slice D d.length F,.int .i64 dec];change Arr (w.alloc (.cells #[.string a,.slice G N I,.int .i64 room,.int .i64 clock,.slice J H.length ch,.slice D d.length F,.int .i64 dec] 40)) _ _ _ at O;have a2:=bD (aH w.heap.size w) (.cells #[.string a,.slice G N I,.int .i64 room,.int .i64 clock,.slice J H.length ch,.slice D d.length F,.int .i64 dec] 40);go_enter func15,ntmps15;go_wp2_with fail
 generalize w.alloc (.cells #[.string a,.slice G N I,.int .i64 room,.int .i64 clock,.slice J H.length ch,.slice D d.length F,.int .i64 dec] 40)=w1 at*
 obtain⟨z,hz⟩:=ex1 (w.heap.size);rw[<-hz] at O ⊢;have HZ:=hid hz;clear hz;refine(U _ (a1.below a2)).mono ?_;rintro e w2 ⟨rfl,M⟩;have L:=O.below M O.lt;have a3:=aW a2 M;have c2:=L.cell (i:=2) rfl;have c3:=L.cell (i:=3) rfl;have c4:=L.cell (i:=4) rfl;clear U O M a2;go_wp2_with fail;refine(a8 _ (b1.below a3)).mono ?_;rintro e w3 ⟨rfl,h3⟩;have R:=L.below h3 L.lt;have b8:=aW a3 h3;have b9:=R.cell (i:=4) rfl;have c5:=R.cell (i:=5) rfl;have c6:=R.cell (i:=6) rfl;clear a8 h3 a3 c2 c3 c4 L;go_wp2_with fail
 go_loopg [4,41] H.length (fun g _s4 c7 wr=>∃k:Nat,k<=H.length/\g=H.length-k/\c7=.int .i64 (k:Int)/\Below w3.heap.size w3 wr)
 case atStart=>exact⟨0,aO _,rfl,rfl,aH _ _⟩
 case round=>
  obtain⟨k,hk,a4,rfl,Y⟩:=hrel;have HG:=hid a4;have Z:=R.below Y R.lt;have A:=aW b8 Y;clear a4 b9 c5 c6
  by_cases c8:k<H.length
  ·have u1:decide ((k:Int)<(H.length:Int))=true:=aG (by omega);obtain⟨b,off,rfl,hb,hc⟩:=a6 (by omega);obtain⟨x,hx⟩:∃x,H[k]? =some x:=⟨_,aN c8⟩;obtain⟨x0,x1,x2⟩:=hc k x hx;obtain⟨q,p,hq,hp,ht⟩:=HT.out x (cN hx);have e9:q<N:=by rw[HN.out];exact(List.getElem?_eq_some_iff.1 hp).1
   obtain⟨bi,oi,rfl,a9,b0⟩:=b7.out (by have:=HN.out;have:=NK P 0;omega);obtain⟨y0,y1,y2,y3,y4⟩:=b0 q _ (bMo hp);dsimp only at y3;rw[hq] at x0;have c0:=(A.cell (p:=⟨b,off+k*3,none⟩) hb).trans x0;have c1:=(A.cell (p:=⟨b,off+k*3+1,none⟩) hb).trans x1;have c2:=(A.cell (p:=⟨b,off+k*3+2,none⟩) hb).trans x2;have e3:=(A.cell (p:=⟨bi,oi+q*5+3,none⟩) a9).trans y3;have g1:=Z.cell (i:=1) rfl;have v1:decide ((q:Int)>=(N:Int))=false:=aE (by omega);have f0:decide ((N:Int)<=(q:Int))=false:=aE (by omega);have f1:decide (N<=q)=false:=aE (by omega)
   have v2:((p.t.size:Int) != (p.t.size:Int))=false:=bne_self_eq_false _;rw[ht] at c2;have f2:=Z.lt;have f3:bi<wr.heap.size:=fB a9 A.size;have c9:=Y.alloc Y.size (.cells #[.int .i64 (q:Int),.int .i64 x.s,.string p.t] 113);clear hc a6 x0 x1 x2 hx hp ht hq b0 y0 y1 y2 y3 y4;go_wp2_with fail
   go_quiet (fail)
   go_wp2_with fail;have a4:=HG.out
   go_roundg (H.length-(k+1))
   ·exact⟨k+1,by omega,rfl,by go_num,below_drewN c9 _⟩
   ·omega
  ·have u1:decide ((k:Int)<(H.length:Int))=false:=aE (by omega);have g5:=Z.cell (i:=5) rfl;have d0:Calls pG 49 #[.slice D d.length F,.func (.func 50) #[] #[.pointer (some ⟨z,0,none⟩)]] wr fun e w'=>e=.returned (.bool false)/\Below wr.heap.size wr w':=by
    have e0:=V z wr Z (a1.below A) (b2.below A);clear V;go_enter func49,ntmps49;go_wp2_with fail;refine e0.mono ?_;rintro e w4 ⟨rfl,h4⟩;go_wp2_with fail;go_ret;exact⟨rfl,h4⟩
   clear V;go_wp2_with fail;refine d0.mono ?_;rintro e w4 ⟨rfl,h4⟩;have e1:=aW A h4;go_wp2_with fail;go_ret;exact⟨rfl,e1⟩
end Go.Proofs.YtfckbfofgeilgaaGreatDoor
