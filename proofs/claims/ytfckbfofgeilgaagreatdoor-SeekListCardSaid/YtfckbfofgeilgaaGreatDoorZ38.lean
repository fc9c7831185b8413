/-
  Texts put together (part 38): the walks and the plain laws on which the statement stands.
-/
import Derived.Test.YtfckbfofgeilgaaGreatDoorZ37
set_option maxRecDepth 100000
set_option maxHeartbeats 12800000
set_option linter.unusedVariables false
set_option linter.unusedSimpArgs false
open Go.Proofs.Tryz
open Go.Proofs.Tryz renaming prog->pG
open And renaming intro->tK
open Go renaming wpAnyH_done->nY,wp_region_held_drew->rF
open Go.Act renaming put->bJ
open Go.AllReadyH renaming cons->DG
open Go.Region renaming Mode->bKj
open Go.RowKit.Below renaming refl->aH
open Go.Value renaming slice->mM
open Go.World renaming size_setCell->aL5
open List renaming getElem?_cons_succ->gH,getElem?_cons_zero->gB,getElem?_eq_some_iff->eF,getElem?_set_self->bMl,getElem?_toArray->gA,length_cons->aU,length_nil->aV,setIfInBounds_toArray->bK,set_cons_succ->bB,set_cons_zero->bH,size_toArray->dB
open Nat renaming le_refl->aD,reduceAdd->cV,reduceSub->dC
open Or renaming inl->gJ,inr->gI
namespace Go.Proofs.YtfckbfofgeilgaaGreatDoor
open Go.RowKit Go Go.Shelf
section
variable {P:Program} {ops:Array Oper} {Q:Exit->Act->World->Prop} {md:bKj} {S:World->Prop}
abbrev Rdy (P:Program) (md:bKj) (ops:Array Oper) (Q:Exit->Act->World->Prop) (S:World->Prop) (e:Nat) (A:Array Bool) (a:Act) (w:World) (i:Nat) (o:Oper):Prop:=
 ∀d:Act->World->Prop,Shut (∀a w,S w->(S w->wpAnyH P md ops Q S e (A.setIfInBounds i true) a w)->d a w)->if Region.wanted o (yielded ops a.tmps)=true then Oper.wp P o a w d Q else d (a.put o.dst undef) w
theorem bL3 {e:Nat} {d:Array Bool} {a:Act} {w:World} (i j:Nat) {o A:Oper} (D:Region.ready md ops d=[i,j]) (F:ops[i]? =some o) (G:ops[j]? =some A)
  (h:Rdy P md ops Q S e d a w i o) (I:Rdy P md ops Q S e d a w j A):wpAnyH P md ops Q S (e+1) d a w:=
 wpAnyH_ready D (by simp) (DG F h (DG G I AllReadyH.nil))
end
section
variable {w W W':World} {B z n r g Z cap:Nat} {y0 y1:Value} {T:List Value} {a:ByteArray} {vi vh:Value} {room clock:Int} {P:List Prt} {H:List Hld} {Rs:List Rdr} {dec:Int}
theorem DkM.bel (h:DkM W Z n g cap T a vi vh room clock P H Rs dec) (d:Below W.heap.size W W'):DkM W' Z n g cap T a vi vh room clock P H Rs dec:=h.below (d.mono h.zw)
structure AtE (w W:World) (B z n r g:Nat) (y0 y1:Value):Prop where
 x:Arr W z 128 [.pointer (some ⟨n,0,none⟩),.int .i64 (r:Int)]
 y:Arr W (z+1) 47 [y0,y1]
 b:Below B w W
 k:bK6 w W g n
 s:(B<=g/\B<=n)/\g<z/\n<z/\w.heap.size<=z
theorem AtE.bel (q:AtE w W B z n r g y0 y1) (h:Below W.heap.size W W'):AtE w W' B z n r g y0 y1:=
 ⟨q.x.below h q.x.lt,q.y.below h q.y.lt,q.b.trans (h.mono (by have:=q.x.lt;have:=q.s;omega)),q.k.bel h,q.s⟩
theorem AtE.drew (q:AtE w W B z n r g y0 y1):AtE w W.drew B z n r g y0 y1:=q.bel (aH _ _).drew
theorem AtE.put (q:AtE w W B z n r g y0 y1) (p:Addr) (d:p.block=g\/p.block=n) (v:Value):AtE w (W.setCell p v) B z n r g y0 y1:=by
 have:=q.s;exact⟨q.x.other p (by rcases d with e|e<;>omega) v,q.y.other p (by rcases d with e|e<;>omega) v,q.b.setCell (by rcases d with e|e<;>omega) v,q.k.put p (by rcases d with e|e<;>simp[e]) v,q.s⟩
theorem AtE.box (q:AtE w W B z n r g y0 y1) (p:Addr) (d:z+1<p.block) (v:Value):AtE w (W.setCell p v) B z n r g y0 y1:=by
 have:=q.s;exact⟨q.x.other p (by omega) v,q.y.other p (by omega) v,q.b.setCell (by omega) v,q.k.put p (by omega) v,q.s⟩
theorem AtE.kept (q:AtE w W B z n r g y0 y1) (h:Below B W W') (k:bK6 W W' g n):AtE w W' B z n r g y0 y1:=by
 have s:=q.s;have l:=q.x.lt;exact⟨k.arr q.x (by omega) (by omega),k.arr q.y (by omega) (by omega),q.b.trans (h.mono (by omega)),q.k.trans k,s⟩
theorem AtE.rep (q:AtE w W B z n r g y0 y1) (v0 v1:Value):AtE w ((W.setCell ⟨z+1,0,none⟩ v0).setCell ⟨z+1,1,none⟩ v1) B z n r g v0 v1:=by
 have:=q.s;exact⟨(q.x.other ⟨z+1,0,none⟩ (show z+1≠z by omega) v0).other ⟨z+1,1,none⟩ (show z+1≠z by omega) v1,(q.y.set 0 v0).set 1 v1,(q.b.setCell (p:=⟨z+1,0,none⟩) (show B<=z+1 by omega) v0).setCell (p:=⟨z+1,1,none⟩) (show B<=z+1 by omega) v1,(q.k.put ⟨z+1,0,none⟩ (.inr (.inr (show w.heap.size<=z+1 by omega))) v0).put ⟨z+1,1,none⟩ (.inr (.inr (show w.heap.size<=z+1 by omega))) v1,q.s⟩
theorem bM8 (h:DkM w Z n g cap T a vi vh room clock P H Rs dec) (r:Nat) (A:B<=g/\B<=n):AtE w ((w.alloc (.cells #[.pointer (some ⟨n,0,none⟩),.int .i64 (r:Int)] 128)).alloc (.cells #[.string ⟨#[]⟩,.int .i64 0] 47)) B w.heap.size n r g (.string ⟨#[]⟩) (.int .i64 0)/\DkM ((w.alloc (.cells #[.pointer (some ⟨n,0,none⟩),.int .i64 (r:Int)] 128)).alloc (.cells #[.string ⟨#[]⟩,.int .i64 0] 47)) Z n g cap T a vi vh room clock P H Rs dec:=by
 have d:=bD (bD (aH w.heap.size w) (.cells #[.pointer (some ⟨n,0,none⟩),.int .i64 (r:Int)] 128)) (.cells #[.string ⟨#[]⟩,.int .i64 0] 47);have D:=(Arr.new w 128 [.pointer (some ⟨n,0,none⟩),.int .i64 (r:Int)]).alloc (.cells #[.string ⟨#[]⟩,.int .i64 0] 47);have e:=Arr.new (w.alloc (.cells #[.pointer (some ⟨n,0,none⟩),.int .i64 (r:Int)] 128)) 47 [.string ⟨#[]⟩,.int .i64 0];rw[World.size_alloc] at e;have F:=h.zw;have G:=h.zg;have I:=h.zn;exact⟨⟨D,e,d.mono (by omega),bK6.of g n d,A,by omega,by omega,aD _⟩,h.below (d.mono F)⟩
theorem bPk {v:Value} {l:lC} (h:RdR W v l) {p:Addr} (d:v.ownBlock≠some p.block\/l.flatten=[]) (x:Value):RdR (W.setCell p x) v l:=by
 rcases d with d|d
 ·exact bLb h d x
 ·obtain⟨a,cap,rfl,e,A,-⟩:=h;exact⟨a,cap,rfl,e,A,.inl d⟩
theorem RdZ.out {v:Value} {l:lC} (h:RdZ W Z v l) {b:Nat} (d:Z<=b):v.ownBlock≠some b\/l.flatten=[]:=by
 by_cases q:v.ownBlock=some b
 ·exact .inr ((h.2 b q).resolve_right (by omega))
 ·exact .inl q
theorem DkM.far (h:DkM W Z n g cap T a vi vh room clock P H Rs dec) (p:Addr) (d:p.block≠n/\p.block≠g) (e:vi.ownBlock≠some p.block\/((gU 0 P).map bG).flatten=[]) (A:vh.ownBlock≠some p.block\/(H.map mX).flatten=[]) (v:Value):DkM (W.setCell p v) Z n g cap T a vi vh room clock P H Rs dec:=
 ⟨h.arr.other p d.1 v,h.rds.other p d.2 v,⟨bPk h.ri.1 e v,h.ri.2⟩,⟨bPk h.rh.1 A v,h.rh.2⟩,h.ng,h.ni,h.nh,h.cp,h.zn,h.zg,by rw[aL5];exact h.zw⟩
theorem DkM.setH (h:DkM W Z n g cap T a vi vh room clock P H Rs dec) (e:Int) {u:Value} {A:List Hld} {C:Nat} (D:RdR W u (A.map mX)) (F:∀b,u.ownBlock=some b->C<=b) (I:n<C/\g<C):DkM (((W.setCell ⟨n,2,none⟩ (.int .i64 room)).setCell ⟨n,3,none⟩ (.int .i64 e)).setCell ⟨n,4,none⟩ u) W.heap.size n g cap T a vi u room e P A Rs dec:=by
 have d:=h.up h.zw (aD _);have u1:u.ownBlock≠some n:=fun q=>by have:=F n q;omega
 have G:u.ownBlock≠some g:=fun q=>by have:=F g q;omega
 exact⟨((h.arr.set 2 _).set 3 _).set 4 _,((h.rds.other _ h.ng _).other _ h.ng _).other _ h.ng _,⟨bLb (bLb (bLb d.ri.1 h.ni.2 _) h.ni.2 _) h.ni.2 _,d.ri.2⟩,⟨bLb (bLb (bLb D u1 _) u1 _) u1 _,(RdZ.of D).2⟩,h.ng,h.ni,⟨G,u1⟩,h.cp,d.zn,d.zg,by rw[aL5,aL5,aL5];exact aD _⟩
theorem DkM.put (h:DkM W Z n g cap T a vi vh room clock P H Rs dec) {b:Nat} (d:Z<=b) (i j:Nat) (v0 v1:Value):DkM ((W.setCell ⟨b,i,none⟩ v0).setCell ⟨b,j,none⟩ v1) Z n g cap T a vi vh room clock P H Rs dec:=
 h.below (((aH Z W).setCell (p:=⟨b,i,none⟩) d v0).setCell (p:=⟨b,j,none⟩) d v1)
end
theorem bPl {w:World} {Z n g cap:Nat} {T:List Value} {a:ByteArray} {vi vh:Value} {room clock:Int} {P:List Prt} {H:List Hld} {Rs:List Rdr} {dec:Int} (h:DkM w Z n g cap T a vi vh room clock P H Rs dec) {r o m f e k:Nat} {s:Int} {tx:ByteArray} (R:Rs[r]? =some (bK5 P o m e k s tx)) (hR:jA (gU 0 P)) (hP:P.length<=2000) (hU:(iH (P.map Prt.t)).size<=1000000000) (hg:bL9 P o m f e k) {p:Prt} (hp:P[k]? =some p) {B:Nat} (hB:B<=g/\B<=n):
  Calls pG 128 #[atV n r,.string p.t] w fun x w'=>x=.returned (.tuple #[.bool (bMh k e),.agg #[.string (bLx P o m e k),.int .i64 (bLy P o m e k)]])/\DkM w' Z n g cap T a vi vh room clock P H (Rs.set r (bMa P o m e k)) dec/\Below B w w'/\bK6 w w' g n:=by
 have hr:=(eF.1 R).1;obtain⟨ah,ch,c1,-⟩:=h.rh.1.open (bLd H) (by decide);obtain⟨nh,c2⟩:=ex1 ((H.map mX).length);rw[<-c2] at c1;clear c2;subst c1;obtain⟨i1,i2⟩:=(hg.in hR).2.2 k p hp hg.fk hg.ke;have d5:=bMx P k;have d6:=bMx P (k+1);have d7:=bNk hp;have b1:=bRi hp i1 i2;obtain⟨m1,m2,o1,-,-,e6,e7⟩:=hg;have c7:=fun W (k:DkM W Z n g cap T a vi (.slice ah nh ch) room clock P H Rs dec)=>bMz k hr
 have b2:=fun W (k1:DkM W Z n g cap T a vi (.slice ah nh ch) room clock P H Rs dec)=>bPh k1 R (k:=k) rfl hp hP
 obtain⟨A,a6⟩:=ex1 (ahB P k);obtain⟨ZZ,b3⟩:=ex1 (p.t.size);have b4:=fun W=>bO9 p.a p.r p.y A ZZ o m W (by omega) (by omega) (by omega) (by omega) (by omega)
 rw[<-a6,<-b3] at b2;rw[<-a6,<-b3] at b1;obtain⟨F,hF⟩:=ex1 (o-A);obtain⟨TT,hT⟩:=ex1 (max (min (o+m-A) ZZ) F);rw[<-hF,<-hT] at b4 b1;have c8:F<=TT/\TT<=p.t.size:=by omega
 have e8:(F:Int)<=(TT:Int):=by omega
 have e9:(TT:Int)<=(p.t.size:Int):=by omega
 have HA:=hid a6;have c9:=bN5 P o m k;unfold bK5 at R;obtain⟨G,hG⟩:=ex1 (bLh P o m k);obtain⟨J,b5⟩:=ex1 (bLh P o m (k+1));rw[<-hG,<-b5] at b1;rw[<-hG] at R c9;have d0:=hid b5;have f1:¬9223372036854775807<G.size+(TT-F):=by omega
 obtain⟨q0,D0⟩:=bM8 h r hB;have d8:=h.zw;clear a6 b3 hF hT hG b5 i1 i2 d5 d6 d7 c9 h;go_enter func128,ntmps128;go_wp2_with fail;refine(c7 _ D0).mono ?_;obtain⟨z,hz⟩:=ex1 (w.heap.size);rw[<-hz] at q0 d8 ⊢;clear hz;rintro e1 w2 ⟨rfl,h2⟩;have q2:=q0.bel h2;have D2:=D0.bel h2;clear q0 D0 h2;go_wp2_with fail;have U:∀w',Below w2.heap.size w2 w'->(fun d:World=>d.cell? ⟨z,0,none⟩=some (.pointer (some ⟨n,0,none⟩))/\d.cell? ⟨z,1,none⟩=some (.int .i64 (r:Int))/\d.cell? ⟨g,r*7+1,none⟩=some (.int .i64 (o:Int))/\d.cell? ⟨g,r*7+2,none⟩=some (.int .i64 (m:Int))) w':=fun w' hw=>
  ⟨(q2.bel hw).x.cell (i:=0) rfl,(q2.bel hw).x.cell (i:=1) rfl,(D2.bel hw).cell R (j:=1) rfl,(D2.bel hw).cell R (j:=2) rfl⟩
 have bc:Below w2.heap.size w2 w2.drew:=(aH _ _).drew;have q3:=q2.drew;have D3:=D2.bel bc;refine rF (S:=(fun d:World=>d.cell? ⟨z,0,none⟩=some (.pointer (some ⟨n,0,none⟩))/\d.cell? ⟨z,1,none⟩=some (.int .i64 (r:Int))/\d.cell? ⟨g,r*7+1,none⟩=some (.int .i64 (o:Int))/\d.cell? ⟨g,r*7+2,none⟩=some (.int .i64 (m:Int)))) (by kernel_rfl) (U _ bc) (fun a3=>?_);generalize w2.drew=w3 at*
 refine bKf [0,2,3,4,5,6,7,8,9] ?_
 iterate 9
  refine bKg (by simp only[gA,gH,gB];rfl) (by kernel_rfl) (by exact fun _ _ _ h=>h) (by first|exact gI ⟨by rfl,rfl⟩|(refine gJ ⟨by rfl,?_⟩;intro w' a0;(try dsimp only at a0);(try go_simp);try with_reducible rfl)) a3 ?_
  try simp only[bJ,bK,bH,bB]
 refine dJ (i:=1) (by kernel_rfl) rfl (fun K I=>?_);go_simp;refine(b2 w3 D3).mono ?_;rintro e1 w4 ⟨rfl,h4⟩;have a7:=bc.trans (h4.mono bc.size);have d1:=U _ a7;have q4:=q3.bel h4;have D4:=D3.bel h4
 (try go_wp2_with fail)
 refine I.out _ _ d1 (fun _=>?_)
 try simp only[bJ,bK,bH,bB]
 clear I K;refine dJ (i:=10) (by kernel_rfl) rfl (fun K I=>?_);go_simp;refine(b4 w4).mono ?_;rintro e1 w5 ⟨rfl,h5⟩;have b6:=U _ (a7.trans (h5.mono a7.size));have q5:=q4.bel h5;have a1:=D4.bel h5
 (try go_wp2_with fail)
 refine I.out _ _ b6 (fun _=>?_)
 try simp only[bJ,bK,bH,bB]
 clear I K;refine bKf [11,12,13,14,15] ?_
 iterate 5
  refine bKg (by simp only[gA,gH,gB];rfl) (by kernel_rfl) (by exact fun _ _ _ h=>h) (by first|exact gI ⟨by rfl,rfl⟩|(refine gJ ⟨by rfl,?_⟩;intro w' a0;(try dsimp only at a0);(try go_simp);try with_reducible rfl)) b6 ?_
  try simp only[bJ,bK,bH,bB]
 refine nY (by kernel_rfl) ?_ _;clear a3 d1 b6 U bc a7 q2 q3 q4 D2 D3 D4 h4 h5 c7 b2 b4;go_wp2_with fail;have c5:=a1.cell R (j:=5) rfl;have f5:=a1.rds.free (r*7+5);have l5:=a1.rds.lt;have F1:F<=TT:=c8.1;have F2:TT<=p.t.size:=c8.2
 go_region
 have a2:=(a1.setR R (j:=5) (u:=.string J) (y':=⟨s,o,m,k,e,J,tx⟩) (by decide) rfl).drew;have q6:=(q5.put ⟨g,r*7+5,none⟩ (.inl rfl) (.string J)).drew;clear c5 f5 l5 F1 F2 q5;generalize (w5.setCell ⟨g,r*7+5,none⟩ (.string J)).drew=w6 at*
 have M:(Rs.set r ⟨s,o,m,k,e,J,tx⟩)[r]? =some ⟨s,o,m,k,e,J,tx⟩:=bMl hr;have c6:=a2.cell M (j:=6) rfl;have f6:=a2.rds.free (r*7+6);have c3:=a2.cell M (j:=3) rfl;have c4:=a2.cell M (j:=4) rfl;have l6:=a2.rds.lt;go_wp2_with fail;have a4:=a1.upd R a2 (j:=6) (u:=.string ⟨#[]⟩) (y2:=⟨s,o,m,k,e,J,⟨#[]⟩⟩) (by decide) rfl;have q7:=q6.put ⟨g,r*7+6,none⟩ (.inl rfl) (.string ⟨#[]⟩);clear c6 f6 c3 c4 l6 q6 a2 M;generalize w6.setCell ⟨g,r*7+6,none⟩ (.string ⟨#[]⟩)=w7 at*
 have M:(Rs.set r ⟨s,o,m,k,e,J,⟨#[]⟩⟩)[r]? =some ⟨s,o,m,k,e,J,⟨#[]⟩⟩:=bMl hr;have c3:=a4.cell M (j:=3) rfl;have c4:=a4.cell M (j:=4) rfl;have l6:=a4.rds.lt
 go_quiet (fail)
 have bq:=below_drewN (aH w7.heap.size w7) nq;have O:=a4.bel bq;have V:=q7.bel bq;clear c3 c4 l6 a4 q7 bq;generalize w7.drewN nq=w8 at*
 have b7:=fun W h=>bPe a vi room clock dec ah (some ⟨g,0,none⟩) nh ch Rs.length cap P o m W h hR hP hU (by omega) (by omega)
 obtain⟨CC,a8⟩:=ex1 (bLj (iH (P.map Prt.t)).size o m);have d9:CC=0\/CC=8:=by rw[a8];unfold bLj;split<;>simp
 rw[<-a8] at b7;have e2:=hid a8;clear a8
 by_cases q:k=e
 ·have t1:((k:Int)==(e:Int))=true:=beq_iff_eq.2 (by omega);have d2:=fun W (k1:DkM W Z n g cap T a vi (.slice ah nh ch) room clock P H (Rs.set r ⟨s,o,m,k,e,J,⟨#[]⟩⟩) dec)=>bRx k1 M d9 hB.1
  go_wp2_with fail;have r1:=O.cell M (j:=1) rfl;have r2:=O.cell M (j:=2) rfl
  have U:∀(W:World) (y:Rdr) (y0 y1:Value),AtE w W B z n r g y0 y1->DkM W Z n g cap T a vi (.slice ah nh ch) room clock P H (Rs.set r y) dec->(fun d:World=>d.cell? ⟨z,0,none⟩=some (.pointer (some ⟨n,0,none⟩))/\d.cell? ⟨z,1,none⟩=some (.int .i64 (r:Int))/\d.cell? ⟨n,0,none⟩=some (.string a)/\d.cell? ⟨n,1,none⟩=some vi/\d.cell? ⟨n,2,none⟩=some (.int .i64 room)/\d.cell? ⟨n,3,none⟩=some (.int .i64 clock)/\d.cell? ⟨n,4,none⟩=some (.slice ah nh ch)/\d.cell? ⟨n,5,none⟩=some (.slice (some ⟨g,0,none⟩) Rs.length cap)/\d.cell? ⟨n,6,none⟩=some (.int .i64 dec)) W:=fun W y _ _ q D=>by
   have Y:=D.arr;rw[List.length_set] at Y;exact⟨q.x.cell (i:=0) rfl,q.x.cell (i:=1) rfl,Y.cell (i:=0) rfl,Y.cell (i:=1) rfl,Y.cell (i:=2) rfl,Y.cell (i:=3) rfl,Y.cell (i:=4) rfl,Y.cell (i:=5) rfl,Y.cell (i:=6) rfl⟩
  have a9:=U _ _ _ _ V.drew O.drew;refine rF (S:=(fun d:World=>d.cell? ⟨z,0,none⟩=some (.pointer (some ⟨n,0,none⟩))/\d.cell? ⟨z,1,none⟩=some (.int .i64 (r:Int))/\d.cell? ⟨n,0,none⟩=some (.string a)/\d.cell? ⟨n,1,none⟩=some vi/\d.cell? ⟨n,2,none⟩=some (.int .i64 room)/\d.cell? ⟨n,3,none⟩=some (.int .i64 clock)/\d.cell? ⟨n,4,none⟩=some (.slice ah nh ch)/\d.cell? ⟨n,5,none⟩=some (.slice (some ⟨g,0,none⟩) Rs.length cap)/\d.cell? ⟨n,6,none⟩=some (.int .i64 dec))) (by kernel_rfl) a9 (fun a3=>?_);refine bKf [0,1,2,3,4,5,6,7,9,10,11] ?_
  iterate 11
   refine bKg (by simp only[gA,gH,gB];rfl) (by kernel_rfl) (by exact fun _ _ _ h=>h) (by first|exact gI ⟨by rfl,rfl⟩|(refine gJ ⟨by rfl,?_⟩;intro w' a0;(try dsimp only at a0);(try go_simp);try with_reducible rfl)) a3 ?_
   try simp only[bJ,bK,bH,bB]
  refine bL3 8 12 (by kernel_rfl) rfl rfl (fun K I=>?_) (fun K I=>?_)
  all_goals
   go_simp;refine I.out _ _ a9 (fun _=>?_)
   try simp only[bJ,bK,bH,bB]
   clear I K
  refine dJ (i:=12) (by kernel_rfl) rfl (fun K I=>?_)
  rotate_left
  refine dJ (i:=8) (by kernel_rfl) rfl (fun K I=>?_)
  all_goals
   go_simp;refine I.out _ _ a9 (fun _=>?_)
   try simp only[bJ,bK,bH,bB]
   clear I K;clear a9 r1 r2 t1;refine dJ (i:=13) (by kernel_rfl) rfl (fun K I=>?_);go_simp;refine(b7 w8.drew O.drew.ri.1).mono ?_;rintro e1 w9 ⟨rfl,h9⟩;have q9:=V.drew.bel h9;have b8:=O.drew.bel h9
   (try go_wp2_with fail)
   refine I.out _ _ (U _ _ _ _ q9 b8) (fun _=>?_)
   try simp only[bJ,bK,bH,bB]
   clear I K;refine dJ (i:=14) (by kernel_rfl) rfl (fun K I=>?_);go_simp;refine(d2 w9 b8).mono ?_;rintro e1 f2 ⟨rfl,a5,e3,e4⟩;have L:=q9.kept e3 e4;rw[List.set_set] at a5
   (try go_wp2_with fail)
   refine I.out _ _ (U _ _ _ _ L a5) (fun _=>?_)
   try simp only[bJ,bK,bH,bB]
   clear I K;have e0:=L.y.cell (i:=0) rfl;have e1:=L.y.cell (i:=1) rfl;have g0:=L.y.free 0;have g1:=L.y.free 1;have ly:=L.y.lt
   iterate 3
    refine fV 0 0 (by simp only[dB,aU,aV,cV,dC]<;>rfl) (by simp only[gA,gH,gB];rfl) (by kernel_rfl) (by exact fun _ _ _ h=>h) (by first|exact gI ⟨by rfl,rfl⟩|(refine gJ ⟨by rfl,?_⟩;intro w' a0;(try dsimp only at a0);(try go_simp);try with_reducible rfl)) (U _ _ _ _ L a5) ?_
    try simp only[bJ,bK,bH,bB]
   refine dJ (i:=18) (by kernel_rfl) rfl (fun K I=>?_);go_simp;have b0:=L.rep (.string J) (.int .i64 CC);have d3:=a5.put (b:=z+1) (by omega) 0 1 (.string J) (.int .i64 CC);refine I.out _ _ (U _ _ _ _ b0 d3) (fun _=>?_)
   try simp only[bJ,bK,bH,bB]
   clear I K;refine nY (by kernel_rfl) ?_ _;clear a3 U e0 e1 g0 g1 ly V O q9 b8 L a5 d2 b7;go_wp2_with fail;refine bMd rfl b0.y rfl rfl rfl ?_;rw[bMh,bLx,bLy,bMa,aB q,aB q,aB q,aG q,<-d0.out,<-e2.out];exact⟨rfl,d3,b0.b,b0.k⟩
 ·have t1:((k:Int)==(e:Int))=false:=beq_eq_false_iff_ne.2 (by omega);have l8:=O.rds.lt;have c3:=O.cell M (j:=3) rfl;have f3:=O.rds.free (r*7+3);have c0:w8.cell? ⟨g,r*7,none⟩=_:=O.cell M (j:=0) rfl;have f0:=O.rds.free (r*7);have e0:=V.y.cell (i:=0) rfl;have e1:=V.y.cell (i:=1) rfl;have g0:=V.y.free 0;have g1:=V.y.free 1;have ly:=V.y.lt;have f4:g≠z+1:=by have:=V.s;omega
  have m1:IntKind.i64.wrap ((k:Int)+1)=((k+1:Nat):Int):=by rw[IntKind.wrap_i64];omega
  have m2:(k:Int)+1=((k+1:Nat):Int):=by omega
  have m3:=tE (k+1) (by omega);obtain⟨K1,b9⟩:=ex1 (k+1);rw[<-b9] at m1 m2 m3;have d4:=hid b9;clear b9;go_wp2_with fail;have D9:=a1.upd R O (j:=3) (u:=.int .i64 (K1:Int)) (y2:=⟨s,o,m,K1,e,J,⟨#[]⟩⟩) (by decide) rfl;have e5:=(a1.upd R D9 (j:=0) (u:=.int .i64 1) (y2:=⟨1,o,m,K1,e,J,⟨#[]⟩⟩) (by decide) rfl).put (b:=z+1) (by omega) 0 1 (.string ⟨#[]⟩) (.int .i64 0);have L:=((V.put ⟨g,r*7+3,none⟩ (.inl rfl) (.int .i64 (K1:Int))).put ⟨g,r*7,none⟩ (.inl rfl) (.int .i64 1)).rep (.string ⟨#[]⟩) (.int .i64 0);refine bMd rfl L.y rfl rfl rfl ?_
  rw[bMh,bLx,bLy,bMa,aA q,aA q,aA q,aE q,bK5,<-d4.out,show bLh P o m K1=J by rw[d0.out,d4.out]];exact⟨rfl,e5,L.b,L.k⟩
def bNq (S:Dk) (k:Int):ByteArray:=match bLt S.Hs k with|none=>⟨#[]⟩|some x=>x.t
def bM9 (S:Dk) (k:Int):Int:=match bLt S.Hs k with|none=>5|some _=>0
theorem bRy {P:List Prt} {room:Int} {S:Dk} (d:bK7 P room S) (a0:room<=11) (M:S.clock<1099511627776) (k:Nat) (hk:k<=2000) (v:Value) (W:World) (O:RdR W v ((byB S.Hs).map mX)):
  Calls pG 126 #[.agg #[.int .i64 room,.int .i64 S.clock,v],.int .i64 (k:Int)] W fun e w'=>∃R U A I D,e=.returned (.tuple #[.string (bNq S k),.agg #[.int .i64 R,.int .i64 U,.slice A I D],.int .i64 (bM9 S k)])/\Below W.heap.size W w'/\(∀x,bLt S.Hs k=some x->R=room/\U=S.clock+1/\RdR w' (.slice A I D) ((byB (bLo room S.clock S.Hs k x.t)).map mX)/\∀b,(mM A I D).ownBlock=some b->W.heap.size<=b/\b<w'.heap.size):=by
 have F:=d.shelf.perm;have V:∀h∈byB S.Hs,h.b<=9223372036854775807:=fun h J=>by have:=(d.hld (F.mem_iff.1 J)).2.1;omega
 unfold bNq bM9
 cases Y:bLt S.Hs (k:Int) with
 |none=>
  refine(bQ6 v room S.clock k (byB S.Hs) W O d.shelf.okH V M (by omega) (by omega) (fun h J=>bP9 Y h (F.mem_iff.1 J))).mono ?_;rintro e w' ⟨rfl,L⟩;exact⟨_,_,_,_,_,rfl,L,fun x hx=>by cases hx⟩
 |some x=>
  obtain⟨Z,h2⟩:=bNg Y;have hl:=F.length_eq;have a1:=d.shelf.len;have:=bQ7 v room S.clock (byB S.Hs) x W O d.shelf.okH V (by omega) M (F.mem_iff.2 Z);rw[h2] at this;refine this.mono ?_;rintro e w' ⟨u,rfl,G,L⟩;rw[bN8 d.shelf x.t (by omega) (by omega) (by have:=bOo Z h2;omega)] at G;obtain⟨A,D,rfl,-⟩:=bLm G.rd;refine⟨_,_,_,_,_,rfl,L,fun y hy=>?_⟩
  cases hy
  exact⟨rfl,rfl,G.rd,G.lt⟩
def bNa (w:World) (B n g cap:Nat) (T:List Value) (a:ByteArray) (A:Value) (room:Int) (P:List Prt) (R:(Bool×ByteArray×Int)×Dk) (e:Ending) (w':World):Prop:=
 ∃d,e=.returned (.tuple #[.bool R.1.1,.agg #[.string R.1.2.1,.int .i64 R.1.2.2]])/\DkM w' w'.heap.size n g cap T a A d room R.2.clock P (byB R.2.Hs) R.2.Rs R.2.dec/\Below B w w'/\bK6 w w' g n/\∀b,d.ownBlock=some b->B<=b
theorem bRz {w:World} {Z n g cap:Nat} {T:List Value} {a:ByteArray} {vi vh:Value} {room:Int} {P:List Prt} {S:Dk} (h:DkM w Z n g cap T a vi vh room S.clock P (byB S.Hs) S.Rs S.dec) (hS:bK7 P room S) (b0:room<=11) (hc:S.clock<1099511627776) {r o m f e k:Nat} (hy:S.Rs[r]? =some (bK5 P o m e k 1 ⟨#[]⟩)) (hg:bL9 P o m f e k) {B:Nat} (hB:B<=g/\B<=n) (b1:∀b,vh.ownBlock=some b->B<=b):
  Calls pG 92 #[atV n r] w (bNa w B n g cap T a vi room P (goD P room S r (bK5 P o m e k 1 ⟨#[]⟩))):=by
 have hr:=(eF.1 hy).1;obtain⟨p,hp⟩:∃p,P[k]? =some p:=⟨_,List.getElem?_eq_getElem (Nat.lt_of_le_of_lt hg.ke hg.el)⟩;have b2:k<=2000:=by have:=hS.few;have:=hg.ke;have:=hg.el;omega
 have a3:=fun W (k:DkM W Z n g cap T a vi vh room S.clock P (byB S.Hs) S.Rs S.dec)=>bMz k hr
 have hT:=fun W=>bRy hS b0 hc k b2 vh W
 obtain⟨X,d⟩:=ex1 (bNq S k);obtain⟨C,hC⟩:=ex1 (bM9 S k);rw[<-d,<-hC] at hT;have HX:=hid d;have HC:=hid hC;obtain⟨q0,D0⟩:=bM8 h r hB;have b3:=h.zw;have b5:=h.zn;have b6:=h.zg;clear d hC;go_enter func92,ntmps92;go_upto_region 1 with fail;generalize (w.alloc (.cells #[.pointer (some ⟨n,0,none⟩),.int .i64 (r:Int)] 128)).alloc (.cells #[.string ⟨#[]⟩,.int .i64 0] 47)=w1 at*
 obtain⟨z,hz⟩:=ex1 (w.heap.size);rw[<-hz] at q0 b3 ⊢;have HZ:=hid hz;clear hz
 go_cut [4,5,6] (fun c4 c5 c6 R=>∃A U ck V Y uc,c4=.string X/\c5=.pointer (some ⟨A,0,none⟩)/\c6=.int .i64 C/\AtE w R B z n r g (.string ⟨#[]⟩) (.int .i64 0)/\DkM R Z n g cap T a vi vh room S.clock P (byB S.Hs) S.Rs S.dec/\z+1<A/\Arr R A 37 [.int .i64 U,.int .i64 ck,.slice V Y uc]/\(∀x,bLt S.Hs k=some x->U=room/\ck=S.clock+1/\RdR R (.slice V Y uc) ((byB (bLo room S.clock S.Hs k x.t)).map mX)/\∀b,(mM V Y uc).ownBlock=some b->z+2<=b/\b≠A))
 case first=>
  have I:∀W:World,AtE w W B z n r g (.string ⟨#[]⟩) (.int .i64 0)->DkM W Z n g cap T a vi vh room S.clock P (byB S.Hs) S.Rs S.dec->(fun R:World=>R.cell? ⟨z,0,none⟩=some (.pointer (some ⟨n,0,none⟩))/\R.cell? ⟨z,1,none⟩=some (.int .i64 (r:Int))/\R.cell? ⟨n,2,none⟩=some (.int .i64 room)/\R.cell? ⟨n,3,none⟩=some (.int .i64 S.clock)/\R.cell? ⟨n,4,none⟩=some vh/\R.cell? ⟨g,r*7+3,none⟩=some (.int .i64 (k:Int))) W:=fun W q D=>
   ⟨q.x.cell (i:=0) rfl,q.x.cell (i:=1) rfl,D.arr.cell (i:=2) rfl,D.arr.cell (i:=3) rfl,D.arr.cell (i:=4) rfl,D.cell hy (j:=3) rfl⟩
  have q1:=q0.drew;have O:=D0.drew;refine rF (S:=(fun R:World=>R.cell? ⟨z,0,none⟩=some (.pointer (some ⟨n,0,none⟩))/\R.cell? ⟨z,1,none⟩=some (.int .i64 (r:Int))/\R.cell? ⟨n,2,none⟩=some (.int .i64 room)/\R.cell? ⟨n,3,none⟩=some (.int .i64 S.clock)/\R.cell? ⟨n,4,none⟩=some vh/\R.cell? ⟨g,r*7+3,none⟩=some (.int .i64 (k:Int)))) (by kernel_rfl) (I _ q1 O) (fun b4=>?_);clear q0 D0;generalize w1.drew=w2 at*
  refine bKf [0,1,2,3,4,5] ?_
  iterate 6
   refine bKg (by simp only[gA,gH,gB];rfl) (by kernel_rfl) (by exact fun _ _ _ h=>h) (by first|exact gI ⟨by rfl,rfl⟩|(refine gJ ⟨by rfl,?_⟩;intro w' J;(try dsimp only at J);(try go_simp);try with_reducible rfl)) b4 ?_
   try simp only[bJ,bK,bH,bB]
  refine bL3 6 15 (by kernel_rfl) rfl rfl (fun K F=>?_) (fun K F=>?_)
  ·go_simp;refine(a3 w2 O).mono ?_;rintro e1 w3 ⟨rfl,h3⟩;have G:=q1.bel h3;have D3:=O.bel h3
   (try go_wp2_with fail)
   refine F.out _ _ (I _ G D3) (fun _=>?_)
   try simp only[bJ,bK,bH,bB]
   clear F K
   iterate 3
    refine fV 0 0 (by simp only[dB,aU,aV,cV,dC]<;>rfl) (by simp only[gA,gH,gB];rfl) (by kernel_rfl) (by exact fun _ _ _ h=>h) (by first|exact gI ⟨by rfl,rfl⟩|(refine gJ ⟨by rfl,?_⟩;intro w' J;(try dsimp only at J);(try go_simp);try with_reducible rfl)) (I _ G D3) ?_
    try simp only[bJ,bK,bH,bB]
   have l3:=G.y.lt;refine bL3 10 15 (by kernel_rfl) rfl rfl (fun K F=>?_) (fun K F=>?_)
   ·go_simp;refine(hT w3 D3.rh.1).mono ?_;rintro e1 w4 ⟨U,ck,V,Y,uc,rfl,h4,hu⟩;have L:=G.bel h4;have M:=D3.bel h4
    (try go_wp2_with fail)
    refine F.out _ _ (I _ L M) (fun _=>?_)
    try simp only[bJ,bK,bH,bB]
    clear F K
    iterate 4
     refine fV 0 0 (by simp only[dB,aU,aV,cV,dC]<;>rfl) (by simp only[gA,gH,gB];rfl) (by kernel_rfl) (by exact fun _ _ _ h=>h) (by first|exact gI ⟨by rfl,rfl⟩|(refine gJ ⟨by rfl,?_⟩;intro w' J;(try dsimp only at J);(try go_simp);try with_reducible rfl)) (I _ L M) ?_
     try simp only[bJ,bK,bH,bB]
    refine dJ (i:=15) (by kernel_rfl) rfl (fun K F=>?_);go_simp;have hb:=bD (aH w4.heap.size w4) (.cells #[.int .i64 0,.int .i64 0,.slice none 0 0] 37);have q5:=L.bel hb;have D5:=M.bel hb;have d:=Arr.new w4 37 [.int .i64 0,.int .i64 0,.slice none 0 0];change Arr (w4.alloc (.cells #[.int .i64 0,.int .i64 0,.slice none 0 0] 37)) _ _ _ at d;have a0:z+1<w4.heap.size:=L.y.lt;have a1:=fun x hx=>(hu x hx).imp id fun p=>p.imp id fun p=>tK (p.1.below hb) fun b q=>show z+2<=b/\b≠w4.heap.size by have:=p.2 b q;omega
    refine F.out _ _ (I _ q5 D5) (fun _=>?_)
    try simp only[bJ,bK,bH,bB]
    clear F K;clear L M hb h4 hu;generalize w4.alloc (.cells #[.int .i64 0,.int .i64 0,.slice none 0 0] 37)=W at*
    generalize w4.heap.size=A at*
    refine fV 0 0 (by simp only[dB,aU,aV,cV,dC]<;>rfl) (by simp only[gA,gH,gB];rfl) (by kernel_rfl) (by exact fun _ _ _ h=>h) (by first|exact gI ⟨by rfl,rfl⟩|(refine gJ ⟨by rfl,?_⟩;intro w' J;(try dsimp only at J);(try go_simp);try with_reducible rfl)) (I _ q5 D5) ?_
    try simp only[bJ,bK,bH,bB]
    have c0:=d.cell (i:=0) rfl;have c1:=d.cell (i:=1) rfl;have c2:=d.cell (i:=2) rfl;have f0:=d.free 0;have f1:=d.free 1;have f2:=d.free 2;refine dJ (i:=17) (by kernel_rfl) rfl (fun K F=>?_);go_simp;have q6:=((q5.box ⟨A,0,none⟩ a0 (.int .i64 U)).box ⟨A,1,none⟩ a0 (.int .i64 ck)).box ⟨A,2,none⟩ a0 (.slice V Y uc);have D6:=(D5.put (b:=A) (by omega) 0 1 (.int .i64 U) (.int .i64 ck)).below ((aH Z _).setCell (p:=⟨A,2,none⟩) (show Z<=A by omega) (.slice V Y uc))
    have a2:=fun x hx=>(a1 x hx).imp id fun p=>p.imp id fun p=>tK (bLb (bLb (bLb p.1 (p:=⟨A,0,none⟩) (fun q=>(p.2 _ q).2 rfl) (.int .i64 U)) (p:=⟨A,1,none⟩) (fun q=>(p.2 _ q).2 rfl) (.int .i64 ck)) (p:=⟨A,2,none⟩) (fun q=>(p.2 _ q).2 rfl) (.slice V Y uc)) p.2
    refine F.out _ _ (I _ q6 D6) (fun _=>?_)
    try simp only[bJ,bK,bH,bB]
    clear F K;refine fV 0 0 (by simp only[dB,aU,aV,cV,dC]<;>rfl) (by simp only[gA,gH,gB];rfl) (by kernel_rfl) (by exact fun _ _ _ h=>h) (by first|exact gI ⟨by rfl,rfl⟩|(refine gJ ⟨by rfl,?_⟩;intro w' J;(try dsimp only at J);(try go_simp);try with_reducible rfl)) (I _ q6 D6) ?_
    try simp only[bJ,bK,bH,bB]
    refine nY (by kernel_rfl) ?_ _;go_wp2_with fail;go_meet;exact⟨_,_,_,_,_,_,rfl,rfl,rfl,q6,D6,a0,((d.set 0 _).set 1 _).set 2 _,a2⟩
   ·go_simp;have hb:=bD (aH w3.heap.size w3) (.cells #[.int .i64 0,.int .i64 0,.slice none 0 0] 37);have L:=G.bel hb;have M:=D3.bel hb;have d:=Arr.new w3 37 [.int .i64 0,.int .i64 0,.slice none 0 0];change Arr (w3.alloc (.cells #[.int .i64 0,.int .i64 0,.slice none 0 0] 37)) _ _ _ at d;refine F.out _ _ (I _ L M) (fun _=>?_)
    try simp only[bJ,bK,bH,bB]
    clear F K;clear G D3 hb h3;generalize w3.alloc (.cells #[.int .i64 0,.int .i64 0,.slice none 0 0] 37)=w4 at*
    generalize w3.heap.size=A at*
    have a0:z+1<A:=l3;refine dJ (i:=10) (by kernel_rfl) rfl (fun K F=>?_);go_simp;refine(hT w4 M.rh.1).mono ?_;rintro e1 W ⟨U,ck,V,Y,uc,rfl,h5,hu⟩;have q5:=L.bel h5;have D5:=M.bel h5;have l4:=d.lt;have d:=d.below h5 d.lt;have a1:=fun x hx=>(hu x hx).imp id fun p=>p.imp id fun p=>p.imp id fun p b q=>show z+2<=b/\b≠A by have:=p b q;omega
    (try go_wp2_with fail)
    refine F.out _ _ (I _ q5 D5) (fun _=>?_)
    try simp only[bJ,bK,bH,bB]
    clear F K;clear L M h5 hu
    iterate 4
     refine fV 0 1 (by simp only[dB,aU,aV,cV,dC]<;>rfl) (by simp only[gA,gH,gB];rfl) (by kernel_rfl) (by exact fun _ _ _ h=>h) (by first|exact gI ⟨by rfl,rfl⟩|(refine gJ ⟨by rfl,?_⟩;intro w' J;(try dsimp only at J);(try go_simp);try with_reducible rfl)) (I _ q5 D5) ?_
     try simp only[bJ,bK,bH,bB]
    refine fV 0 0 (by simp only[dB,aU,aV,cV,dC]<;>rfl) (by simp only[gA,gH,gB];rfl) (by kernel_rfl) (by exact fun _ _ _ h=>h) (by first|exact gI ⟨by rfl,rfl⟩|(refine gJ ⟨by rfl,?_⟩;intro w' J;(try dsimp only at J);(try go_simp);try with_reducible rfl)) (I _ q5 D5) ?_
    try simp only[bJ,bK,bH,bB]
    have c0:=d.cell (i:=0) rfl;have c1:=d.cell (i:=1) rfl;have c2:=d.cell (i:=2) rfl;have f0:=d.free 0;have f1:=d.free 1;have f2:=d.free 2;refine dJ (i:=17) (by kernel_rfl) rfl (fun K F=>?_);go_simp;have q6:=((q5.box ⟨A,0,none⟩ a0 (.int .i64 U)).box ⟨A,1,none⟩ a0 (.int .i64 ck)).box ⟨A,2,none⟩ a0 (.slice V Y uc);have D6:=(D5.put (b:=A) (by omega) 0 1 (.int .i64 U) (.int .i64 ck)).below ((aH Z _).setCell (p:=⟨A,2,none⟩) (show Z<=A by omega) (.slice V Y uc))
    have a2:=fun x hx=>(a1 x hx).imp id fun p=>p.imp id fun p=>tK (bLb (bLb (bLb p.1 (p:=⟨A,0,none⟩) (fun q=>(p.2 _ q).2 rfl) (.int .i64 U)) (p:=⟨A,1,none⟩) (fun q=>(p.2 _ q).2 rfl) (.int .i64 ck)) (p:=⟨A,2,none⟩) (fun q=>(p.2 _ q).2 rfl) (.slice V Y uc)) p.2
    refine F.out _ _ (I _ q6 D6) (fun _=>?_)
    try simp only[bJ,bK,bH,bB]
    clear F K;refine fV 0 0 (by simp only[dB,aU,aV,cV,dC]<;>rfl) (by simp only[gA,gH,gB];rfl) (by kernel_rfl) (by exact fun _ _ _ h=>h) (by first|exact gI ⟨by rfl,rfl⟩|(refine gJ ⟨by rfl,?_⟩;intro w' J;(try dsimp only at J);(try go_simp);try with_reducible rfl)) (I _ q6 D6) ?_
    try simp only[bJ,bK,bH,bB]
    refine nY (by kernel_rfl) ?_ _;go_wp2_with fail;go_meet;exact⟨_,_,_,_,_,_,rfl,rfl,rfl,q6,D6,a0,((d.set 0 _).set 1 _).set 2 _,a2⟩
  ·go_simp;have hb:=bD (aH w2.heap.size w2) (.cells #[.int .i64 0,.int .i64 0,.slice none 0 0] 37);have G:=q1.bel hb;have D3:=O.bel hb;have l3:=q1.y.lt;have d:=Arr.new w2 37 [.int .i64 0,.int .i64 0,.slice none 0 0];change Arr (w2.alloc (.cells #[.int .i64 0,.int .i64 0,.slice none 0 0] 37)) _ _ _ at d;refine F.out _ _ (I _ G D3) (fun _=>?_)
   try simp only[bJ,bK,bH,bB]
   clear F K;clear q1 O hb;generalize w2.alloc (.cells #[.int .i64 0,.int .i64 0,.slice none 0 0] 37)=w3 at*
   generalize w2.heap.size=A at*
   have a0:z+1<A:=l3;refine dJ (i:=6) (by kernel_rfl) rfl (fun K F=>?_);go_simp;refine(a3 w3 D3).mono ?_;rintro e1 w4 ⟨rfl,h4⟩;have L:=G.bel h4;have M:=D3.bel h4;have d:=d.below h4 d.lt
   (try go_wp2_with fail)
   refine F.out _ _ (I _ L M) (fun _=>?_)
   try simp only[bJ,bK,bH,bB]
   clear F K
   iterate 3
    refine fV 0 1 (by simp only[dB,aU,aV,cV,dC]<;>rfl) (by simp only[gA,gH,gB];rfl) (by kernel_rfl) (by exact fun _ _ _ h=>h) (by first|exact gI ⟨by rfl,rfl⟩|(refine gJ ⟨by rfl,?_⟩;intro w' J;(try dsimp only at J);(try go_simp);try with_reducible rfl)) (I _ L M) ?_
    try simp only[bJ,bK,bH,bB]
   refine dJ (i:=10) (by kernel_rfl) rfl (fun K F=>?_);go_simp;refine(hT w4 M.rh.1).mono ?_;rintro e1 W ⟨U,ck,V,Y,uc,rfl,h5,hu⟩;have q5:=L.bel h5;have D5:=M.bel h5;have l4:=d.lt;have d:=d.below h5 d.lt;have a1:=fun x hx=>(hu x hx).imp id fun p=>p.imp id fun p=>p.imp id fun p b q=>show z+2<=b/\b≠A by have:=p b q;omega
   (try go_wp2_with fail)
   refine F.out _ _ (I _ q5 D5) (fun _=>?_)
   try simp only[bJ,bK,bH,bB]
   clear F K;clear L M G D3 h5 h4 hu
   iterate 4
    refine fV 0 1 (by simp only[dB,aU,aV,cV,dC]<;>rfl) (by simp only[gA,gH,gB];rfl) (by kernel_rfl) (by exact fun _ _ _ h=>h) (by first|exact gI ⟨by rfl,rfl⟩|(refine gJ ⟨by rfl,?_⟩;intro w' J;(try dsimp only at J);(try go_simp);try with_reducible rfl)) (I _ q5 D5) ?_
    try simp only[bJ,bK,bH,bB]
   refine fV 0 0 (by simp only[dB,aU,aV,cV,dC]<;>rfl) (by simp only[gA,gH,gB];rfl) (by kernel_rfl) (by exact fun _ _ _ h=>h) (by first|exact gI ⟨by rfl,rfl⟩|(refine gJ ⟨by rfl,?_⟩;intro w' J;(try dsimp only at J);(try go_simp);try with_reducible rfl)) (I _ q5 D5) ?_
   try simp only[bJ,bK,bH,bB]
   have c0:=d.cell (i:=0) rfl;have c1:=d.cell (i:=1) rfl;have c2:=d.cell (i:=2) rfl;have f0:=d.free 0;have f1:=d.free 1;have f2:=d.free 2;refine dJ (i:=17) (by kernel_rfl) rfl (fun K F=>?_);go_simp;have q6:=((q5.box ⟨A,0,none⟩ a0 (.int .i64 U)).box ⟨A,1,none⟩ a0 (.int .i64 ck)).box ⟨A,2,none⟩ a0 (.slice V Y uc);have D6:=(D5.put (b:=A) (by omega) 0 1 (.int .i64 U) (.int .i64 ck)).below ((aH Z _).setCell (p:=⟨A,2,none⟩) (show Z<=A by omega) (.slice V Y uc))
   have a2:=fun x hx=>(a1 x hx).imp id fun p=>p.imp id fun p=>tK (bLb (bLb (bLb p.1 (p:=⟨A,0,none⟩) (fun q=>(p.2 _ q).2 rfl) (.int .i64 U)) (p:=⟨A,1,none⟩) (fun q=>(p.2 _ q).2 rfl) (.int .i64 ck)) (p:=⟨A,2,none⟩) (fun q=>(p.2 _ q).2 rfl) (.slice V Y uc)) p.2
   refine F.out _ _ (I _ q6 D6) (fun _=>?_)
   try simp only[bJ,bK,bH,bB]
   clear F K;refine fV 0 0 (by simp only[dB,aU,aV,cV,dC]<;>rfl) (by simp only[gA,gH,gB];rfl) (by kernel_rfl) (by exact fun _ _ _ h=>h) (by first|exact gI ⟨by rfl,rfl⟩|(refine gJ ⟨by rfl,?_⟩;intro w' J;(try dsimp only at J);(try go_simp);try with_reducible rfl)) (I _ q6 D6) ?_
   try simp only[bJ,bK,bH,bB]
   refine nY (by kernel_rfl) ?_ _;go_wp2_with fail;go_meet;exact⟨_,_,_,_,_,_,rfl,rfl,rfl,q6,D6,a0,((d.set 0 _).set 1 _).set 2 _,a2⟩
 case rest=>
  obtain⟨A,U,ck,V,Y,uc,rfl,rfl,rfl,q1,O,a0,d,hu⟩:=hcut
  cases hf:bLt S.Hs (k:Int) with
  |none=>
   obtain rfl:C=5:=by rw[HC.out];unfold bM9;rw[hf]
   have hG:goD P room S r (bK5 P o m e k 1 ⟨#[]⟩)=((false,⟨#[]⟩,0),⟨S.clock,S.Hs,S.Rs.set r ⟨2,o,m,k,e,bLh P o m k,⟨#[]⟩⟩,S.dec⟩):=by
    unfold goD bK5;dsimp only
    rw[aA (by decide),aB rfl,hf]
   unfold bK5 at hy;have x0:=q1.x.cell (i:=0) rfl;have x1:=q1.x.cell (i:=1) rfl;clear hu hT;go_wp2_with fail;refine(a3 _ O).mono ?_;rintro e1 w3 ⟨rfl,h3⟩;have G:=q1.bel h3;have D3:=O.bel h3;have c0:w3.cell? ⟨g,r*7,none⟩=_:=D3.cell hy (j:=0) rfl;have f0:=D3.rds.free (r*7);have lg:=D3.rds.lt;have e0:=G.y.cell (i:=0) rfl;have e1:=G.y.cell (i:=1) rfl;have g0:=G.y.free 0;have g1:=G.y.free 1;have ly:=G.y.lt;have b7:g≠z+1:=by omega
   clear x0 x1 q1 O h3 d;go_wp2_with fail;have M:=(D3.setR hy (j:=0) (u:=.int .i64 2) (y':=⟨2,o,m,k,e,bLh P o m k,⟨#[]⟩⟩) (by decide) rfl).put (b:=z+1) (by omega) 0 1 (.string ⟨#[]⟩) (.int .i64 0);have L:=(G.put ⟨g,r*7,none⟩ (.inl rfl) (.int .i64 2)).rep (.string ⟨#[]⟩) (.int .i64 0);refine bMd rfl L.y rfl rfl rfl ?_;rw[hG];exact⟨vh,rfl,M.up M.zw (aD _),L.b,L.k,b1⟩
  |some x=>
   obtain⟨rfl,rfl,a5,a6⟩:=hu x hf;obtain⟨i1,i2⟩:=bNg hf;have ht:x.t=p.t:=by
    have:=(hS.hld i1).2.2;rw[i2,Int.toNat_natCast,bNm hp] at this;exact this
   obtain rfl:C=0:=by rw[HC.out];unfold bM9;rw[hf]
   obtain rfl:X=p.t:=by rw[HX.out];unfold bNq;rw[hf];exact ht
   have hG:goD P U S r (bK5 P o m e k 1 ⟨#[]⟩)=bMy P (bMq U S k p.t) r o m e k:=by
    unfold goD bK5;dsimp only
    rw[aA (by decide),aB rfl,hf,<-ht];rfl
   rw[ht] at a5;have x0:=q1.x.cell (i:=0) rfl;have x1:=q1.x.cell (i:=1) rfl;have c0:=d.cell (i:=0) rfl;have c1:=d.cell (i:=1) rfl;have c2:=d.cell (i:=2) rfl;have d2:=O.arr.cell (i:=2) rfl;have d3:=O.arr.cell (i:=3) rfl;have d4:=O.arr.cell (i:=4) rfl;have k2:=O.arr.free 2;have k3:=O.arr.free 3;have k4:=O.arr.free 4;have ln:=O.arr.lt;have b8:n≠z:=by omega
   have lz:=q1.x.lt;clear hT hu a3;go_wp2_with fail;have D2:=O.setH (S.clock+1) a5 (C:=z+2) (fun b q=>(a6 b q).1) (by omega);have q2:=((q1.put ⟨n,2,none⟩ (.inr rfl) (.int .i64 U)).put ⟨n,3,none⟩ (.inr rfl) (.int .i64 (S.clock+1))).put ⟨n,4,none⟩ (.inr rfl) (.slice V Y uc);have a7:=O.ri.out (b:=z+1) (by omega);refine(bPl D2 hy hS.right hS.few hS.size hg hp hB).mono ?_;rintro e1 w3 ⟨rfl,D3,h3,a8⟩;have G:=q2.kept h3 a8;have e0:=G.y.cell (i:=0) rfl;have e1:=G.y.cell (i:=1) rfl;have g0:=G.y.free 0;have g1:=G.y.free 1;have ly:=G.y.lt;clear x0 x1 c0 c1 c2 d2 d3 d4 k2 k3 k4 q1 O q2 D2 d a5 h3 a8
   go_wp2_with fail;have a9:(mM V Y uc).ownBlock≠some (z+1):=fun q=>by have:=a6 _ q;omega
   have M:=(D3.far ⟨z+1,0,none⟩ ⟨show z+1≠n by omega,show z+1≠g by omega⟩ a7 (.inl a9) (.string (bLx P o m e k))).far ⟨z+1,1,none⟩ ⟨show z+1≠n by omega,show z+1≠g by omega⟩ a7 (.inl a9) (.int .i64 (bLy P o m e k));have L:=G.rep (.string (bLx P o m e k)) (.int .i64 (bLy P o m e k));refine bMd rfl L.y rfl rfl rfl ?_;rw[hG];exact⟨_,rfl,M.up M.zw (aD _),L.b,L.k,fun b q=>by have:=a6 b q;have:=L.s;omega⟩
end Go.Proofs.YtfckbfofgeilgaaGreatDoor
