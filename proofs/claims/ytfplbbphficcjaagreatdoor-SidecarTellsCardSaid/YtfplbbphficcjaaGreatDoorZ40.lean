/-
  Texts put together (part 40): the walks and the plain laws on which the statement stands.
-/
import Derived.Test.YtfplbbphficcjaaGreatDoorZ36
import Derived.Test.YtfplbbphficcjaaGreatDoorZ39
set_option maxRecDepth 100000
set_option maxHeartbeats 12800000
set_option linter.unusedVariables false
set_option linter.unusedSimpArgs false
open Go.Proofs.Tryz
open Go.Proofs.Tryz renaming prog->pG
open And renaming intro->tK
open Go.Act renaming eval->lL,put->bJ
open Go.RowKit.Below renaming refl->aH
open List renaming append_nil->dI,getElem?_eq_getElem->aN,getElem?_map->eQ,length_append->aL,length_map->aS,length_nil->aV,map_append->dY,map_nil->vJ,mem_of_getElem?->cN,replicate->aX,setIfInBounds_toArray->bK,set_cons_succ->bB,set_cons_zero->bH,take_of_length_le->cD
open Nat renaming zero_le->aO
namespace Go.Proofs.YtfplbbphficcjaaGreatDoor
open Go.RowKit Go Go.Shelf
theorem bJ7 (a:Option Addr) (c:Nat) (w:World):Src pG 4 52 (.slice a 0 c) 0 [] w:=by
 cases a with
 |none=>exact Src.ofNil w underlying52 c
 |some a=>exact Src.ofSlice w underlying52 a 0 c [] rfl (fun j u h=>by simp at h) (fun u h=>by simp at h)
theorem bJ8 {e:Array Oper} {rest:List Oper} {o:Oper} {a:Act} {Q:Exit->Act->World->Prop} {w:World} (A:o.guard=none) (s x:Operand)
  (D:o.op=.call {callee:=.builtin .append,args:=#[s,x],argTypes:=#[52,52]}) (base:Nat) (v:Value) (l:List Prt) (hs:a.eval s=v) (hown:OwR w base 59 4 v (l.map oK))
  (sv:Value) (m:List Prt) (hx:a.eval x=sv) (hsrc:RdR w sv (m.map oK)) (hroom:l.length+m.length<=1000000) (hbase:base<=w.heap.size)
  (h:∀d w',OwR w' base 59 4 d ((l++m).map oK)->Below base w w'->wpList pG e Q rest (a.put o.dst d) w'):wpList pG e Q (o::rest) a w:=by
 by_cases G:0<m.length
 ·refine EH bC2 A s x D base v _ hs hown sv _ hx hsrc (aI5 m) (by rw[aS];exact G) (by rw[aS,aS];omega) hbase (fun d w' H I _=>h d w' (by rw[dY];exact H) I)
 ·obtain rfl:m=[]:=List.length_eq_zero_iff.1 (by omega);obtain⟨b,n,rfl,J,-⟩:=(OwR.rd hown).open (aI5 l) (by decide);obtain⟨L,M,rfl,Y,-⟩:=hsrc.open (aI5 []) (by decide);refine wpList_plain A fun K O=>?_
  obtain⟨i,T,Z,U,h3⟩:=bC2.info;have F:=bJ7 L M w;rw[<-U] at F;have V:=run_append_nothing w _ _ o.type _ i underlying52 T b _ n J _ F;unfold Oper.wp execOp;simp only[vJ,aV] at hx;simp only[D,resolve,invoke,builtin,Sem.run_bind,Sem.run_pure,Result.andThen_ok,List.map_toArray,List.map_cons,vJ,hs,hx,V];exact O _ _ (h _ w (by rw[dI];exact hown) (aH _ _))
theorem PtE.len {w:World} {B:Nat} {x:PtE} (h:OwR w B 59 4 x.v (x.bl.map oK)):x.n=x.bl.length:=by
 obtain⟨b,n,e,-⟩:=(OwR.rd h).open (aI5 x.bl) (by decide);unfold PtE.v at e
 injection e with _ e _
 rw[e,aS]
theorem bI1 {l:List PtE} {k:Nat} {x:PtE} (h:l[k]? =some x):bIr (l.take (k+1))=bIr (l.take k)++x.bl:=by
 unfold bIr;rw[List.take_add_one,h];simp
theorem bI9 {l:List PtE} (k:Nat):(bIr (l.take k)).length<=(bIr l).length:=by
 have e:bIr l=bIr (l.take k)++bIr (l.drop k):=by
  unfold bIr;rw[<-List.flatten_append,<-dY,List.take_append_drop]
 rw[e,aL];omega
theorem bJ9 {x:PtE} (h:∀p∈x.bl,p.r=x.r):x.bl.map Prt.r=aX x.bl.length x.r:=by
 rw[List.eq_replicate_iff];refine⟨by simp,fun b d=>?_⟩;obtain⟨p,e,rfl⟩:=List.mem_map.1 d;exact h p e
theorem bKa (s:ByteArray) (w:World) (U:s.size<=20000):
  Calls pG 23 #[.string s] w fun e w'=>∃v,e=.returned (.tuple #[v,.int .i64 (cI s.data.toList).2])/\RdR w' v ((eY s.data.toList).map oK)/\Below w.heap.size w w':=by
 have V:=GC s;have F:=bI8 s w U;obtain⟨E,I⟩:∃E,E=(cI s.data.toList).2:=⟨_,rfl⟩;rw[<-I] at F ⊢;clear I;go_enter func23,ntmps23;go_wp2_with fail;refine F.mono ?_;rintro e D ⟨v1,l,rfl,h,d,J,G⟩;clear F;obtain⟨va,vc,rfl,Y,Z,L⟩:=(OwR.rd h).open (bI0 l) (by decide);rw[aS] at Y L ⊢;unfold maxLen at Z;have HX:=hid d;have a5:(bIr l).length<=160002:=by rw[G.out.1];omega
 have a0:=J.size;have a6:=G.out.2.2;clear d h V;go_wp2_with fail
 go_loopg [6,7] l.length (fun g s6 s7 wr=>∃k:Nat,k<=l.length/\g=l.length-k/\s7=.int .i64 (k:Int)/\OwR wr D.heap.size 59 4 s6 ((bIr (l.take k)).map oK)/\Below D.heap.size D wr)
 case atStart=>exact⟨0,aO _,rfl,rfl,OwR.nil _ _ _ _,aH _ _⟩
 case round=>
  obtain⟨k,hk,H,rfl,h,A⟩:=hrel;have HG:=hid H;clear H
  by_cases a1:k<l.length
  ·have t1:decide ((k:Int)<(l.length:Int))=true:=aG (by omega);obtain⟨b,off,rfl,a2,M⟩:=L (by omega);obtain⟨x,d⟩:∃x,l[k]? =some x:=⟨_,aN a1⟩;have O:(l.map ptC)[k]? =some (ptC x):=by rw[eQ,d];rfl
   have c0:wr.cell? ⟨b,off+k*3,none⟩=some (.slice x.a x.n x.c):=(A.cell (p:=⟨b,off+k*3,none⟩) a2).trans (M k _ 0 _ O rfl);have T:=HX.out x (cN d);have a3:RdR wr (.slice x.a x.n x.c) (x.bl.map oK):=(OwR.rd T).below A;have HT:=hid (bI1 d);have a4:=bI9 (l:=l) (k+1);rw[HT.out,aL] at a4;have a7:=A.size;clear M O d T;go_wp2_with (at_builtin;refine bJ8 rfl _ _ rfl D.heap.size _ _ rfl h _ x.bl rfl a3 ?_ ?_ ?_;(omega);(omega);intro v3 w3 p1 p2);have H:=HG.out
   go_roundg (l.length-(k+1))
   case measure=>omega
   case rel=>exact⟨k+1,by omega,rfl,by go_num,by rw[HT.out];exact p1,A.trans p2⟩
  ·have t1:decide ((k:Int)<(l.length:Int))=false:=aE (by omega);have HT:=hid (show bIr (l.take k)=eY s.data.toList by rw[cD (by omega)];exact G.out.1);go_wp2_with fail
   go_ret2
   exact⟨_,rfl,by rw[<-HT.out];exact OwR.rd h,J.trans (A.mono a0)⟩
theorem bKb (s:ByteArray) (w:World) (hs:s.size<=20000):
  Calls pG 24 #[.string s] w fun e w'=>∃v,e=.returned (.tuple #[v,.int .i64 (cI s.data.toList).2])/\RdI w' v ((eY s.data.toList).map Prt.r)/\Below w.heap.size w w':=by
 have a5:=GC s;have H:=bI8 s w hs;obtain⟨E,Y⟩:∃E,E=(cI s.data.toList).2:=⟨_,rfl⟩;rw[<-Y] at H ⊢;clear Y;go_enter func24,ntmps24;go_wp2_with fail;refine H.mono ?_;rintro e A ⟨v1,l,rfl,d,D,Z,F⟩;clear H;obtain⟨va,vc,rfl,a6,a7,a0⟩:=(OwR.rd d).open (bI0 l) (by decide);rw[aS] at a6 a0 ⊢;unfold maxLen at a7;have HX:=hid D;have b1:(bIr l).length<=160002:=by rw[F.out.1];omega
 have a8:=Z.size;have b2:=F.out.2.2;clear D d a5;go_wp2_with fail
 go_loopg [6,7,8] l.length (fun g J s7 _s8 wr=>∃k:Nat,k<=l.length/\g=l.length-k/\s7=.int .i64 (k:Int)/\OwI wr A.heap.size J ((bIr (l.take k)).map Prt.r)/\Below A.heap.size A wr)
 case atStart=>exact⟨0,aO _,rfl,rfl,OwI.nil _ _,aH _ _⟩
 case round=>
  obtain⟨k,hk,L,rfl,d,h⟩:=hrel;have HG:=hid L;clear L
  by_cases a9:k<l.length
  ·have t1:decide ((k:Int)<(l.length:Int))=true:=aG (by omega);obtain⟨b,off,rfl,a1,M⟩:=a0 (by omega);obtain⟨x,D⟩:∃x,l[k]? =some x:=⟨_,aN a9⟩;have O:(l.map ptC)[k]? =some (ptC x):=by rw[eQ,D];rfl
   have x0:A.cell? ⟨b,off+k*3,none⟩=some (.slice x.a x.n x.c):=M k _ 0 _ O rfl;have x1:A.cell? ⟨b,off+k*3+1,none⟩=some (.int .i64 x.r):=M k _ 1 _ O rfl;have a2:=HX.out x (cN D);have hn:=PtE.len a2;obtain⟨n,G⟩:∃n,n=x.bl.length:=⟨_,rfl⟩;rw[hn,<-G] at x0;have HT:=hid (show(bIr (l.take (k+1))).map Prt.r=(bIr (l.take k)).map Prt.r++aX n x.r by rw[bI1 D,dY,bJ9 (F.out.2.1 x (cN D)),G]);have a3:=bI9 (l:=l) (k+1);rw[bI1 D,aL,<-G] at a3;obtain⟨I,T⟩:∃I,I=(bIr (l.take k)).map Prt.r:=⟨_,rfl⟩
   have b3:I.length+n<=160002:=by rw[T,aS];omega
   rw[<-T] at d HT;have U:=h.size;clear M O D a2 hn G T a3;go_wp2_with fail
   go_loopg [6,8] n (fun g2 J s8 wq=>∃j:Nat,j<=n/\g2=n-j/\s8=.int .i64 (j:Int)/\OwI wq A.heap.size J (I++aX j x.r)/\Below A.heap.size A wq)
   case atStart=>exact⟨0,aO _,rfl,rfl,by rw[List.replicate_zero,dI];exact d,h⟩
   case round=>
    clear d h U;obtain⟨j,hj,V,rfl,d,h⟩:=hrel;have b0:=hid V;clear V;have c0:=(h.cell (p:=⟨b,off+k*3,none⟩) a1).trans x0;have c1:=(h.cell (p:=⟨b,off+k*3+1,none⟩) a1).trans x1;have U:=h.size
    by_cases b4:j<n
    ·have t2:decide ((j:Int)<(n:Int))=true:=aG (by omega);have b5:(I++aX j x.r).length+1<=200000:=by rw[aL,List.length_replicate];omega
     go_wp2_with (at_builtin;refine gK rfl _ _ rfl A.heap.size _ _ rfl (OwI.alloc d _) _ x.r rfl (bX _ _ _) ?_ ?_ ?_;(omega);(simp;omega);intro v3 w3 p1 p2 p3);have V:=b0.out
     go_roundg (n-(j+1))
     case measure=>omega
     case rel=>exact⟨j+1,by omega,rfl,by go_num,by rw[List.replicate_succ',<-List.append_assoc];exact p1,(h.alloc U _).trans p2⟩
    ·have t2:decide ((j:Int)<(n:Int))=false:=aE (by omega);have a4:j=n:=by omega
     rw[a4,<-HT.out] at d;clear a4;go_wp2_with fail;have L:=HG.out
     go_roundg (l.length-(k+1))
     case measure=>omega
     case rel=>exact⟨k+1,by omega,rfl,by go_num,d,h⟩
  ·have t1:decide ((k:Int)<(l.length:Int))=false:=aE (by omega);have HT:=hid (show bIr (l.take k)=eY s.data.toList by rw[cD (by omega)];exact F.out.1);go_wp2_with fail
   go_ret2
   exact⟨_,rfl,by rw[<-HT.out];exact OwI.rd d,Z.trans (h.mono a8)⟩
theorem bJa (s:ByteArray) (w:World) (hs:s.size<=20000):
  Calls pG 7 #[.string s] w fun e w'=>∃v,e=.returned (.tuple #[v,.int .i64 (cI s.data.toList).2])/\RdR w' v ((gU 0 (eY s.data.toList)).map bG)/\Below w.heap.size w w':=by
 have c6:=GC s;have a6:=fun p (h:p∈eY s.data.toList)=>aJh p h
 have Y:(cI s.data.toList).2≠0->eY s.data.toList=[]:=fun h=>aA h
 have a2:=fun W=>bKa s W hs
 have a3:=fun W=>bKb s W hs
 obtain⟨l,Z⟩:∃l,l=eY s.data.toList:=⟨_,rfl⟩;obtain⟨E,a7⟩:∃E,E=(cI s.data.toList).2:=⟨_,rfl⟩;have c7:∀p∈l,p.t.size<=18720:=fun p d=>by
  rw[Z] at d;have h:=a6 p d;obtain⟨-,-,g3,-⟩:=h.facts;obtain⟨-,-,g5,-⟩:=h;omega
 rw[<-Z,<-a7] at a2 a3 Y ⊢;rw[<-Z] at c6;clear Z a7 a6;go_enter func7,ntmps7;go_wp2_with fail;refine(a2 _).mono ?_;rintro e w1 ⟨v1,rfl,a8,h1⟩
 by_cases h0:E=0
 rotate_left
 ·have t1:(E != 0)=true:=bne_iff_ne.2 h0;have HN:=hid (Y h0);clear Y;go_wp2_with fail
  go_ret2
  exact⟨_,rfl,by rw[HN.out];exact RdR.nil _,h1⟩
 subst h0;clear Y;go_wp2_with fail;refine(a3 _).mono ?_;rintro e H ⟨v2,rfl,a9,h2⟩;have J:=a8.below h2;have b0:=aW h1 h2;obtain⟨pa,pc,rfl,e1,c8,b1⟩:=bEm J;obtain⟨ra,rc,rfl,c9,d1,a4⟩:=a9.open;rw[aS] at c9 a4 ⊢;unfold maxLen at c8 d1;have d2:=b0.size;clear a8 J a9 a2 a3 h1 h2;go_wp2_with fail
 go_loopg [8,9,10] l.length (fun g s8 s9 d3 wr=>∃k F:Nat,k<=l.length/\g=l.length-k/\d3=.int .i64 (k:Int)/\s9=.int .i64 (F:Int)/\Hid (F=vE (l.take k))/\F<=18720*k/\OwR wr H.heap.size 47 5 s8 ((gU 0 (l.take k)).map bG)/\Below H.heap.size H wr)
 case atStart=>exact⟨0,0,aO _,rfl,rfl,rfl,hid rfl,aO _,OwR.nil _ _ _ _,aH _ _⟩
 case round=>
  obtain⟨k,F,hk,hg,rfl,rfl,HF,e2,hor,A⟩:=hrel;have HG:=hid hg;have d4:=A.size;clear hg
  by_cases d5:k<l.length
  ·have t1:decide ((k:Int)<(l.length:Int))=true:=aG (by omega);obtain⟨b,off,rfl,I,hc⟩:=b1 (by omega);obtain⟨L,M,rfl,J,b3⟩:=a4 (by omega);obtain⟨p,d⟩:∃p,l[k]? =some p:=⟨_,aN d5⟩;obtain⟨x0,x1,x2,x3⟩:=hc k p d;have y0:=b3 k p.r (by rw[eQ,d];rfl);have c0:=(A.cell (p:=⟨b,off+k*4,none⟩) I).trans x0;have c1:=(A.cell (p:=⟨b,off+k*4+1,none⟩) I).trans x1;have c2:=(A.cell (p:=⟨b,off+k*4+2,none⟩) I).trans x2;have c3:=(A.cell (p:=⟨b,off+k*4+3,none⟩) I).trans x3;have d0:=(A.cell (p:=⟨L,M+k,none⟩) J).trans y0;have e3:=c7 p (cN d)
   have HT:=hid (show(gU 0 (l.take (k+1))).map bG=(gU 0 (l.take k)).map bG++[bG ⟨p.a,p.r,(F:Int),(p.t.size:Int),p.y⟩] by rw[bEo d,dY,HF.out];rfl);have b4:=hid (show F+p.t.size=vE (l.take (k+1)) by rw[bEp d,HF.out]);have e4:((gU 0 (l.take k)).map bG).length<=960010:=by rw[aS,NK,List.length_take];omega
   have a0:=hid (tK x0 (tK x1 (tK x2 y0)));clear x0 x1 x2 x3 hc b3 b1 a4 d c3 y0;go_wp2_with fail;obtain⟨O,T⟩:∃O,O=(wr.alloc (.cells #[.int .i64 p.a,.int .i64 p.r,.int .i64 (F:Int),.int .i64 (p.t.size:Int),.int .u32 p.y] 47)).drew:=⟨_,rfl⟩;have b5:OwR O H.heap.size 47 5 u8 ((gU 0 (l.take k)).map bG):=by rw[T];exact OwR.alloc hor _
   have b6:Arr O wr.heap.size 47 (bG ⟨p.a,p.r,(F:Int),(p.t.size:Int),p.y⟩):=by rw[T];exact Arr.new wr 47 (bG ⟨p.a,p.r,(F:Int),(p.t.size:Int),p.y⟩)
   have a5:Below H.heap.size H O:=by rw[T];exact(A.alloc d4 _).drew
   have b7:=a5.size;obtain⟨v',U,hr,d6,b8,d7⟩:=LS AK 22 H.heap.size u8 _ b5 _ [bG ⟨p.a,p.r,(F:Int),(p.t.size:Int),p.y⟩] (RdR.one b6) (yG [⟨p.a,p.r,(F:Int),(p.t.size:Int),p.y⟩]) (Nat.succ_pos _) (by simp only[List.length_singleton];omega) b7;have V:=a5.trans b8;rw[T] at hr;clear b5 b6 a5 b7 T d7 b8
   have kk:∀{a:Addr} {v:Value},wr.cell? a=some v->(wr.alloc (.cells #[.int .i64 p.a,.int .i64 p.r,.int .i64 (F:Int),.int .i64 (p.t.size:Int),.int .u32 p.y] 47)).drew.cell? a=some v:=fun{a} {v} h=>((bD (aH _ wr) (.cells #[.int .i64 p.a,.int .i64 p.r,.int .i64 (F:Int),.int .i64 (p.t.size:Int),.int .u32 p.y] 47)).drew.cell (World.block_lt_of_cell? wr _ h)).trans h
   have b9:wr.drew.cell? ⟨b,off+k*4,none⟩=some (.string p.t)/\wr.drew.cell? ⟨b,off+k*4+1,none⟩=some (.int .u32 p.y)/\wr.drew.cell? ⟨b,off+k*4+2,none⟩=some (.int .i64 p.a)/\wr.drew.cell? ⟨L,M+k,none⟩=some (.int .i64 p.r):=⟨c0,c1,c2,d0⟩;have c4:=tK (kk c0) (tK (kk c1) (tK (kk c2) (kk d0)))
   have a1:U.cell? ⟨b,off+k*4,none⟩=some (.string p.t)/\U.cell? ⟨b,off+k*4+1,none⟩=some (.int .u32 p.y)/\U.cell? ⟨b,off+k*4+2,none⟩=some (.int .i64 p.a)/\U.cell? ⟨L,M+k,none⟩=some (.int .i64 p.r):=⟨(V.cell (p:=⟨b,off+k*4,none⟩) I).trans a0.out.1,(V.cell (p:=⟨b,off+k*4+1,none⟩) I).trans a0.out.2.1,(V.cell (p:=⟨b,off+k*4+2,none⟩) I).trans a0.out.2.2.1,(V.cell (p:=⟨L,M+k,none⟩) J).trans a0.out.2.2.2⟩;clear c0 c1 c2 d0
   refine wp_region_held_drew (S:=fun wx=>wx.cell? ⟨b,off+k*4,none⟩=some (.string p.t)/\wx.cell? ⟨b,off+k*4+1,none⟩=some (.int .u32 p.y)/\wx.cell? ⟨b,off+k*4+2,none⟩=some (.int .i64 p.a)/\wx.cell? ⟨L,M+k,none⟩=some (.int .i64 p.r)) (by kernel_rfl) b9 (fun d8=>?_)
   iterate 23
    refine fV 0 0 (by simp only[List.size_toArray,List.length_cons,aV,Nat.reduceAdd,Nat.reduceSub]<;>rfl) (by simp only[List.getElem?_toArray,List.getElem?_cons_succ,List.getElem?_cons_zero];rfl) (by kernel_rfl) (by exact fun _ _ _ h=>h) (by first|exact Or.inr ⟨by rfl,rfl⟩|(refine Or.inl ⟨by rfl,?_⟩;intro w' d9;(try dsimp only at d9);(try go_simp);try with_reducible rfl)) (by assumption) ?_
    try simp only[bJ,bK,bH,bB]
   refine dJ (i:=23) (by kernel_rfl) rfl (fun K D=>?_);go_simp;refine D.out _ _ c4 (fun _=>?_)
   try simp only[bJ,bK,bH,bB]
   clear D K;refine dJ (i:=24) (by kernel_rfl) rfl (fun K D=>?_);refine sX rfl (.tmp 30) (.tmp 53) 22 rfl u8 (.slice (some ⟨wr.heap.size,0,none⟩) 1 1) v' U (by simp[lL]) (by simp[lL]) hr ?_;refine D.out _ _ a1 (fun _=>?_)
   try simp only[bJ,bK,bH,bB]
   clear D K;refine dJ (i:=25) (by kernel_rfl) rfl (fun K D=>?_);go_simp;refine D.out _ _ a1 (fun _=>?_)
   try simp only[bJ,bK,bH,bB]
   clear D K;refine wpAnyH_done (by kernel_rfl) ?_ _;have g0:=a1.1;obtain⟨G,c5⟩:∃G,G=F+p.t.size:=⟨_,rfl⟩;have m1:IntKind.i64.wrap ((F:Int)+(p.t.size:Int))=(G:Int):=by rw[show(F:Int)+(p.t.size:Int)=(G:Int) by omega];exact tE G (by omega)
   have e5:(F:Int)+(p.t.size:Int)=(G:Int):=by omega
   have e0:G<=18720*(k+1):=by omega
   rw[<-c5] at b4;clear c5 hr b9 c4 a1 d8;go_wp2_with fail;have hg:=HG.out
   go_roundg (l.length-(k+1))
   case measure=>omega
   case rel=>exact⟨k+1,G,by omega,rfl,by go_num,rfl,b4,e0,by rw[HT.out];exact d6,V⟩
  ·have t1:decide ((k:Int)<(l.length:Int))=false:=aE (by omega);have HT:=hid (show l.take k=l by rw[cD (by omega)]);go_wp2_with fail
   go_ret2
   exact⟨_,rfl,by rw[<-HT.out];exact hor.rd,b0.trans (A.mono d2)⟩
theorem bKc (a s:ByteArray) (w:World) (hs:s.size<=100000) (ha:a.size<=20000):
  Calls pG 18 #[.string a,.string s] w fun e w'=>∃v,e=.returned (.tuple #[v,.int .i64 (vF a.data.toList s.data.toList)])/\RdR w' v ((if vF a.data.toList s.data.toList=0 then gU 0 (eY a.data.toList) else[]).map bG)/\Below w.heap.size w w':=by
 have a8:=hid (show a.data.toList.length=a.size by simp);have D:=bI5 s w hs;have J:=fun W=>bJa a W ha
 have L:=fun W=>TA a W (by omega)
 obtain⟨X,F⟩:∃X,X=vF a.data.toList s.data.toList:=⟨_,rfl⟩;rw[<-F];unfold vF at F;rw[a8.out] at F;obtain⟨n,V⟩:∃n,n=(dX s.data.toList).2.1:=⟨_,rfl⟩;obtain⟨c,Y⟩:∃c,c=(dX s.data.toList).2.2.1:=⟨_,rfl⟩;obtain⟨x,Z⟩:∃x,x=(dX s.data.toList).2.2.2:=⟨_,rfl⟩;obtain⟨l,M⟩:∃l,l=(dX s.data.toList).1:=⟨_,rfl⟩;have a9:=hid (show l.length<=1000000 by
  rw[M];have b2:s.data.toList.length=s.size:=by simp
  unfold dX;split
  ·exact aO _
  split
  ·exact aO _
  split
  ·exact aO _
  split
  ·exact aO _
  split
  ·exact aO _
  ·simp only[VT];omega)
 rw[<-V,<-Y,<-Z,<-M] at D;rw[<-V,<-Y,<-Z,<-M] at F;obtain⟨C,hC⟩:∃C,C=(cH a.data.toList).toNat:=⟨_,rfl⟩;rw[<-hC] at L F;obtain⟨E,hE⟩:∃E,E=(cI a.data.toList).2:=⟨_,rfl⟩;rw[<-hE] at J F;obtain⟨o,ho⟩:∃o,o=gU 0 (eY a.data.toList):=⟨_,rfl⟩;have b0:=hid (show o.length<=1000000 by rw[ho,NK];have:=GC a;omega);rw[<-ho] at J F ⊢;have A:=hid F;obtain⟨lo,a0⟩:∃lo,lo=(if X=0 then o else[]):=⟨_,rfl⟩;rw[<-a0];have I:=hid a0;clear a0 F V Y Z M hC hE ho
 by_cases O:x=0
 rotate_left
 ·have t1:(x != 0)=true:=by rw[bne_iff_ne];exact O
  have d:=hid (show X=x by rw[A.out,aB O]);go_enter func18,ntmps18;go_wp2_with fail;refine D.mono ?_;rintro e w1 ⟨T,rfl,H,G⟩;clear D;go_wp2_with fail
  go_ret2
  exact⟨_,by rw[d.out];rfl,by rw[I.out,d.out,aA O];exact RdR.nil _,G⟩
 subst O;have A:=hid (show X=if n≠a.size\/c≠C then 7 else if E≠0 then E else if o≠l then 3 else 0 by rw[A.out,aA (by simp)]);have a2:∀(v:Value) (w':World),X=7->Below w.heap.size w w'->∃u,Ending.returned (.tuple #[.slice none 0 0,.int .i64 7])=.returned (.tuple #[u,.int .i64 X])/\RdR w' u (lo.map bG)/\Below w.heap.size w w':=fun v w' h hb=>⟨_,by rw[h],by rw[I.out,h,aA (by decide)];exact RdR.nil _,hb⟩
 have HS:=hid a2;clear a2
 by_cases h2:n=a.size
 rotate_left
 ·have t1:((n:Int) != (a.size:Int))=true:=by rw[bne_iff_ne];omega
  have t2:(n != a.size)=true:=by rw[bne_iff_ne];exact h2
  have d:=hid (show X=7 by rw[A.out,aB (.inl h2)]);go_enter func18,ntmps18;go_wp2_with fail;refine D.mono ?_;rintro e w1 ⟨T,rfl,H,G⟩;clear D;go_wp2_with fail
  go_ret2
  exact HS.out (.slice none 0 0) _ d.out G
 subst h2
 by_cases h3:c=C
 rotate_left
 ·have t1:((c:Int) != (C:Int))=true:=by rw[bne_iff_ne];omega
  have t2:(c != C)=true:=by rw[bne_iff_ne];exact h3
  have d:=hid (show X=7 by rw[A.out,aB (.inr h3)]);go_enter func18,ntmps18;go_wp2_with fail;refine D.mono ?_;rintro e w1 ⟨T,rfl,H,G⟩;clear D;go_wp2_with fail;refine(L _).mono ?_;rintro e w2 ⟨rfl,rfl⟩;go_wp2_with fail
  go_ret2
  exact HS.out (.slice none 0 0) _ d.out G
 subst h3;have A:=hid (show X=if E≠0 then E else if o≠l then 3 else 0 by rw[A.out,aA (by simp)]);go_enter func18,ntmps18;go_wp2_with fail;refine D.mono ?_;rintro e w1 ⟨T,rfl,H,G⟩;clear D;go_wp2_with fail;refine(L _).mono ?_;rintro e w2 ⟨rfl,rfl⟩;go_wp2_with fail;refine(J _).mono ?_;rintro e w3 ⟨v3,rfl,a3,a4⟩;have H:=H.below a4;have a5:=aW G a4;clear J L
 by_cases U:E=0
 rotate_left
 ·have t1:(E != 0)=true:=by rw[bne_iff_ne];exact U
  have d:=hid (show X=E by rw[A.out,aB U]);go_wp2_with fail
  go_ret2
  exact⟨_,by rw[d.out];rfl,by rw[I.out,d.out,aA U];exact RdR.nil _,a5⟩
 subst U;have a1:=bHi v3 T o l w3 a3 H b0.out a9.out;obtain⟨R,hR⟩:∃R,R=decide (o=l):=⟨_,rfl⟩;rw[<-hR] at a1;have HR:=hid hR;clear hR;go_wp2_with fail;refine a1.mono ?_;rintro e w4 ⟨rfl,a6⟩;have b1:=a3.below a6;have a7:=aW a5 a6;clear a1
 cases R with
 |false=>
  have d:=hid (show X=3 by rw[A.out,aA (by simp),aB (of_decide_eq_false HR.out.symm)]);go_wp2_with fail
  go_ret2
  exact⟨_,by rw[d.out];rfl,by rw[I.out,d.out,aA (by decide)];exact RdR.nil _,a7⟩
 |true=>
  have d:=hid (show X=0 by rw[A.out,aA (by simp),aA (fun q=>q (of_decide_eq_true HR.out.symm))]);go_wp2_with fail
  go_ret2
  exact⟨_,by rw[d.out];rfl,by rw[I.out,d.out,aB rfl];exact b1,a7⟩
theorem bJb (a:ByteArray) (l:List Ent) (G:a.size<=100000) (A:l.length<=1000) (H:WfE l):∃(p:ByteArray) (E:Int),p.size<=30000/\
  (∀v w,RdR w v (l.map bG)->Calls pG 9 #[.string a,v] w fun e w'=>e=.returned (.tuple #[.string p,.int .i64 E])/\Below w.heap.size w w')/\
  (∀v w,RdR w v (l.map bG)->Calls pG 10 #[.string a,v] w fun e w'=>e=.returned (.tuple #[.string p,.int .i64 E])/\Below w.heap.size w w'):=by
 by_cases h:jA l
 ·have D:=mS h (by decide) (by decide) H;refine⟨mkS (oM a.size (cH a.data.toList).toNat l),0,by rw[cS,VU];omega,fun v w d=>bF5 a v l w d (by omega) A h D,fun v w d=>?_⟩;refine(bJk a v l w d G A h).mono ?_;rintro e w' ⟨s,rfl,F,I⟩;rw[bJe D] at F;exact⟨by rw[PB F],I⟩
 ·exact⟨⟨#[]⟩,1,by decide,fun v w d=>bF6 a v l w d A h,fun v w d=>bJl a v l w d A h⟩
theorem bKd (s:ByteArray) (d:s.size<=100000):∃(n c:Nat) (E:Int) (l:List Ent),l.length<=1000000/\
  (∀w,Calls pG 14 #[.string s] w fun e w'=>∃v,e=.returned (.tuple #[v,.int .i64 (n:Int),.int .u32 (c:Int),.int .i64 E])/\RdR w' v (l.map bG)/\Below w.heap.size w w')/\
  (∀w,Calls pG 15 #[.string s] w fun e w'=>∃v,e=.returned (.tuple #[v,.int .i64 (n:Int),.int .u32 (c:Int),.int .i64 E])/\RdR w' v (l.map bG)/\Below w.heap.size w w'):=by
 refine⟨(dX s.data.toList).2.1,(dX s.data.toList).2.2.1,(dX s.data.toList).2.2.2,(dX s.data.toList).1,?_,fun w=>bE8 s w (by omega),fun w=>bI5 s w d⟩;have h:s.data.toList.length=s.size:=by simp
 unfold dX;split
 ·exact aO _
 split
 ·exact aO _
 split
 ·exact aO _
 split
 ·exact aO _
 split
 ·exact aO _
 ·simp only[VT];omega
theorem bKe (a s:ByteArray) (d:s.size<=100000) (A:a.size<=20000):∃(E:Int) (l:List Ent),l.length<=1000000/\
  (∀w,dU w->Calls pG 17 #[.string a,.string s] w fun e w'=>∃v,e=.returned (.tuple #[v,.int .i64 E])/\RdR w' v (l.map bG)/\Below w.heap.size w w')/\
  (∀w,Calls pG 18 #[.string a,.string s] w fun e w'=>∃v,e=.returned (.tuple #[v,.int .i64 E])/\RdR w' v (l.map bG)/\Below w.heap.size w w'):=by
 refine⟨vF a.data.toList s.data.toList,if vF a.data.toList s.data.toList=0 then gU 0 (eY a.data.toList) else[],?_,fun w h=>bHc a s w h (by omega) (by omega),fun w=>bKc a s w d A⟩;have h:=GC a;split
 ·rw[NK];omega
 ·exact aO _
end Go.Proofs.YtfplbbphficcjaaGreatDoor
