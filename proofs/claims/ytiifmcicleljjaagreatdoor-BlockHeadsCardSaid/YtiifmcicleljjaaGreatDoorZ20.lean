/-
  Texts put together (part 20): the walks and the plain laws on which the statement stands.
-/
import Derived.Test.YtiifmcicleljjaaGreatDoorZ14
import Derived.Test.YtiifmcicleljjaaGreatDoorZ19
set_option maxRecDepth 100000
set_option maxHeartbeats 12800000
open Decidable renaming not_not->dK
open Go.IntKind renaming u64->fU,wrap_u64->gF
open Go.RowKit.Below renaming heap_alloc->oF,refl->aB
open List renaming append_assoc->cF,append_nil->eE,flatten_append->AM,flatten_cons->AS,flatten_nil->OO,getD_eq_getElem?_getD->aV,getElem?_eq_getElem->aN,getElem?_eq_some_iff->eU,length_append->aL,length_cons->cR,length_pos_iff->kV,length_singleton->fK,length_take->aX,take_add_one->cQ,take_of_length_le->cS
open Nat renaming le_refl->aA,le_trans->aW,shiftRight_eq_div_pow->AK,zero_add->iZ
open UInt8 renaming ofNat->eK
namespace Go.Proofs.YtiifmcicleljjaaGreatDoor
open Go.RowKit Go Go.Shelf
def wT (a:Int) (D:ByteArray×Int×Int×Int):Value:=.agg #[.string D.1,.int .u32 D.2.1,.int .i64 (if D.2.2.2=0 then a else 0),.int .i64 D.2.2.1]
theorem YM (a:Int) (x:ByteArray) (y z E:Int) (h:E≠0):wT a (x,y,z,E)=.agg #[.string x,.int .u32 y,.int .i64 0,.int .i64 z]:=by unfold wT;rw[if_neg h]
theorem MG (a:Int) (x:ByteArray) (y z:Int):wT a (x,y,z,0)=.agg #[.string x,.int .u32 y,.int .i64 a,.int .i64 z]:=by unfold wT;rw[if_pos rfl]
theorem YN:(Tryz.prog.info? 36).map (·.size)=some 4:=by kernel_rfl
theorem oZ {w W:World} {z:Nat} {x0 x1 x2 x3:Value} (hA:Arr W z 36 [x0,x1,x2,x3]) (hb:Below z w W) (y0 y1 y2 y3:Value):
  Arr ((((W.setCell ⟨z,0,none⟩ y0).setCell ⟨z,1,none⟩ y1).setCell ⟨z,2,none⟩ y2).setCell ⟨z,3,none⟩ y3) z 36 [y0,y1,y2,y3]/\
  Below z w ((((W.setCell ⟨z,0,none⟩ y0).setCell ⟨z,1,none⟩ y1).setCell ⟨z,2,none⟩ y2).setCell ⟨z,3,none⟩ y3):=
 ⟨(((hA.set 0 _).set 1 _).set 2 _).set 3 _,(((hb.setCell (p:=⟨z,0,none⟩) (aA _) _).setCell (p:=⟨z,1,none⟩) (aA _) _).setCell (p:=⟨z,2,none⟩) (aA _) _).setCell (p:=⟨z,3,none⟩) (aA _) _⟩
theorem wU (s:List UInt8) (a room:Int):cL s a room=
  if a<0\/room<1\/360<room then(cW,0,0,1)
  else if aO s.length a 48≠0 then(cW,0,0,aO s.length a 48)
  else if aE s a 48≠0x314159265359 then(cW,0,0,3)
  else if aO s.length (a+48) 32≠0 then(cW,0,0,aO s.length (a+48) 32)
  else if aO s.length (a+80) 16≠0 then(cW,0,0,aO s.length (a+80) 16)
  else if(cG s (a+96)).2.2≠0 then(cW,0,0,(cG s (a+96)).2.2)
  else if(cV s (cG s (a+96)).2.1 (((cG s (a+96)).1.length:Int)+2)).2.2≠0 then(cW,0,0,(cV s (cG s (a+96)).2.1 (((cG s (a+96)).1.length:Int)+2)).2.2)
  else if(rest (mkS (cG s (a+96)).1) (aE s (a+80) 16) (cV s (cG s (a+96)).2.1 (((cG s (a+96)).1.length:Int)+2)).1 room).2≠0 then(cW,0,0,(rest (mkS (cG s (a+96)).1) (aE s (a+80) 16) (cV s (cG s (a+96)).2.1 (((cG s (a+96)).1.length:Int)+2)).1 room).2)
  else if(fR (rest (mkS (cG s (a+96)).1) (aE s (a+80) 16) (cV s (cG s (a+96)).2.1 (((cG s (a+96)).1.length:Int)+2)).1 room).1.data.toList (52*room)).2≠0 then(cW,0,0,(fR (rest (mkS (cG s (a+96)).1) (aE s (a+80) 16) (cV s (cG s (a+96)).2.1 (((cG s (a+96)).1.length:Int)+2)).1 room).1.data.toList (52*room)).2)
  else if(fG (fR (rest (mkS (cG s (a+96)).1) (aE s (a+80) 16) (cV s (cG s (a+96)).2.1 (((cG s (a+96)).1.length:Int)+2)).1 room).1.data.toList (52*room)).1).toNat≠aE s (a+48) 32 then(cW,0,0,7)
  else(mkS (fR (rest (mkS (cG s (a+96)).1) (aE s (a+80) 16) (cV s (cG s (a+96)).2.1 (((cG s (a+96)).1.length:Int)+2)).1 room).1.data.toList (52*room)).1,(aE s (a+48) 32:Int),(cV s (cG s (a+96)).2.1 (((cG s (a+96)).1.length:Int)+2)).2.1,0):=rfl
theorem YO (a:ByteArray) (o:Int) (l:List Int) (most:Int) (h:(rest a o l most).2=0):((rest a o l most).1.size:Int)<=most:=by
 unfold rest at h ⊢;split at h
 ·simp at h
 ·next q1=>
  rw[if_neg q1];split at h
  ·simp at h
  ·next q2=>
   rw[if_neg q2];split at h
   ·simp at h
   ·next q3=>
    rw[if_neg q3];split at h
    ·simp at h
    ·next q4=>
     rw[if_neg q4];simp only
     rw[cP,CN,oO];omega
theorem YP {s:List UInt8} {a:Int} (h:(cG s a).2.2=0):(cG s a).1.length<=256/\a+16<=(cG s a).2.1/\(cG s a).2.1<=a+272:=by
 have hb:=yE s a 16;unfold cG at h ⊢;simp only at h ⊢
 by_cases k1:(cJ s a 16).2.2.2≠0
 ·rw[if_pos k1] at h;exact absurd h k1
 ·rw[if_neg k1] at h ⊢
  by_cases k2:(cJ s a 16).2.2.1=true
  ·rw[if_pos k2] at h;simp at h
  ·rw[if_neg k2];have:=hb.2 (dK.1 k1);exact⟨by have:=hb.1;omega,this.1,by have:=this.2;show(cJ s a 16).2.1<=_;omega⟩
structure BIn (t:ByteArray) (P a:List UInt8) (m:List Int) (o n:Nat):Prop where
 hP:P=bC t.data.toList
 ha:a=bK P
 hm:m=sqS (mkS P)
 ho:(o:Int)=sqO (mkS P)
 hn:n=a.length+2
 hA:sqA (mkS P)=mkS a
 hE:sqE (mkS P)=0
 o16:o<65536
 an:a≠[]
 a256:a.length<=256
 n2:3<=n
 n258:n<=258
 m0:0<m.length
 m361:m.length<=9000
 rng:∀x∈m,0<=x/\x<(n:Int)
 c0:bL (dN m n 0)=0
 c1:bL (dN m n 1)=0
 l0:(dN m n 0).length=n
 l1:(dN m n 1).length=n
theorem BIn.of {t:ByteArray} (h0:0<t.size) (hp:(bC t.data.toList).length<=8000) (hO:fS (mkS (bC t.data.toList))):∃P a m o n,BIn t P a m o n:=by
 have htl:t.data.toList.length=t.size:=by simp
 have hne:t.data.toList≠[]:=fun e=>by rw[e] at htl;simp at htl;omega
 have hpl:=oS t.data.toList.length t.data.toList (aA _);have hpn:=hpl.2.1 hne;have hp0:0<(mkS (bC t.data.toList)).size:=by rw[cP];exact kV.2 hpn
 have hpsz:(mkS (bC t.data.toList)).size=(bC t.data.toList).length:=cP _;obtain⟨f1,f2,f3,f4⟩:=YJ hp0 hO;have hsl:=(LW (mkS (bC t.data.toList))).1;have hor:=MC hp0 hO;have hal:=rX (bC t.data.toList);have han:=BT hpn;have hoe:=EF hp0;have hsA:=zO hp0;rw[fW] at f1 hsA;have hal1:=kV.2 han;refine⟨_,_,_,fD (oOf (mkS (bC t.data.toList))) (mkS (bC t.data.toList)).size,_,rfl,rfl,rfl,hoe.symm,rfl,hsA,XZ hp0,by omega,han,hal,by omega,by omega,f2,by omega,f1,?_,?_,?_,?_⟩
 ·exact tB (by omega) (by omega) f1 (by omega)
 ·exact tB (by omega) (by omega) f1 (by omega)
 ·exact(rQ (by omega) (by omega) f1 (by omega)).2
 ·exact(rQ (by omega) (by omega) f1 (by omega)).2
theorem BIn.blk {t:ByteArray} {P a:List UInt8} {m:List Int} {o n:Nat} (h:BIn t P a m o n):cB t=aY 0x314159265359 48++aY (fG t.data.toList).toNat 32++aY o 16++fZ a++(aY 2 3++aY (cT m n).length 15++dE (dO (cT m n))++dW (dN m n 0)++dW (dN m n 1)++gP (dN m n 0) (dN m n 1) (cT m n) (cK m)):=by
 have e:(sqO (mkS (bC t.data.toList))).toNat=o:=by have:=h.ho;rw[h.hP] at this;omega
 unfold cB oB yV rV;rw[e,<-h.hP,<-h.ha,<-h.hm,<-h.hn]
theorem wW {l:List Int} (h:fY l):(dW l).length<=5+39*258:=by
 have h1:=h.1;have h2:=h.2.1;have h0:=h.2.2 (l.getD 0 0) (by rw[aV,aN (show 0<l.length by omega)];exact List.getElem_mem _);have:=CZ l (l.getD 0 0) h0.1 h0.2 h.2.2;unfold dW;rw[aL,cY];have:39*l.length<=39*258:=Nat.mul_le_mul_left _ h2;omega
theorem YQ {l:List Int} (h:0<l.length):0<(dE l).length:=by
 cases l with
 |nil=>simp at h
 |cons x l=>
  unfold dE lF;rw[List.flatMap_cons,aL,aL];simp;omega
def eZ (t:ByteArray) (room:Int):Int:=if t.size=0\/room<1\/360<room then 1 else if room<((bC t.data.toList).length:Int) then 4 else 0
noncomputable def mP (t:ByteArray) (room:Int):List Bool:=if eZ t room=0 then cB t else[]
def zQ (w w':World) (t:ByteArray) (room:Int) (e:Ending):Prop:=e=.returned (.tuple #[eL (mP t room),.int .i64 (eZ t room)])/\Below w.heap.size w w'/\(eZ t room=0->fS (mkS (bC t.data.toList)))
theorem YR:eL []=.agg #[.string ⟨#[]⟩,.int .i64 0]:=rfl
theorem vB {w w':World} {t:ByteArray} {room E:Int} (h:eZ t room=E) (hE:E≠0) (hb:Below w.heap.size w w'):zQ w w' t room (.returned (.tuple #[.agg #[.string ⟨#[]⟩,.int .i64 0],.int .i64 E])):=by
 refine⟨?_,hb,fun k=>absurd (h.symm.trans k) hE⟩;unfold mP;rw[if_neg (by rw[h];exact hE),YR,h]
theorem rdQ {P1 P2 P3:Prop} {B:Nat} {w0 w':World} {v:Value} {m:List Int} (e:RdI w0 v m) (hB:w0.heap.size=B) (h:P1/\P2/\P3/\Below B w0 w'/\B<=w'.heap.size):RdI w' v m:=e.below (hB▸h.2.2.2.1)
theorem MH {t0 t1 cs:List Int} {gs:List (List Int)} {k:Nat} {c:Int} {g:List Int} (hc:cs[k]? =some c) (hg:gs[k]? =some g):gP t0 t1 (cs.take (k+1)) (gs.take (k+1))=gP t0 t1 (cs.take k) (gs.take k)++eR (if c=0 then t0 else t1) g:=by
 have h1:=(eU.1 hc).1;have h2:=(eU.1 hg).1;rw[cQ,cQ,hc,hg];exact KL _ _ _ _ _ _ (by rw[aX,aX];omega)
theorem bpE {fn:Func} {Q:Ending->World->Prop} {W:World} {a:Act} {z:Nat} {y0 y1 u:Value} (hr:fn.results=#[.cell 4 29,.tmp 5]) (hA:Arr W z 29 [y0,y1]) (h6:a.tmps.getD 4 undef=.pointer (some ⟨z,0,none⟩)) (h7:a.tmps.getD 5 undef=u) (hd:a.defers=[])
  (h:Q (.returned (.tuple #[.agg #[y0,y1],u])) W):bodyPost Tryz.prog fn Q .ret a W:=by
 refine bodyPost_ret (qH hr _ _ z _ _ (0,0) _ h6 hA Tryz.underlying29 rfl mF) hd ?_;rw[h7];exact h
theorem EJ {B:Nat} {w:World} {o o':Obj} (h:B<=w.heap.size):Below B (w.alloc o) (w.alloc o'):=
 ⟨rfl,rfl,rfl,by simp,fun k hk=>by rw[oF w o' k (by omega),oF w o k (by omega)]⟩
theorem EL {w W:World} {z:Nat} {x0 x1:Value} (hA:Arr W z 29 [x0,x1]) (hb:Below z w W) (y0 y1:Value):
  Arr ((W.setCell ⟨z,0,none⟩ y0).setCell ⟨z,1,none⟩ y1) z 29 [y0,y1]/\Below z w ((W.setCell ⟨z,0,none⟩ y0).setCell ⟨z,1,none⟩ y1):=
 ⟨(hA.set 0 _).set 1 _,(hb.setCell (p:=⟨z,0,none⟩) (aA _) _).setCell (p:=⟨z,1,none⟩) (aA _) _⟩
theorem YU {t0 t1:List Int} {n:Nat} (h0:fY t0) (h1:fY t1) (l0:t0.length=n) (l1:t1.length=n):∀(cs:List Int) (gs:List (List Int)),(∀g∈gs,g.length<=10/\∀x∈g,0<=x/\x<(n:Int))->(gP t0 t1 cs gs).length<=200*gs.length
 |[],gs,_=>by cases gs<;>simp[gP]
 |_::_,[],_=>by simp[gP]
 |c::cs,g::gs,h=>by
  have ih:=YU h0 h1 l0 l1 cs gs (fun g' hg=>h g' (List.mem_cons_of_mem _ hg));obtain⟨k1,k2⟩:=h g (List.mem_cons_self ..);show(eR (if c=0 then t0 else t1) g++gP t0 t1 cs gs).length<=_;rw[aL,cR];have:(eR (if c=0 then t0 else t1) g).length<=20*g.length:=by
   split
   ·exact rR h0 g (by rw[l0];exact k2)
   ·exact rR h1 g (by rw[l1];exact k2)
  omega
theorem YV {m g:List Int} (h:g∈cK m):g.length<=10/\∀x∈g,x∈m:=by
 obtain⟨i,_,rfl⟩:=List.mem_map.1 h;refine⟨by rw[aX];omega,fun x hx=>List.mem_of_mem_drop (List.mem_of_mem_take hx)⟩
theorem aOt (now x:Int):0<(jU now x).length:=by
 unfold jU;rw[aL,fK];omega
theorem YW:∀(l:List Int) (now:Int),l.length<=(eI now l).length
 |[],_=>by simp
 |x::l,now=>by
  have ih:=YW l x;have:=aOt now x;unfold eI;rw[aL,cR];omega
theorem YX (l:List Int):5+l.length<=(dW l).length:=by
 have:=YW l (l.getD 0 0);unfold dW;rw[aL,cY];omega
theorem zR {t:ByteArray} (h0:0<t.size) (hp:(bC t.data.toList).length<=360) (hO:fS (mkS (bC t.data.toList))):
  (cB t).length<=28000/\96+(fZ (bK (bC t.data.toList))).length+18+2*(5+((bK (bC t.data.toList)).length+2))<(cB t).length:=by
 obtain⟨P,a,m,o,n,hI⟩:=BIn.of h0 (by omega) hO;have hml:m.length<=361:=by
  have:=(LW (mkS P)).1;rw[<-hI.hm,cP,hI.hP] at this;omega
 have h1:=CD a;have h2:=wL (dO (cT m n)) 2 (yW (DE m n));have h2':=YQ (l:=dO (cT m n)) (by rw[uU,wJ];have:=hI.m0;omega);have h3:=wW (eH hI.c0).1;have h4:=wW (eH hI.c1).1;have h3':=YX (dN m n 0);have h4':=YX (dN m n 1);have h5:=YU (n:=n) (eH hI.c0).1 (eH hI.c1).1 hI.l0 hI.l1 (cT m n) (cK m) (fun g hg=>⟨(YV hg).1,fun x hx=>hI.rng x ((YV hg).2 x hx)⟩);rw[uU,wJ] at h2;rw[iD] at h5;rw[hI.l0] at h3';rw[hI.l1] at h4';have hn:=hI.hn
 rw[hI.blk,<-hI.hP,<-hI.ha];simp only[aL,cY];omega
theorem aOu {t:ByteArray} {n:Int} (h:eZ t n=0):0<t.size/\1<=n/\n<=360/\((bC t.data.toList).length:Int)<=n:=by
 unfold eZ at h;split at h
 ·omega
 ·split at h
  ·omega
  ·omega
theorem wY {t:ByteArray} {n:Int} (h0:0<t.size) (h1:1<=n) (h2:n<=360) (h3:((bC t.data.toList).length:Int)<=n):eZ t n=0:=by
 unfold eZ;rw[if_neg (by omega),if_neg (by omega)]
theorem EM {t:ByteArray} {n:Int} (h:eZ t n=0):mP t n=cB t:=by unfold mP;rw[if_pos h]
theorem YY {t:ByteArray} {n:Int} (h:eZ t n≠0):mP t n=[]:=by unfold mP;rw[if_neg h]
theorem aOv {t:ByteArray} {n:Int} (hO:eZ t n=0->fS (mkS (bC t.data.toList))):(mP t n).length<=28000:=by
 by_cases h:eZ t n=0
 ·rw[EM h];obtain⟨h0,h1,h2,h3⟩:=aOu h;exact(zR h0 (by omega) (hO h)).1
 ·rw[YY h];simp
theorem aPv {q:Nat} (h:q<256):(eK q).toNat=q:=by
 simp;omega
theorem ZV (y:UInt8) (r:Nat):bits .xor .u8 (y.toNat:Int) ((128:Int)/2^r)=((eK (y.toNat^^^(128>>>r))).toNat:Int):=by
 have h1:(128:Int)/(2:Int)^r=((128>>>r:Nat):Int):=by rw[AK];exact yG 128 r
 have h2:128>>>r<256:=Nat.lt_of_le_of_lt (by rw[AK];exact Nat.div_le_self _ _) (by decide);rw[h1,u8_xor_nat _ _ y.toNat_lt h2,aPv (Nat.xor_lt_two_pow (n:=8) y.toNat_lt h2)]
theorem ByA.rdB {w:World} {g cap:Nat} {l:List UInt8} (h:ByA w g l) (hc:l.length<=cap) (hm:cap<=maxLen):RdB w (.slice (some ⟨g,0,none⟩) l.length cap) l:=by
 refine⟨_,cap,rfl,hc,hm,.inr ⟨g,0,rfl,h.1,fun j hj=>?_⟩⟩;rw[rE] at hj;obtain⟨b,hb⟩:∃b,l[j]? =some b:=⟨_,aN hj⟩;rw[iZ,h.2.1 j b hb,aV,BH hb];rfl
theorem ByA.drew {w:World} {g:Nat} {l:List UInt8} (h:ByA w g l):ByA w.drew g l:=h
def EV (w w':World) (s:List UInt8) (a room:Int) (e:Ending):Prop:=
 e=.returned (.tuple #[wT a (cL s a room),.int .i64 (cL s a room).2.2.2])/\Below w.heap.size w w'
theorem mQ {w w':World} {s:List UInt8} {a room E:Int} (h:cL s a room=(cW,0,0,E)) (hE:E≠0) (hb:Below w.heap.size w w'):EV w w' s a room (.returned (.tuple #[.agg #[.string cW,.int .u32 0,.int .i64 0,.int .i64 0],.int .i64 E])):=
 ⟨by rw[h,YM a _ _ _ _ hE],hb⟩
theorem aAl {p:List UInt8} {most:Int} (h:(fR p most).2=0):((fR p most).1.length:Int)<=most:=by
 unfold fR at h ⊢
 cases hu:dT p with
 |none=>rw[hu] at h;simp at h
 |some o=>
  rw[hu] at h;simp only at h ⊢;split at h
  ·simp at h
  ·next q=>rw[if_neg q];show(o.length:Int)<=most;omega
theorem WrL.below {w w':World} {p B:Nat} {ls:List (List Bool)} (h:WrL w p B ls) (hb:Below w.heap.size w w'):WrL w' p B ls:=by
 obtain⟨v,h1,h2⟩:=h;exact⟨v,h1.below hb h1.lt,h2.below hb (aA _)⟩
theorem AA (s:ByteArray) (room:Int) (w:World) (hs:s.size<=100000):
  Calls Tryz.prog 12 #[.string s,.int .i64 room] w fun e w'=>zQ w w' s room e:=by
 have HL:=hid (show s.data.toList.length=s.size by simp);have hA0:=Arr.new w 29 [.string ⟨#[]⟩,.int .i64 0];have hs0:(w.alloc (.cells #[.string ⟨#[]⟩,.int .i64 0] 29)).heap.size=w.heap.size+1:=by simp
 have hb0:Below w.heap.size w (w.alloc (.cells #[.string ⟨#[]⟩,.int .i64 0] 29)):=bD (aB _ _) _;change Arr (w.alloc (.cells #[.string ⟨#[]⟩,.int .i64 0] 29)) _ _ _ at hA0;have hd:eZ s room=if s.size=0\/room<1\/360<room then 1 else if room<((bC s.data.toList).length:Int) then 4 else 0:=rfl;have d0:=hA0.cell (i:=0) rfl;have d1:=hA0.cell (i:=1) rfl;have f0:=hA0.free 0;have f1:=hA0.free 1;have hfit:=fun W=>ZU room W
 by_cases hbad:s.size=0\/room<1\/360<room
 ·rw[if_pos hbad] at hd;have HF:=hid hd;clear hd
  by_cases h1:s.size=0
  ·have u1:s.toList.isEmpty=true:=vA (List.eq_nil_of_length_eq_zero (by rw[HL.out];exact h1));go_enter Tryz.func12,Tryz.ntmps12;go_wp2_with fail;exact bpE rfl hA0 rfl rfl rfl (vB HF.out (by decide) hb0)
  have u1:s.toList.isEmpty=false:=rY (by omega);have hff:(decide (1<=room)&&decide (room<=360))=false:=by
   rw[Bool.and_eq_false_iff,decide_eq_false_iff_not,decide_eq_false_iff_not];omega
  rw[hff] at hfit;go_enter Tryz.func12,Tryz.ntmps12;go_wp2_with fail;refine(hfit _).mono ?_;rintro e w' ⟨rfl,rfl⟩;go_wp2_with fail;exact bpE rfl hA0 rfl rfl rfl (vB HF.out (by decide) hb0)
 rw[if_neg hbad] at hd;have u1:s.toList.isEmpty=false:=rY (by omega);have hff:(decide (1<=room)&&decide (room<=360))=true:=by
  rw[Bool.and_eq_true,decide_eq_true_eq,decide_eq_true_eq];omega
 rw[hff] at hfit;have hs1:0<s.size:=by omega
 have hpl:=(oS s.data.toList.length s.data.toList (aA _)).1;rw[HL.out] at hpl;have hln:=fun W=>ND s W (by omega)
 have hpk:=fun W=>aR7 s W (by omega)
 obtain⟨P,hP⟩:∃P,P=bC s.data.toList:=⟨_,rfl⟩;rw[<-hP] at hd hpk hpl hln;have HP:=hid hP;clear hP hff;go_enter Tryz.func12,Tryz.ntmps12;go_wp2_with fail;generalize w.alloc (.cells #[.string ⟨#[]⟩,.int .i64 0] 29)=w0 at*
 have hbz:w.heap.size<w0.heap.size:=by omega
 refine(hfit _).mono ?_;rintro e w' ⟨rfl,rfl⟩;clear hfit d0 d1 f0 f1;go_wp2_with fail;refine(hln _).mono ?_;rintro e w1 ⟨rfl,hb1⟩;have hA:=hA0.below hb1 hbz;have hb:=hb0.trans (hb1.mono (by omega));have hs1:=hb1.size;clear hln hb1 hA0 hb0
 by_cases hlong:room<(P.length:Int)
 ·rw[if_pos hlong] at hd;have HF:=hid hd;clear hd;have v1:decide ((P.length:Int)>room)=true:=decide_eq_true hlong;have v2:decide (room<(P.length:Int))=true:=decide_eq_true hlong;have d0:=hA.cell (i:=0) rfl;have d1:=hA.cell (i:=1) rfl;have f0:=hA.free 0;have f1:=hA.free 1;go_wp2_with fail;obtain⟨z0,z1⟩:=EL hA hb (.string ⟨#[]⟩) (.int .i64 0);exact bpE rfl z0 rfl rfl rfl (vB HF.out (by decide) z1)
 rw[if_neg hlong] at hd;have HF:=hid hd;clear hd;have v1:decide ((P.length:Int)>room)=false:=decide_eq_false hlong;have v2:decide (room<(P.length:Int))=false:=decide_eq_false hlong;have hP360:P.length<=360:=by omega
 go_wp2_with fail;refine(hpk _).mono ?_;rintro e w1' ⟨rfl,hb1⟩;have hA:=hA.below hb1 (by omega);have hb:=hb.trans (hb1.mono (by omega));have hs1:=aW hs1 hb1.size;clear hpk hb1;go_wp2_with fail;refine(aN0 (mkS P) _ (by rw[cP];omega)).mono ?_;rintro e w2 ⟨v5,rfl,hr5,hb2,hO⟩;have hpn:=(oS s.data.toList.length s.data.toList (aA _)).2.1 (fun e=>by have:=HL.out;rw[e] at this;simp at this;omega);rw[<-HP.out] at hpn;have hO:=hO (by rw[cP];exact kV.2 hpn);have HO:=hid (show fS (mkS (bC s.data.toList)) by rw[<-HP.out];exact hO)
 obtain⟨P',a,m,o,n,hI⟩:=BIn.of (t:=s) (by omega) (by rw[<-HP.out];omega) HO.out;obtain rfl:P'=P:=by rw[hI.hP,HP.out]
 rw[hI.hA,<-hI.ho,hI.hE,<-hI.hm] at*
 have HI:=hid hI;have hm0:=hI.m0;have hm361:=hI.m361;have hn2:=hI.n2;have hn258:=hI.n258;have ha256:=hI.a256;have ho16:=hI.o16;have hnn:(a.length:Int)+2=(n:Int):=by rw[hI.hn];omega
 have has:((mkS a).size:Int)+2=(n:Int):=by rw[cP];exact hnn
 have has2:(a.length:Int)+2=(n:Int):=hnn;obtain⟨a5,c5,rfl,_,_,_⟩:=hr5.open;have hA:=hA.below hb2 (by omega);have hb:=hb.trans (hb2.mono (by omega));have hs2:=hb2.size;clear hI hb2 hO;go_wp2_with fail;have hX:=Arr.new w2 50 [.string (mkS a),.int .i64 (o:Int),.slice a5 m.length c5];have hA:=hA.alloc (.cells #[.string (mkS a),.int .i64 (o:Int),.slice a5 m.length c5] 50);have hb:=hb.alloc (o:=.cells #[.string (mkS a),.int .i64 (o:Int),.slice a5 m.length c5] 50) (by omega);have hr5:=hr5.below (bD (aB w2.heap.size w2) (.cells #[.string (mkS a),.int .i64 (o:Int),.slice a5 m.length c5] 50))
 have hz3:(w2.alloc (.cells #[.string (mkS a),.int .i64 (o:Int),.slice a5 m.length c5] 50)).heap.size=w2.heap.size+1:=by simp
 change Arr (w2.alloc (.cells #[.string (mkS a),.int .i64 (o:Int),.slice a5 m.length c5] 50)) _ _ _ at hX;generalize w2.alloc (.cells #[.string (mkS a),.int .i64 (o:Int),.slice a5 m.length c5] 50)=w3 at*
 obtain⟨z7,hz7⟩:∃z7,z7=w2.heap.size:=⟨_,rfl⟩;rw[<-hz7] at hX hz3 hs2 ⊢;clear hz7;obtain⟨B3,hB3⟩:∃B3,w3.heap.size=B3:=⟨_,rfl⟩;have x0:=hX.cell (i:=0) rfl;have x1:=hX.cell (i:=1) rfl;have x2:=hX.cell (i:=2) rfl;have hz7B:z7<B3:=by omega
 have hS0:=kZ (B:=B3) (w0:=w3) ⟨x0,x1,x2,aB _ _,by omega⟩ (aB w3.heap.size w3).drew
 go_region_held3 (fun w'=>w'.cell? ⟨z7,0,none⟩=some (.string (mkS a))/\w'.cell? ⟨z7,1,none⟩=some (.int .i64 (o:Int))/\w'.cell? ⟨z7,2,none⟩=some (.slice a5 m.length c5)/\Below B3 w3 w'/\B3<=w'.heap.size)
  (first
   |with_reducible assumption
   |with_reducible exact kZ (by assumption) (by assumption))
  (first
   |(go_at_call 30;refine(WV (mkS a) (o:Int) (.slice a5 m.length c5) rfl _ (by rw[cP];omega)).mono ?_;rintro e w4 ⟨rfl,hb4⟩;rw[has])
   |(go_at_call 29;refine(aSk (.slice a5 m.length c5) m n _ (rdQ hr5 hB3 (by assumption)) hm0 (by omega) (by omega) hn258 HI.out.rng).mono ?_;rintro e w5 ⟨v9,v10,rfl,hL9,ho10,hb5⟩))
 have hS5:=(show w5.cell? ⟨z7,0,none⟩=some (.string (mkS a))/\w5.cell? ⟨z7,1,none⟩=some (.int .i64 (o:Int))/\w5.cell? ⟨z7,2,none⟩=some (.slice a5 m.length c5)/\Below B3 w3 w5/\B3<=w5.heap.size by assumption);obtain⟨x0,x1,x2,hb35,hs35⟩:=hS5;obtain⟨B,hB⟩:∃B,B=w5.heap.size:=⟨_,rfl⟩;have hzB:z7<B:=by omega
 have hwB:w.heap.size<B:=by omega
 have HC:=hid (fun W (h:Below B w5 W)=>show W.cell? ⟨z7,0,none⟩=some (.string (mkS a))/\W.cell? ⟨z7,1,none⟩=some (.int .i64 (o:Int))/\W.cell? ⟨z7,2,none⟩=some (.slice a5 m.length c5) from⟨(h.cell (p:=⟨z7,0,none⟩) hzB).trans x0,(h.cell (p:=⟨z7,1,none⟩) hzB).trans x1,(h.cell (p:=⟨z7,2,none⟩) hzB).trans x2⟩);have hA:=hA.below hb35 (by omega);have hb:=hb.trans (hb35.mono (by omega));have hr5:=hr5.below (hB3▸hb35);have hr10:=OwI.rd ho10;have HA:=hid (fun W (h:Below B w5 W)=>hA.below h hwB);have HB:=hid (fun W (h:Below B w5 W)=>hb.trans (h.mono (Nat.le_of_lt hwB)))
 have HR5:=hid (fun W (h:Below B w5 W)=>hr5.below (hB▸h));have HR10:=hid (fun W (h:Below B w5 W)=>hr10.below (hB▸h));have HL9:=hid (fun W (h:Below B w5 W)=>hL9.below (hB▸h));have hGl:=wJ m n;obtain⟨ac,cc,rfl,_,_,hA10⟩:=hr10.open;obtain⟨b10,o10,rfl,hb10,hc10⟩:=hA10 (by omega);obtain⟨at9,ct9,rfl,hn9,hm9,hA9⟩:=hL9.open;obtain⟨b9,o9,rfl,hb9,hc9⟩:=hA9 (by simp);obtain⟨y0,hy0,hry0⟩:=hc9 0 _ rfl;obtain⟨y1,hy1,hry1⟩:=hc9 1 _ rfl;obtain⟨T0,hT0⟩:∃T0,T0=dN m n 0:=⟨_,rfl⟩;obtain⟨T1,hT1⟩:∃T1,T1=dN m n 1:=⟨_,rfl⟩;rw[<-hT0] at hry0;rw[<-hT1] at hry1;have HT0:=hid hT0;have HT1:=hid hT1
 have HK0:=hid (show bL T0=0/\T0.length=n by rw[hT0];exact⟨HI.out.c0,HI.out.l0⟩);have HK1:=hid (show bL T1=0/\T1.length=n by rw[hT1];exact⟨HI.out.c1,HI.out.l1⟩);obtain⟨ay0,cy0,rfl,_,_,_⟩:=hry0.open;obtain⟨ay1,cy1,rfl,_,_,_⟩:=hry1.open;have HTB:=hid (fun W (h:Below B w5 W)=>show W.cell? ⟨b9,o9,none⟩=some (.slice ay0 T0.length cy0)/\W.cell? ⟨b9,o9+1,none⟩=some (.slice ay1 T1.length cy1)/\RdI W (.slice ay0 T0.length cy0) T0/\RdI W (.slice ay1 T1.length cy1) T1 from
  ⟨(h.cell (p:=⟨b9,o9,none⟩) (by rw[hB];exact hb9)).trans hy0,(h.cell (p:=⟨b9,o9+1,none⟩) (by rw[hB];exact hb9)).trans hy1,hry0.below (hB▸h),hry1.below (hB▸h)⟩)
 have HCH:=hid (fun W (h:Below B w5 W) i c (hi:(cT m n)[i]? =some c)=>show W.cell? ⟨b10,o10+i,none⟩=some (.int .i64 c) from(h.cell (p:=⟨b10,o10+i,none⟩) (by rw[hB];exact hb10)).trans (hc10 i c hi));clear hA10 hc10 hA9 hc9 hy0 hy1 hry0 hry1 hT0 hT1;have hGb:(cT m n).length<=901:=by omega
 have hG0:0<(cT m n).length:=by omega
 have HCB:=hid (DE m n);have hZ:=(fG s.data.toList).isLt;obtain⟨Z,hZe⟩:∃Z,Z=(fG s.data.toList).toNat:=⟨_,rfl⟩;rw[<-hZe] at hZ;have hsum:=fun W=>FA s W (by omega)
 rw[<-hZe] at hsum;have HZ:=hid hZe;obtain⟨G,hG⟩:∃G,G=(cT m n).length:=⟨_,rfl⟩;have HG:=hid hG;have HGL:=hid (hG.trans hGl);have hmp:=fun W=>aPk (mkS a) W (by rw[cP];omega)
 rw[fW] at hmp;have hmpl:=CD a;have hse:=fun W h=>aO9 (.slice (some ⟨b10,o10,none⟩) (cT m n).length cc) (cT m n) W h (by omega) HCB.out
 have hsl:=wL (dO (cT m n)) 2 (yW HCB.out);rw[uU] at hsl;have hd0:=fun W h=>ZN (.slice ay0 T0.length cy0) T0 W h (eH HK0.out.1).1
 have hd1:=fun W h=>ZN (.slice ay1 T1.length cy1) T1 W h (eH HK1.out.1).1
 have hdl0:=wW (eH HK0.out.1).1;have hdl1:=wW (eH HK1.out.1).1;obtain⟨XM,hXM⟩:∃X,X=fZ a:=⟨_,rfl⟩;obtain⟨XS,hXS⟩:∃X,X=dE (dO (cT m n)):=⟨_,rfl⟩;obtain⟨X0,hX0⟩:∃X,X=dW T0:=⟨_,rfl⟩;obtain⟨X1,hX1⟩:∃X,X=dW T1:=⟨_,rfl⟩;rw[<-hXM] at hmp hmpl;rw[<-hXS] at hse hsl;rw[<-hX0] at hd0 hdl0;rw[<-hX1] at hd1 hdl1;unfold eL at hmp hse hd0 hd1;rw[<-hG] at hse hsl hGb hG0 HR10 ⊢;have HXM:=hid hXM;have HXS:=hid hXS;have HX0:=hid hX0;have HX1:=hid hX1;have e1:fU.wrap (Z:Int)=(Z:Int):=by rw[gF];omega
 have e2:(Z:Int)%18446744073709551616=(Z:Int):=by omega
 have e3:fU.wrap (o:Int)=(o:Int):=by rw[gF];omega
 have e4:(o:Int)%18446744073709551616=(o:Int):=by omega
 have e5:fU.wrap (G:Int)=(G:Int):=by rw[gF];omega
 have e6:(G:Int)%18446744073709551616=(G:Int):=by omega
 obtain⟨l0,hl0⟩:∃l,l=aY 0x314159265359 48:=⟨_,rfl⟩;obtain⟨l1,hl1⟩:∃l,l=aY Z 32:=⟨_,rfl⟩;obtain⟨l2,hl2⟩:∃l,l=aY o 16:=⟨_,rfl⟩;obtain⟨l4,hl4⟩:∃l,l=aY 2 3:=⟨_,rfl⟩;obtain⟨l5,hl5⟩:∃l,l=aY G 15:=⟨_,rfl⟩;have hmg:∀W,WrL W B (B+1) []->B+1<=W.heap.size->Calls Tryz.prog 31 #[.pointer (some ⟨B,0,none⟩),.int .u64 54156738319193,.int .i64 48] W fun e w'=>e=.returned (.tuple #[])/\WrL w' B (B+1) [l0]/\Below B W w':=fun W h1 h2=>by
  rw[hl0];exact zW B (B+1) [] 54156738319193 48 W h1 (by omega) h2 (by decide) (by decide) (by decide)
 have hsm:=fun W h1 h2=>zW B (B+1) [l0] Z 32 W h1 (by omega) h2 (by simp) (by omega) (by decide)
 have hog:=fun W h1 h2=>zW B (B+1) [l0,l1] o 16 W h1 (by omega) h2 (by simp) (by omega) (by decide)
 have htw:∀W,WrL W B (B+1) [l0,l1,l2,XM]->B+1<=W.heap.size->Calls Tryz.prog 31 #[.pointer (some ⟨B,0,none⟩),.int .u64 2,.int .i64 3] W fun e w'=>e=.returned (.tuple #[])/\WrL w' B (B+1) [l0,l1,l2,XM,l4]/\Below B W w':=fun W h1 h2=>by
  rw[hl4];exact zW B (B+1) [l0,l1,l2,XM] 2 3 W h1 (by omega) h2 (by simp) (by decide) (by decide)
 have hct:=fun W h1 h2=>zW B (B+1) [l0,l1,l2,XM,l4] G 15 W h1 (by omega) h2 (by simp) (by omega) (by decide)
 rw[<-hl1] at hsm;rw[<-hl2] at hog;rw[<-hl5] at hct;have HLS:=hid (show[l0,l1,l2,XM,l4,l5,XS].flatten=aY 0x314159265359 48++aY Z 32++aY o 16++fZ a++(aY 2 3++aY G 15++dE (dO (cT m n))) by
  rw[hl0,hl1,hl2,hl4,hl5,hXM,hXS];simp only[AS,OO,eE,cF])
 have hflen:[l0,l1,l2,XM,l4,l5,XS].flatten.length<=3000:=by
  rw[hl0,hl1,hl2,hl4,hl5];simp only[AS,OO,eE,aL,cY];omega
 clear hZe hG hGl hXM hXS hX0 hX1 hl0 hl1 hl2 hl4 hl5;go_wp2_with fail;have hW:WrL (w5.alloc (.cells #[.slice none 0 0] 69)) B (B+1) []:=⟨_,by rw[hB];exact Arr.new w5 _ _,gG.nil _ _⟩;have hbc:Below B w5 (w5.alloc (.cells #[.slice none 0 0] 69)):=by rw[hB];exact bD (aB _ _) _
 have hsc:B+1<=(w5.alloc (.cells #[.slice none 0 0] 69)).heap.size:=by rw[hB];simp
 generalize w5.alloc (.cells #[.slice none 0 0] 69)=w6 at*
 rw[<-hB];have HBB:=hid hB;clear hB;refine(hmg _ hW hsc).mono ?_;rintro e w7 ⟨rfl,hW,hb7⟩;have hbc:=hbc.trans hb7;have hsc:=aW hsc hb7.size;clear hmg hb7;go_wp2_with fail;refine(hsum _).mono ?_;rintro e w8 ⟨rfl,hb8⟩;have hW:=hW.below hb8;have hbc:=hbc.trans (hb8.mono (by omega));have hsc:=aW hsc hb8.size;clear hsum hb8;go_wp2_with fail;refine(hsm _ hW hsc).mono ?_;rintro e w9 ⟨rfl,hW,hb9⟩;have hbc:=hbc.trans hb9;have hsc:=aW hsc hb9.size;clear hsm hb9;obtain⟨xa,xb,xc⟩:=HC.out _ hbc;clear xa xc;go_wp2_with fail;refine(hog _ hW hsc).mono ?_
 rintro e w10 ⟨rfl,hW,hb10⟩;have hbc:=hbc.trans hb10;have hsc:=aW hsc hb10.size;clear hog hb10;obtain⟨xa,xb',xc⟩:=HC.out _ hbc;clear xb' xc xb;go_wp2_with fail;refine(hmp _).mono ?_;rintro e w11 ⟨rfl,hb11⟩;have hW:=hW.below hb11;have hbc:=hbc.trans (hb11.mono (by omega));have hsc:=aW hsc hb11.size;clear hmp hb11;go_wp2_with fail;refine(xF B (B+1) [l0,l1,l2] XM 0 _ hW (by omega) hsc (by simp)).mono ?_;rintro e w12 ⟨rfl,hW,hb12,-⟩;have hbc:=hbc.trans hb12;have hsc:=aW hsc hb12.size;clear hb12;go_wp2_with fail;refine(htw _ hW hsc).mono ?_
 rintro e w13 ⟨rfl,hW,hb13⟩;have hbc:=hbc.trans hb13;have hsc:=aW hsc hb13.size;clear htw hb13;go_wp2_with fail;refine(hct _ hW hsc).mono ?_;rintro e w14 ⟨rfl,hW,hb14⟩;have hbc:=hbc.trans hb14;have hsc:=aW hsc hb14.size;clear hct hb14;go_wp2_with fail;refine(hse _ (HR10.out _ hbc)).mono ?_;rintro e w15 ⟨rfl,hb15⟩;have hW:=hW.below hb15;have hbc:=hbc.trans (hb15.mono (by omega));have hsc:=aW hsc hb15.size;clear hse hb15;go_wp2_with fail;refine(xF B (B+1) [l0,l1,l2,XM,l4,l5] XS 0 _ hW (by omega) hsc (by simp)).mono ?_;rintro e w16 ⟨rfl,hW,hb16,-⟩
 have hbc:=hbc.trans hb16;have hsc:=aW hsc hb16.size;clear hb16;clear xa e1 e2 e3 e4 e5 e6;obtain⟨L7,hL7⟩:∃L,L=[l0,l1,l2,XM,l4,l5,XS]:=⟨_,rfl⟩;have hW:WrL w16 B (B+1) L7:=by rw[hL7];exact hW
 rw[<-hL7] at HLS hflen;have hL7l:L7.length=7:=by rw[hL7];rfl
 clear hL7;go_wp2_with fail
 go_loopg [13,71] 2 (fun gm _s13 s71 wr=>∃k:Nat,k<=2/\gm=2-k/\s71=.int .i64 (k:Int)/\WrL wr B (B+1) (L7++[X0,X1].take k)/\Below B w5 wr/\B+1<=wr.heap.size)
 case atStart=>exact⟨0,by omega,rfl,rfl,by simpa using hW,hbc,hsc⟩
 case round=>
  clear hW hbc hsc;obtain⟨k,hk,hg,rfl,hW,hbc,hsc⟩:=hrel;have HGK:=hid hg;clear hg;obtain⟨t0,t1,t2,t3⟩:=HTB.out _ hbc;rcases(show k=0\/k=1\/k=2 by omega) with rfl|rfl|rfl
  ·clear t1 t3;go_wp2_with fail;refine(hd0 _ t2).mono ?_;rintro e w20 ⟨rfl,hb20⟩;have hW:=hW.below hb20;have hbc:=hbc.trans (hb20.mono (by omega));have hsc:=aW hsc hb20.size;clear hb20;go_wp2_with fail;refine(xF B (B+1) _ X0 0 _ hW (by omega) hsc (by simp;omega)).mono ?_;rintro e w21 ⟨rfl,hW,hb21,-⟩;go_wp2_with fail;have hg:=HGK.out
   go_roundg 1
   case measure=>omega
   case rel=>exact⟨1,by omega,rfl,by go_num,by simpa using hW,hbc.trans hb21,aW hsc hb21.size⟩
  ·clear t0 t2;go_wp2_with fail;refine(hd1 _ t3).mono ?_;rintro e w20 ⟨rfl,hb20⟩;have hW:=hW.below hb20;have hbc:=hbc.trans (hb20.mono (by omega));have hsc:=aW hsc hb20.size;clear hb20;go_wp2_with fail;refine(xF B (B+1) _ X1 0 _ hW (by omega) hsc (by simp;omega)).mono ?_;rintro e w21 ⟨rfl,hW,hb21,-⟩;go_wp2_with fail;have hg:=HGK.out
   go_roundg 0
   case measure=>omega
   case rel=>exact⟨2,by omega,rfl,by go_num,by simpa using hW,hbc.trans hb21,aW hsc hb21.size⟩
  ·clear t0 t1 t2 t3;obtain⟨L9,hL9e⟩:∃L,L=L7++[X0,X1].take 2:=⟨_,rfl⟩;rw[<-hL9e] at hW;have hfl9:L9.flatten=L7.flatten++(X0++X1):=by rw[hL9e];simp
   have hl9:L9.length=9:=by rw[hL9e];simp;omega
   have hfb9:L9.flatten.length<=30000:=by rw[hfl9,aL,aL];omega
   obtain⟨D,hD⟩:∃D,D=L9.flatten:=⟨_,rfl⟩;have HD:=hid (hD.trans hfl9);have HDD:=hid hD;obtain⟨xa,xb,xc⟩:=HC.out _ hbc;have hgc:=aBi (.slice a5 m.length c5) m _ (HR5.out _ hbc) hm0 (by omega);clear xa xb hL9e hfl9 hd0 hd1 hD;obtain⟨wo,rfl⟩:∃wo,wo=wr:=⟨_,rfl⟩;go_wp2_with fail;refine hgc.mono ?_;rintro e w30 ⟨v8,gs,rfl,ho8,hl8,hb30⟩;have hW:=hW.below hb30;have hbc:=hbc.trans (hb30.mono (by omega));have hsg:=hsc;have hsc:=aW hsc hb30.size;have hgsl:gs.length=G:=by rw[hl8.1,iD];exact HGL.out.symm
   obtain⟨b8,o8,c8,rfl⟩:=Ow.openN ho8 (by omega);obtain⟨BG,hBG⟩:∃BG,BG=wo.heap.size:=⟨_,rfl⟩;rw[<-hBG] at ho8 hl8 hsg;rw[hgsl] at ho8 ⊢;have HRNG:=hid HI.out.rng;have HMEM:=hid (fun j g (h:(cK m)[j]? =some g)=>DK h);clear hgc hb30 xc hBG;go_wp2_with fail
   go_loopg [14,15,85] G (fun gm _s14 _s15 s85 wr=>∃(i:Nat) (ls:List (List Bool)),i<=G/\gm=G-i/\s85=.int .i64 (i:Int)/\WrL wr B (B+1) ls/\Hid (ls.flatten=D++gP T0 T1 ((cT m n).take i) ((cK m).take i))/\ls.length<=20+i/\ls.flatten.length<=30000+300*i/\Ow wr BG 27 (.slice (some ⟨b8,o8,none⟩) G c8) gs/\fE wr BG gs (cK m)/\Below B w5 wr/\B+1<=wr.heap.size)
   case atStart=>exact⟨0,L9,Nat.zero_le _,rfl,rfl,hW,hid (by rw[HDD.out];simp[gP]),by omega,by omega,ho8,hl8,hbc,hsc⟩
   case round=>
    clear hW ho8 hl8 hbc hsc hfb9 hl9;obtain⟨i,ls,hi,hg,rfl,hW,HFL,hll,hfb,ho8,hl8,hbc,hsc⟩:=hrel;have HGI:=hid hg;clear hg
    by_cases hlt:i<G
    ·have q1:decide ((i:Int)<(G:Int))=true:=decide_eq_true (by omega);have hgG:=HGL.out;obtain⟨g,hgg⟩:∃g,(cK m)[i]? =some g:=⟨_,aN (by rw[iD];omega)⟩;obtain⟨c,hcc⟩:∃c,(cT m n)[i]? =some c:=⟨_,aN (by rw[wJ];omega)⟩;obtain⟨x,hx⟩:∃x,gs[i]? =some x:=⟨_,aN (by rw[hgsl];exact hlt)⟩;have hxr:=OwI.rd (hl8.2 i x g hx hgg);have cg:=ho8.cellAt hx;have ccell:=HCH.out _ hbc i c hcc;obtain⟨t0,t1,t2,t3⟩:=HTB.out _ hbc;obtain⟨m1,m2⟩:=HMEM.out i g hgg;have hrng:∀x∈g,0<=x/\x<(n:Int):=fun x hx=>HRNG.out x (m1 x hx)
     have hct:=MH (t0:=T0) (t1:=T1) hcc hgg;obtain⟨ax,cx,rfl,_,_,_⟩:=hxr.open;have hcb:=HCB.out c (List.mem_of_getElem? hcc);clear m1 hgg hx hcc hgG;rcases hcb with rfl|rfl
     ·rw[if_pos rfl] at hct;have hcp:=aBj (.slice ay0 T0.length cy0) (.slice ax g.length cx) T0 g _ t2 hxr HK0.out.1 (by rw[HK0.out.2];exact hrng) (by omega);have hcl:=rR (eH HK0.out.1).1 g (by rw[HK0.out.2];exact hrng);obtain⟨X,hX⟩:∃X,X=eR T0 g:=⟨_,rfl⟩;rw[<-hX] at hct hcp hcl;unfold eL at hcp;have HCT:=hid hct;clear hct hX hrng t1 t2 t3 hxr;go_wp2_with fail;refine hcp.mono ?_;rintro e w31 ⟨rfl,hb31⟩;have hW:=hW.below hb31;have hbc:=hbc.trans (hb31.mono (by omega));have hsc:=aW hsc hb31.size;have ho8:=ho8.below hb31 (aA _)
      have hl8:=hl8.below hb31;clear hcp hb31 cg ccell t0;go_wp2_with fail;refine(xF B (B+1) _ X 0 _ hW (by omega) hsc (by omega)).mono ?_;rintro e w32 ⟨rfl,hW,hb32,hk32⟩;go_wp2_with fail;have hg:=HGI.out
      go_roundg (G-(i+1))
      case measure=>omega
      case rel=>exact⟨i+1,_,by omega,rfl,by go_num,hW,hid (by rw[AM,HFL.out,HCT.out];simp),by rw[aL,fK];omega,by rw[AM,aL,AS,OO,eE];omega,hk32.ow ho8 (by omega) (by decide),hl8.map (fun x g k=>hk32.ow k (by omega) (by decide)),hbc.trans hb32,aW hsc hb32.size⟩
     ·rw[if_neg (by decide)] at hct;have hcp:=aBj (.slice ay1 T1.length cy1) (.slice ax g.length cx) T1 g _ t3 hxr HK1.out.1 (by rw[HK1.out.2];exact hrng) (by omega);have hcl:=rR (eH HK1.out.1).1 g (by rw[HK1.out.2];exact hrng);obtain⟨X,hX⟩:∃X,X=eR T1 g:=⟨_,rfl⟩;rw[<-hX] at hct hcp hcl;unfold eL at hcp;have HCT:=hid hct;clear hct hX hrng t0 t2 t3 hxr;go_wp2_with fail;refine hcp.mono ?_;rintro e w31 ⟨rfl,hb31⟩;have hW:=hW.below hb31;have hbc:=hbc.trans (hb31.mono (by omega));have hsc:=aW hsc hb31.size;have ho8:=ho8.below hb31 (aA _)
      have hl8:=hl8.below hb31;clear hcp hb31 cg ccell t1;go_wp2_with fail;refine(xF B (B+1) _ X 0 _ hW (by omega) hsc (by omega)).mono ?_;rintro e w32 ⟨rfl,hW,hb32,hk32⟩;go_wp2_with fail;have hg:=HGI.out
      go_roundg (G-(i+1))
      case measure=>omega
      case rel=>exact⟨i+1,_,by omega,rfl,by go_num,hW,hid (by rw[AM,HFL.out,HCT.out];simp),by rw[aL,fK];omega,by rw[AM,aL,AS,OO,eE];omega,hk32.ow ho8 (by omega) (by decide),hl8.map (fun x g k=>hk32.ow k (by omega) (by decide)),hbc.trans hb32,aW hsc hb32.size⟩
    ·have q1:decide ((i:Int)<(G:Int))=false:=decide_eq_false (by omega);have hie:i=G:=by omega
     have hA9':=HA.out _ hbc;have hB9':=HB.out _ hbc;have hBlk:=HI.out.blk;obtain⟨E,hE⟩:∃E,E=ls.flatten:=⟨_,rfl⟩;have hEq:E=cB s:=by
      rw[hBlk,hE,HFL.out,hie,cS (by rw[<-HG.out];exact aA _),cS (by rw[iD,<-HGL.out];exact aA _),HD.out,HLS.out,HX0.out,HX1.out,HZ.out,<-HG.out,<-HT0.out,<-HT1.out];simp only[cF]
     have HEQ:=hid hEq;obtain⟨vw,hAw,hOw⟩:=hW;have hcat:=CF vw ls _ hOw.rd (by omega);rw[<-hE] at hcat;unfold eL at hcat;obtain⟨aw,cw,rfl,-⟩:=hOw.rd;have dw:=hAw.cell (i:=0) rfl;clear hEq hBlk hie ho8 hl8 hOw hE;go_wp2_with fail;refine hcat.mono ?_;rintro e w40 ⟨rfl,hb40⟩;have hA40:=hA9'.below hb40 (by omega);have hB40:=hB9'.trans (hb40.mono (by omega));have d0:=hA40.cell (i:=0) rfl;have d1:=hA40.cell (i:=1) rfl;have f0:=hA40.free 0;have f1:=hA40.free 1;clear hcat hb40 hA9' hB9';go_wp2_with fail;obtain⟨z0,z1⟩:=EL hA40 hB40 (.string (mkS (aD E))) (.int .i64 (E.length:Int))
     refine bpE rfl z0 rfl rfl rfl ⟨?_,z1,fun _=>HO.out⟩;have hBL:mP s room=E:=by unfold mP;rw[if_pos HF.out,HEQ.out]
     rw[hBL,HF.out];rfl
theorem aBq (t:ByteArray) (_v:Nat):∃R:List Bool,∀v',oB t v'=aY 0x314159265359 48++(aY v' 32++R):=by
 refine⟨aY (sqO (mkS (bC t.data.toList))).toNat 16++(fZ (bK (bC t.data.toList))++rV (sqS (mkS (bC t.data.toList))) ((bK (bC t.data.toList)).length+2)),fun v'=>?_⟩;unfold oB yV;simp only[cF]
theorem aBr {A B R:List Bool} {i:Nat}:(A++(B++R)).getD i false=if i<A.length then A.getD i false else if i<A.length+B.length then B.getD (i-A.length) false else R.getD (i-A.length-B.length) false:=by
 simp only[aV,List.getElem?_append];split
 ·rfl
 ·split
  ·next h1 h2=>rw[if_pos (by omega)]
  ·next h1 h2=>rw[if_neg (by omega)]
theorem aS2 {t:ByteArray} {T:Nat} (hT:T<2^32) (h0:0<t.size) (hp:(bC t.data.toList).length<=360) (hO:fS (mkS (bC t.data.toList))):
  (cL (jV (aD (cB t)) 48 T 32) 0 360).2.2.2=if T=0 then 0 else 7:=by
 have hlen:=(zR h0 hp hO).2
 by_cases hT0:T=0
 ·subst hT0;rw[YI,if_pos rfl];have h2:=EI (s:=aD (cB t)) (a:=0) (room:=360) h0 hO (by omega) (by omega) (zP _);have h2:cL (aD (cB t)) 0 360=_:=h2;rw[h2]
 ·rw[if_neg hT0];have hcl:(fG t.data.toList).toNat<2^32:=(fG t.data.toList).isLt;obtain⟨v,hv⟩:∃v,v=(fG t.data.toList).toNat:=⟨_,rfl⟩;rw[<-hv] at hcl;have hbl:cB t=oB t v:=by unfold cB;rw[hv]
  obtain⟨l',hl'⟩:∃l',l'=(List.range 32).map (fun i=>(aY v 32).getD i false != T.testBit i):=⟨_,rfl⟩;have hll:l'.length=32:=by rw[hl'];simp
  have hlg:∀i,i<32->l'.getD i false=((aY v 32).getD i false != T.testBit i):=fun i hi=>by
   rw[hl',aV,List.getElem?_map,List.getElem?_range hi];rfl
  have hnum:aY (bY l') 32=l':=by have:=yB l';rwa[hll] at this
  have hv':bY l'<2^32:=by have:=qE l';rwa[hll] at this
  have hne:v≠bY l':=fun e=>hT0 (by
   have hb:∀i,i<32->T.testBit i=false:=fun i hi=>by
    have h1:=hlg i hi;rw[<-hnum,<-e] at h1
    cases hx:T.testBit i with
    |false=>rfl
    |true=>rw[hx] at h1;cases hy:(aY v 32).getD i false<;>rw[hy] at h1<;>cases h1
   refine Nat.eq_of_testBit_eq (fun i=>?_);rw[Nat.zero_testBit]
   by_cases hi:i<32
   ·exact hb i hi
   ·exact Nat.testBit_lt_two_pow (Nat.lt_of_lt_of_le hT (Nat.pow_le_pow_right (by decide) (by omega))))
  obtain⟨R,hR⟩:=aBq t v;have hbv:(oB t v).length=(oB t (bY l')).length:=by rw[hR,hR];simp[cY]
  have hst:fH (jV (aD (cB t)) 48 T 32) 0 (oB t (bY l')):=by
   have hs:=zP (cB t);refine aOi ?_ (fun i hi=>?_)
   ·rw[wS,<-hbv,<-hbl];exact hs.1
   ·have hi':i<(cB t).length:=by rw[hbl,hbv];exact hi
    have h8:48+32<=8*(aD (cB t)).length:=by have:=hs.1;omega
    rw[YH 32 h8,MD hs hi',hbl,hR,hR,aBr,aBr];simp only[cY,iZ]
    by_cases c1:i<48
    ·rw[if_pos c1,if_pos c1,decide_eq_false (by omega)];simp
    ·rw[if_neg c1,if_neg c1]
     by_cases c2:i<48+32
     ·rw[if_pos c2,if_pos c2,decide_eq_true (by omega),hnum,hlg _ (by omega)];simp
     ·rw[if_neg c2,if_neg c2,decide_eq_false (by omega)];simp
  have hd:=ME (room:=360) hv' h0 hO (by decide) (by decide) (by omega) hst;have hd:cL (jV (aD (cB t)) 48 T 32) 0 360=_:=hd;rw[hd,if_neg (by omega),if_neg (by rw[<-hv];exact hne)]
theorem aS3 {t:ByteArray} {k:Nat} (hk:k<48) (h0:0<t.size) (hp:(bC t.data.toList).length<=360) (hO:fS (mkS (bC t.data.toList))):
  (cL (nM (aD (cB t)) k) 0 360).2.2.2=3:=by
 have hlen:=(zR h0 hp hO).2;have hs:=zP (cB t);have h8:48<=8*(aD (cB t)).length:=by have:=hs.1;omega
 obtain⟨R,hR⟩:=aBq t 0;have hm:fH (aD (cB t)) 0 (aY 0x314159265359 48):=by
  have hs':=hs;unfold cB at hs' ⊢;rw[hR] at hs' ⊢;exact(jN hs').1
 have hg:aO (nM (aD (cB t)) k).length 0 48=0:=by
  rw[EG];unfold aO;rw[if_neg (by omega),if_neg (by omega)]
 rw[wU,if_neg (by decide),if_neg (by rw[hg];exact fun q=>q rfl)];rw[if_pos];intro hv;have hseg:(seg (nM (aD (cB t)) k) 0 48).length=48:=by
  unfold seg;rw[aX,List.length_drop,xZ,EG];omega
 have hst:fH (nM (aD (cB t)) k) 0 (aY 0x314159265359 48):=by
  refine⟨by rw[cY,EG];omega,?_⟩;rw[cY];have h1:=yB (seg (nM (aD (cB t)) k) 0 48);rw[hseg] at h1;unfold aE at hv;rw[if_pos hg] at hv;have hv:bY (seg (nM (aD (cB t)) k) 0 48)=0x314159265359:=hv;rw[<-h1,hv]
 have b1:=MD hst (i:=k) (by rw[cY];exact hk);have b2:=MD hm (i:=k) (by rw[cY];exact hk);rw[iZ] at b1 b2;rw[YG (by omega),b2] at b1;simp at b1
end Go.Proofs.YtiifmcicleljjaaGreatDoor
