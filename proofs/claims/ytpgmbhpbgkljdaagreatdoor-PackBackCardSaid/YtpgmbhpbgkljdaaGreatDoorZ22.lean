/-
  Texts put together (part 22): the walks and the plain laws on which the statement stands.
-/
import Derived.Test.YtpgmbhpbgkljdaaGreatDoorZ19
import Derived.Test.YtpgmbhpbgkljdaaGreatDoorZ20
import Derived.Test.YtpgmbhpbgkljdaaGreatDoorZ21
set_option maxRecDepth 100000
set_option maxHeartbeats 12800000
open Decidable renaming not_not->dK
open Go renaming heap_setCell_other->kT
open Go.IntKind renaming u64->fU,wrap_u64->gF
open Go.RowKit.Below renaming heap_alloc->oF,refl->aB
open List renaming append_assoc->cF,append_nil->eE,flatten_append->AM,flatten_cons->AS,flatten_nil->OO,getElem?_eq_getElem->aN,getElem?_eq_some_iff->eU,length_append->aL,length_pos_iff->kV,length_singleton->fK,length_take->aX,take_add_one->cQ,take_of_length_le->cS
open Nat renaming add_sub_cancel->jZ,le_refl->aA,le_trans->aW
open Option.some renaming injEq->iP
open Prod renaming ext->gK
namespace Go.Proofs.YtpgmbhpbgkljdaaGreatDoor
section
open Go.RowKit
def cL (s:List UInt8) (at' room:Int):ByteArray×Int×Int×Int:=
 if at'<0\/room<1\/360<room then(cW,0,0,1)
 else if aO s.length at' 48≠0 then(cW,0,0,aO s.length at' 48)
 else if aE s at' 48≠0x314159265359 then(cW,0,0,3)
 else if aO s.length (at'+48) 32≠0 then(cW,0,0,aO s.length (at'+48) 32)
 else if aO s.length (at'+80) 16≠0 then(cW,0,0,aO s.length (at'+80) 16)
 else
  let u:=cG s (at'+96)
  if u.2.2≠0 then(cW,0,0,u.2.2)
  else
   let c:=cV s u.2.1 ((u.1.length:Int)+2)
   if c.2.2≠0 then(cW,0,0,c.2.2)
   else
    let r:=rest (mkS u.1) (aE s (at'+80) 16) c.1 room
    if r.2≠0 then(cW,0,0,r.2)
    else
     let o:=fR r.1.data.toList (52*room)
     if o.2≠0 then(cW,0,0,o.2)
     else if(fG o.1).toNat≠aE s (at'+48) 32 then(cW,0,0,7)
     else(mkS o.1,(aE s (at'+48) 32:Int),c.2.1,0)
noncomputable def oB (t:ByteArray) (v:Nat):List Bool:=
 yV v (sqO (mkS (bC t.data.toList))).toNat (bK (bC t.data.toList)) (sqS (mkS (bC t.data.toList)))
noncomputable def cB (t:ByteArray):List Bool:=oB t (fG t.data.toList).toNat
theorem aOl (t:ByteArray) (v:Nat):(oB t v).length=48+32+16+(fZ (bK (bC t.data.toList))).length+(rV (sqS (mkS (bC t.data.toList))) ((bK (bC t.data.toList)).length+2)).length:=by
 unfold oB yV;simp only[aL,cY]
theorem YJ {p:ByteArray} (h0:0<p.size) (hO:fS p):let n:=(bK p.data.toList).length+2
  (∀x∈sqS p,0<=x/\x<(n:Int))/\0<(sqS p).length/\(sqS p)[(sqS p).length-1]? =some ((n:Int)-1)/\(∀x∈(sqS p).take ((sqS p).length-1),x<(n:Int)-1):=by
 intro n;have he:=YB h0 hO;rw[MA h0];refine⟨fun x hx=>?_,by simp,?_,fun x hx=>?_⟩
 ·rcases List.mem_append.1 hx with hx|hx
  ·have:=he x hx;omega
  ·obtain rfl:=List.mem_singleton.1 hx;omega
 ·rw[aL,fK,jZ,List.getElem?_append_right (aA _),Nat.sub_self,List.getElem?_cons_zero]
  congr 1;omega
 ·rw[aL,fK,jZ,List.take_left' rfl] at hx;have:=he x hx;omega
theorem ME {s:List UInt8} {a:Nat} {t:ByteArray} {v:Nat} {room:Int} (hv:v<2^32) (h0:0<t.size) (hO:fS (mkS (bC t.data.toList))) (hr1:1<=room) (hr:room<=360) (hp8:(bC t.data.toList).length<=8000) (h:fH s a (oB t v)):
  cL s (a:Int) room=if room<((bC t.data.toList).length:Int) then(cW,0,0,4) else if(fG t.data.toList).toNat=v then(t,(v:Int),((a+(oB t v).length:Nat):Int),0) else(cW,0,0,7):=by
 have htl:t.data.toList.length=t.size:=by simp
 have hne:t.data.toList≠[]:=fun e=>by rw[e] at htl;simp at htl;omega
 have hpl:=oS t.data.toList.length t.data.toList (aA _);have hpn:=hpl.2.1 hne;have hp0:0<(mkS (bC t.data.toList)).size:=by rw[cP];exact kV.2 hpn
 have hpsz:(mkS (bC t.data.toList)).size=(bC t.data.toList).length:=cP _;obtain⟨f1,f2,f3,f4⟩:=YJ hp0 hO;have hsl:=(LW (mkS (bC t.data.toList))).1;have hor:=MC hp0 hO;have hal:=rX (bC t.data.toList);have han:=BT hpn;have hun:=UA t.data.toList.length t.data.toList (aA _);rw[fW] at f1 f3 f4;have hob:(sqO (mkS (bC t.data.toList))).toNat<2^16:=by rw[EF hp0];omega
 have hoe:(((sqO (mkS (bC t.data.toList))).toNat:Nat):Int)=sqO (mkS (bC t.data.toList)):=by rw[EF hp0];omega
 rw[aOl];unfold oB yV at h;obtain⟨h,s5⟩:=jN h;obtain⟨h,s4⟩:=jN h;obtain⟨h,s3⟩:=jN h;obtain⟨s1,s2⟩:=jN h;simp only[aL,cY] at s2 s3 s4 s5;obtain⟨e1,v1⟩:=uX s1 (by decide);obtain⟨e2,v2⟩:=uX s2 hv;obtain⟨e3,v3⟩:=uX s3 hob;have e4:=aJn han s4;rw[PK] at e4;have e5:=aMh (by omega) (by omega) f1 (by omega) f2 f3 f4 s5;rw[show((a+48:Nat):Int)=(a:Int)+48 by omega] at e2 v2;rw[show((a+(48+32):Nat):Int)=(a:Int)+80 by omega] at e3 v3
 rw[show((a+(48+32+16):Nat):Int)=(a:Int)+96 by omega] at e4;have hsA:mkS (bK (bC t.data.toList))=sqA (mkS (bC t.data.toList)):=by rw[zO hp0,fW]
 unfold cL;rw[if_neg (by omega),if_neg (by rw[e1];simp),if_neg (by rw[v1];simp),if_neg (by rw[e2];simp),if_neg (by rw[e3];simp),e4];simp only
 rw[if_neg (by simp)];have ea:a+(48+32+16)+(fZ (bK (bC t.data.toList))).length=a+(48+32+16+(fZ (bK (bC t.data.toList))).length):=by omega
 rw[ea,show((bK (bC t.data.toList)).length:Int)+2=(((bK (bC t.data.toList)).length+2:Nat):Int) by omega,e5];simp only
 rw[if_neg (by simp),v3,hoe,hsA]
 by_cases hp:room<((bC t.data.toList).length:Int)
 ·rw[aOf hp0 hO _ (by rw[hpsz];exact hp),if_pos hp];simp only
  rw[if_pos (by decide)]
 ·rw[YE hp0 hO (most:=room) (by rw[hpsz];omega),if_neg hp];simp only
  rw[if_neg (by simp),fW];have hu:fR (bC t.data.toList) (52*room)=(t.data.toList,0):=by
   rw[LI hun,if_neg (by omega)]
  rw[hu];simp only
  rw[if_neg (by simp),v2]
  by_cases hc:(fG t.data.toList).toNat=v
  ·rw[if_neg (fun k=>k hc),if_pos hc,pL];refine gK rfl (gK rfl (gK ?_ rfl));refine congrArg (fun k:Nat=>(k:Int)) ?_;omega
  ·rw[if_pos hc,if_neg hc]
theorem EI {s:List UInt8} {a:Nat} {t:ByteArray} {room:Int} (h0:0<t.size) (hO:fS (mkS (bC t.data.toList))) (hp:((bC t.data.toList).length:Int)<=room) (hr:room<=360) (h:fH s a (cB t)):
  cL s (a:Int) room=(t,((fG t.data.toList).toNat:Int),((a+(cB t).length:Nat):Int),0):=by
 have htl:t.data.toList.length=t.size:=by simp
 have hpn:=(oS t.data.toList.length t.data.toList (aA _)).2.1 (fun e=>by rw[e] at htl;simp at htl;omega);have:=kV.2 hpn;rw[ME (fG t.data.toList).isLt h0 hO (by omega) hr (by omega) h,if_neg (by omega),if_pos rfl];rfl
theorem aOp (s t:List UInt8) (at' room:Int):(cL s at' room).2.2.2=2\/cL (s++t) at' room=cL s at' room:=by
 by_cases q0:at'<0\/room<1\/360<room
 ·right
  unfold cL;rw[if_pos q0,if_pos q0]
 ·rcases oV s t at' 48 with h|⟨h1,h2⟩
  ·left
   unfold cL;rw[if_neg q0,if_pos (by omega)];exact h
  ·by_cases q1:aO s.length at' 48≠0
   ·right
    unfold cL;rw[h1,if_neg q0,if_neg q0,if_pos q1,if_pos q1]
   ·by_cases q2:aE s at' 48≠0x314159265359
    ·right
     unfold cL;rw[h1,h2,if_neg q0,if_neg q0,if_neg q1,if_neg q1,if_pos q2,if_pos q2]
    ·rcases oV s t (at'+48) 32 with r|⟨r1,r2⟩
     ·left
      unfold cL;rw[if_neg q0,if_neg q1,if_neg q2,if_pos (by omega)];exact r
     ·by_cases q3:aO s.length (at'+48) 32≠0
      ·right
       unfold cL;rw[h1,h2,r1,if_neg q0,if_neg q0,if_neg q1,if_neg q1,if_neg q2,if_neg q2,if_pos q3,if_pos q3]
      ·rcases oV s t (at'+80) 16 with o|⟨o1,o2⟩
       ·left
        unfold cL;rw[if_neg q0,if_neg q1,if_neg q2,if_neg q3,if_pos (by omega)];exact o
       ·by_cases q4:aO s.length (at'+80) 16≠0
        ·right
         unfold cL;rw[h1,h2,r1,o1,if_neg q0,if_neg q0,if_neg q1,if_neg q1,if_neg q2,if_neg q2,if_neg q3,if_neg q3,if_pos q4,if_pos q4]
        ·rcases aJu s t (at'+96) with u|u
         ·left
          unfold cL;rw[if_neg q0,if_neg q1,if_neg q2,if_neg q3,if_neg q4];simp only
          rw[if_pos (by omega)];exact u
         ·by_cases q5:(cG s (at'+96)).2.2≠0
          ·right
           unfold cL;rw[h1,h2,r1,o1,if_neg q0,if_neg q0,if_neg q1,if_neg q1,if_neg q2,if_neg q2,if_neg q3,if_neg q3,if_neg q4,if_neg q4];simp only
           rw[u,if_pos q5,if_pos q5]
          ·rcases aJ4 s t (cG s (at'+96)).2.1 (((cG s (at'+96)).1.length:Int)+2) with c|c
           ·left
            unfold cL;rw[if_neg q0,if_neg q1,if_neg q2,if_neg q3,if_neg q4];simp only
            rw[if_neg q5,if_pos (by omega)];exact c
           ·right
            unfold cL;rw[h1,h2,r1,r2,o1,o2,if_neg q0,if_neg q0,if_neg q1,if_neg q1,if_neg q2,if_neg q2,if_neg q3,if_neg q3,if_neg q4,if_neg q4];simp only
            rw[u,if_neg q5,if_neg q5,c]
theorem YK {s:List UInt8} {at' room:Int} (h:(cL s at' room).2.2.2=0):0<=at'/\1<=room/\room<=360/\1<=(cL s at' room).1.size/\((cL s at' room).1.size:Int)<=52*room/\(cL s at' room).2.1=((fG (cL s at' room).1.data.toList).toNat:Int)/\at'+96<(cL s at' room).2.2.1/\(cL s at' room).2.2.1<=8*(s.length:Int)/\
  aE s at' 48=0x314159265359:=by
 unfold cL at h ⊢
 by_cases q0:at'<0\/room<1\/360<room
 ·rw[if_pos q0] at h;simp at h
 rw[if_neg q0] at h ⊢
 by_cases q1:aO s.length at' 48≠0
 ·rw[if_pos q1] at h;exact absurd h q1
 rw[if_neg q1] at h ⊢
 by_cases q2:aE s at' 48≠0x314159265359
 ·rw[if_pos q2] at h;simp at h
 rw[if_neg q2] at h ⊢
 by_cases q3:aO s.length (at'+48) 32≠0
 ·rw[if_pos q3] at h;exact absurd h q3
 rw[if_neg q3] at h ⊢
 by_cases q4:aO s.length (at'+80) 16≠0
 ·rw[if_pos q4] at h;exact absurd h q4
 rw[if_neg q4] at h ⊢;simp only at h ⊢;have hu:(cG s (at'+96)).2.2=0->at'+96<(cG s (at'+96)).2.1:=by
  intro e;have hb:=yE s (at'+96) 16;unfold cG at e ⊢;simp only at e ⊢
  by_cases k1:(cJ s (at'+96) 16).2.2.2≠0
  ·rw[if_pos k1] at e;exact absurd e k1
  ·rw[if_neg k1] at e ⊢
   by_cases k2:(cJ s (at'+96) 16).2.2.1=true
   ·rw[if_pos k2] at e;simp at e
   ·rw[if_neg k2];have:=(hb.2 (dK.1 k1)).1;show at'+96<(cJ s (at'+96) 16).2.1;omega
 by_cases q5:(cG s (at'+96)).2.2≠0
 ·rw[if_pos q5] at h;exact absurd h q5
 rw[if_neg q5] at h ⊢;have hu:=hu (dK.1 q5);generalize cG s (at'+96)=u at*
 by_cases q6:(cV s u.2.1 ((u.1.length:Int)+2)).2.2≠0
 ·rw[if_pos q6] at h;exact absurd h q6
 rw[if_neg q6] at h ⊢;have hc:=LG (dK.1 q6);generalize cV s u.2.1 ((u.1.length:Int)+2)=c at*
 have hk:=aOo (mkS u.1) (aE s (at'+80) 16) c.1 room
 by_cases q7:(rest (mkS u.1) (aE s (at'+80) 16) c.1 room).2≠0
 ·rw[if_pos q7] at h;exact absurd h q7
 rw[if_neg q7] at h ⊢;rcases hk with⟨e,hk,he⟩|⟨p,hk,hkp⟩
 ·rw[hk] at q7;exact absurd he q7
 rw[hk] at h ⊢;simp only at h ⊢;have hpne:p.data.toList≠[]:=fun e=>by
  have h1:p.data.toList.length=p.size:=by simp
  have h2:=hkp.pos;rw[e] at h1;simp at h1;omega
 by_cases q8:(fR p.data.toList (52*room)).2≠0
 ·rw[if_pos q8] at h;exact absurd h q8
 rw[if_neg q8] at h ⊢;have hun:=aKb hpne (dK.1 q8);generalize fR p.data.toList (52*room)=o at*
 by_cases q9:(fG o.1).toNat≠aE s (at'+48) 32
 ·rw[if_pos q9] at h;simp at h
 rw[if_neg q9];have q9:=dK.1 q9;have hpos:=kV.2 hun.1;refine⟨by omega,by omega,by omega,by rw[cP];omega,by rw[cP];exact hun.2,by rw[fW,q9],by show at'+96<c.2.1;omega,hc.2.2.2.2.2.2,dK.1 q2⟩
end
section
open Go.RowKit Go Go.Shelf
def wT (a:Int) (D:ByteArray×Int×Int×Int):Value:=.agg #[.string D.1,.int .u32 D.2.1,.int .i64 (if D.2.2.2=0 then a else 0),.int .i64 D.2.2.1]
theorem YM (a:Int) (x:ByteArray) (y z E:Int) (h:E≠0):wT a (x,y,z,E)=.agg #[.string x,.int .u32 y,.int .i64 0,.int .i64 z]:=by unfold wT;rw[if_neg h]
theorem MG (a:Int) (x:ByteArray) (y z:Int):wT a (x,y,z,0)=.agg #[.string x,.int .u32 y,.int .i64 a,.int .i64 z]:=by unfold wT;rw[if_pos rfl]
theorem YN:(Tryz.prog.info? 36).map (·.size)=some 4:=by kernel_rfl
theorem oZ {w W:World} {z:Nat} {x0 x1 x2 x3:Value} (hA:Arr W z 36 [x0,x1,x2,x3]) (hb:Below z w W) (y0 y1 y2 y3:Value):
  Arr ((((W.setCell ⟨z,0,none⟩ y0).setCell ⟨z,1,none⟩ y1).setCell ⟨z,2,none⟩ y2).setCell ⟨z,3,none⟩ y3) z 36 [y0,y1,y2,y3]/\
  Below z w ((((W.setCell ⟨z,0,none⟩ y0).setCell ⟨z,1,none⟩ y1).setCell ⟨z,2,none⟩ y2).setCell ⟨z,3,none⟩ y3):=
 ⟨(((hA.set 0 _).set 1 _).set 2 _).set 3 _,(((hb.setCell (p:=⟨z,0,none⟩) (aA _) _).setCell (p:=⟨z,1,none⟩) (aA _) _).setCell (p:=⟨z,2,none⟩) (aA _) _).setCell (p:=⟨z,3,none⟩) (aA _) _⟩
theorem wU (s:List UInt8) (a room:Int):cL s a room=
  if a<0\/room<1\/360<room then(cW,0,0,1)
  else if aO s.length a 48≠0 then(cW,0,0,aO s.length a 48)
  else if aE s a 48≠0x314159265359 then(cW,0,0,3)
  else if aO s.length (a+48) 32≠0 then(cW,0,0,aO s.length (a+48) 32)
  else if aO s.length (a+80) 16≠0 then(cW,0,0,aO s.length (a+80) 16)
  else if(cG s (a+96)).2.2≠0 then(cW,0,0,(cG s (a+96)).2.2)
  else if(cV s (cG s (a+96)).2.1 (((cG s (a+96)).1.length:Int)+2)).2.2≠0 then(cW,0,0,(cV s (cG s (a+96)).2.1 (((cG s (a+96)).1.length:Int)+2)).2.2)
  else if(rest (mkS (cG s (a+96)).1) (aE s (a+80) 16) (cV s (cG s (a+96)).2.1 (((cG s (a+96)).1.length:Int)+2)).1 room).2≠0 then(cW,0,0,(rest (mkS (cG s (a+96)).1) (aE s (a+80) 16) (cV s (cG s (a+96)).2.1 (((cG s (a+96)).1.length:Int)+2)).1 room).2)
  else if(fR (rest (mkS (cG s (a+96)).1) (aE s (a+80) 16) (cV s (cG s (a+96)).2.1 (((cG s (a+96)).1.length:Int)+2)).1 room).1.data.toList (52*room)).2≠0 then(cW,0,0,(fR (rest (mkS (cG s (a+96)).1) (aE s (a+80) 16) (cV s (cG s (a+96)).2.1 (((cG s (a+96)).1.length:Int)+2)).1 room).1.data.toList (52*room)).2)
  else if(fG (fR (rest (mkS (cG s (a+96)).1) (aE s (a+80) 16) (cV s (cG s (a+96)).2.1 (((cG s (a+96)).1.length:Int)+2)).1 room).1.data.toList (52*room)).1).toNat≠aE s (a+48) 32 then(cW,0,0,7)
  else(mkS (fR (rest (mkS (cG s (a+96)).1) (aE s (a+80) 16) (cV s (cG s (a+96)).2.1 (((cG s (a+96)).1.length:Int)+2)).1 room).1.data.toList (52*room)).1,(aE s (a+48) 32:Int),(cV s (cG s (a+96)).2.1 (((cG s (a+96)).1.length:Int)+2)).2.1,0):=rfl
theorem YO (a:ByteArray) (o:Int) (l:List Int) (most:Int) (h:(rest a o l most).2=0):((rest a o l most).1.size:Int)<=most:=by
 unfold rest at h ⊢;split at h
 ·simp at h
 ·next q1=>
  rw[if_neg q1];split at h
  ·simp at h
  ·next q2=>
   rw[if_neg q2];split at h
   ·simp at h
   ·next q3=>
    rw[if_neg q3];split at h
    ·simp at h
    ·next q4=>
     rw[if_neg q4];simp only
     rw[cP,CN,oO];omega
theorem YP {s:List UInt8} {a:Int} (h:(cG s a).2.2=0):(cG s a).1.length<=256/\a+16<=(cG s a).2.1/\(cG s a).2.1<=a+272:=by
 have hb:=yE s a 16;unfold cG at h ⊢;simp only at h ⊢
 by_cases k1:(cJ s a 16).2.2.2≠0
 ·rw[if_pos k1] at h;exact absurd h k1
 ·rw[if_neg k1] at h ⊢
  by_cases k2:(cJ s a 16).2.2.1=true
  ·rw[if_pos k2] at h;simp at h
  ·rw[if_neg k2];have:=hb.2 (dK.1 k1);exact⟨by have:=hb.1;omega,this.1,by have:=this.2;show(cJ s a 16).2.1<=_;omega⟩
structure BIn (t:ByteArray) (P a:List UInt8) (m:List Int) (o n:Nat):Prop where
 hP:P=bC t.data.toList
 ha:a=bK P
 hm:m=sqS (mkS P)
 ho:(o:Int)=sqO (mkS P)
 hn:n=a.length+2
 hA:sqA (mkS P)=mkS a
 hE:sqE (mkS P)=0
 o16:o<65536
 an:a≠[]
 a256:a.length<=256
 n2:3<=n
 n258:n<=258
 m0:0<m.length
 m361:m.length<=9000
 rng:∀x∈m,0<=x/\x<(n:Int)
 c0:bL (dN m n 0)=0
 c1:bL (dN m n 1)=0
 l0:(dN m n 0).length=n
 l1:(dN m n 1).length=n
theorem BIn.of {t:ByteArray} (h0:0<t.size) (hp:(bC t.data.toList).length<=8000) (hO:fS (mkS (bC t.data.toList))):∃P a m o n,BIn t P a m o n:=by
 have htl:t.data.toList.length=t.size:=by simp
 have hne:t.data.toList≠[]:=fun e=>by rw[e] at htl;simp at htl;omega
 have hpl:=oS t.data.toList.length t.data.toList (aA _);have hpn:=hpl.2.1 hne;have hp0:0<(mkS (bC t.data.toList)).size:=by rw[cP];exact kV.2 hpn
 have hpsz:(mkS (bC t.data.toList)).size=(bC t.data.toList).length:=cP _;obtain⟨f1,f2,f3,f4⟩:=YJ hp0 hO;have hsl:=(LW (mkS (bC t.data.toList))).1;have hor:=MC hp0 hO;have hal:=rX (bC t.data.toList);have han:=BT hpn;have hoe:=EF hp0;have hsA:=zO hp0;rw[fW] at f1 hsA;have hal1:=kV.2 han;refine⟨_,_,_,fD (oOf (mkS (bC t.data.toList))) (mkS (bC t.data.toList)).size,_,rfl,rfl,rfl,hoe.symm,rfl,hsA,XZ hp0,by omega,han,hal,by omega,by omega,f2,by omega,f1,?_,?_,?_,?_⟩
 ·exact tB (by omega) (by omega) f1 (by omega)
 ·exact tB (by omega) (by omega) f1 (by omega)
 ·exact(rQ (by omega) (by omega) f1 (by omega)).2
 ·exact(rQ (by omega) (by omega) f1 (by omega)).2
theorem BIn.blk {t:ByteArray} {P a:List UInt8} {m:List Int} {o n:Nat} (h:BIn t P a m o n):cB t=aY 0x314159265359 48++aY (fG t.data.toList).toNat 32++aY o 16++fZ a++(aY 2 3++aY (cT m n).length 15++dE (dO (cT m n))++dW (dN m n 0)++dW (dN m n 1)++gP (dN m n 0) (dN m n 1) (cT m n) (cK m)):=by
 have e:(sqO (mkS (bC t.data.toList))).toNat=o:=by have:=h.ho;rw[h.hP] at this;omega
 unfold cB oB yV rV;rw[e,<-h.hP,<-h.ha,<-h.hm,<-h.hn]
theorem wW {l:List Int} (h:fY l):(dW l).length<=5+39*258:=by
 have h1:=h.1;have h2:=h.2.1;have h0:=h.2.2 (l.getD 0 0) (by rw[List.getD_eq_getElem?_getD,aN (show 0<l.length by omega)];exact List.getElem_mem _);have:=CZ l (l.getD 0 0) h0.1 h0.2 h.2.2;unfold dW;rw[aL,cY];have:39*l.length<=39*258:=Nat.mul_le_mul_left _ h2;omega
theorem YQ {l:List Int} (h:0<l.length):0<(dE l).length:=by
 cases l with
 |nil=>simp at h
 |cons x l=>
  unfold dE lF;rw[List.flatMap_cons,aL,aL];simp;omega
def eZ (t:ByteArray) (room:Int):Int:=if t.size=0\/room<1\/360<room then 1 else if room<((bC t.data.toList).length:Int) then 4 else 0
noncomputable def mP (t:ByteArray) (room:Int):List Bool:=if eZ t room=0 then cB t else[]
def zQ (w w':World) (t:ByteArray) (room:Int) (e:Ending):Prop:=e=.returned (.tuple #[eL (mP t room),.int .i64 (eZ t room)])/\Below w.heap.size w w'/\(eZ t room=0->fS (mkS (bC t.data.toList)))
theorem YR:eL []=.agg #[.string ⟨#[]⟩,.int .i64 0]:=rfl
theorem vB {w w':World} {t:ByteArray} {room E:Int} (h:eZ t room=E) (hE:E≠0) (hb:Below w.heap.size w w'):zQ w w' t room (.returned (.tuple #[.agg #[.string ⟨#[]⟩,.int .i64 0],.int .i64 E])):=by
 refine⟨?_,hb,fun k=>absurd (h.symm.trans k) hE⟩;unfold mP;rw[if_neg (by rw[h];exact hE),YR,h]
theorem rdQ {P1 P2 P3:Prop} {B:Nat} {w0 w':World} {v:Value} {m:List Int} (e:RdI w0 v m) (hB:w0.heap.size=B) (h:P1/\P2/\P3/\Below B w0 w'/\B<=w'.heap.size):RdI w' v m:=e.below (hB▸h.2.2.2.1)
theorem MH {t0 t1 cs:List Int} {gs:List (List Int)} {k:Nat} {c:Int} {g:List Int} (hc:cs[k]? =some c) (hg:gs[k]? =some g):gP t0 t1 (cs.take (k+1)) (gs.take (k+1))=gP t0 t1 (cs.take k) (gs.take k)++eR (if c=0 then t0 else t1) g:=by
 have h1:=(eU.1 hc).1;have h2:=(eU.1 hg).1;rw[cQ,cQ,hc,hg];exact KL _ _ _ _ _ _ (by rw[aX,aX];omega)
theorem bpE {fn:Func} {Q:Ending->World->Prop} {W:World} {a:Act} {z:Nat} {y0 y1 u:Value} (hr:fn.results=#[.cell 4 77,.tmp 5]) (hA:Arr W z 77 [y0,y1]) (h6:a.tmps.getD 4 undef=.pointer (some ⟨z,0,none⟩)) (h7:a.tmps.getD 5 undef=u) (hd:a.defers=[])
  (h:Q (.returned (.tuple #[.agg #[y0,y1],u])) W):bodyPost Tryz.prog fn Q .ret a W:=by
 refine bodyPost_ret (qH hr _ _ z _ _ (0,0) _ h6 hA Tryz.underlying77 rfl mF) hd ?_;rw[h7];exact h
theorem EJ {B:Nat} {w:World} {o o':Obj} (h:B<=w.heap.size):Below B (w.alloc o) (w.alloc o'):=
 ⟨rfl,rfl,rfl,by simp,fun k hk=>by rw[oF w o' k (by omega),oF w o k (by omega)]⟩
theorem EL {w W:World} {z:Nat} {x0 x1:Value} (hA:Arr W z 77 [x0,x1]) (hb:Below z w W) (y0 y1:Value):
  Arr ((W.setCell ⟨z,0,none⟩ y0).setCell ⟨z,1,none⟩ y1) z 77 [y0,y1]/\Below z w ((W.setCell ⟨z,0,none⟩ y0).setCell ⟨z,1,none⟩ y1):=
 ⟨(hA.set 0 _).set 1 _,(hb.setCell (p:=⟨z,0,none⟩) (aA _) _).setCell (p:=⟨z,1,none⟩) (aA _) _⟩
def EV (w w':World) (s:List UInt8) (a room:Int) (e:Ending):Prop:=
 e=.returned (.tuple #[wT a (cL s a room),.int .i64 (cL s a room).2.2.2])/\Below w.heap.size w w'
theorem mQ {w w':World} {s:List UInt8} {a room E:Int} (h:cL s a room=(cW,0,0,E)) (hE:E≠0) (hb:Below w.heap.size w w'):EV w w' s a room (.returned (.tuple #[.agg #[.string cW,.int .u32 0,.int .i64 0,.int .i64 0],.int .i64 E])):=
 ⟨by rw[h,YM a _ _ _ _ hE],hb⟩
theorem aAl {p:List UInt8} {most:Int} (h:(fR p most).2=0):((fR p most).1.length:Int)<=most:=by
 unfold fR at h ⊢
 cases hu:dT p with
 |none=>rw[hu] at h;simp at h
 |some o=>
  rw[hu] at h;simp only at h ⊢;split at h
  ·simp at h
  ·next q=>rw[if_neg q];show(o.length:Int)<=most;omega
theorem aQw (b:Nat) (s:ByteArray) (a k:Nat) (tb ch co:Value) (W:World) (hA:BRd W b s a tb ch co) (hs:s.size<=1000000) (hk:k<=48) (ha:a<=9223372036854775807) (hne:aO s.size (a:Int) k≠0):
  Calls Tryz.prog 170 #[.pointer (some ⟨b,0,none⟩),.int .i64 (k:Int)] W fun e w'=>e=.panicked (oC (aO s.size (a:Int) k))/\W.grownBy w' (some b):=by
 have hget:=fun W=>sT s (a:Int) k W hs (by omega) (by omega) (by omega)
 obtain⟨E,hE⟩:∃E,E=aO s.size (a:Int) k:=⟨_,rfl⟩;obtain⟨V,hV⟩:∃V,V=aE s.data.toList (a:Int) k:=⟨_,rfl⟩;rw[<-hE] at hne ⊢;rw[<-hE,<-hV] at hget;clear hE hV;have c0:=Arr.cell hA (i:=0) rfl;have c1:=Arr.cell hA (i:=1) rfl;have hor:=fun W=>vC E W
 go_enter Tryz.func170,Tryz.ntmps170;go_wp2_with fail
 go_quiet (first|(go_at_call 25;exact Calls.quiet_of_same (hget _)))
 have hg1:W.grownBy (W.drewN nq) (some b):=⟨rfl,rfl,rfl,aA _,fun _ _ _=>rfl⟩;generalize W.drewN nq=W1 at*
 go_wp2_with fail;refine(hor _).mono ?_;rintro e w2 (⟨h0,rfl,rfl⟩|⟨h0,rfl,rfl⟩)
 ·exact absurd h0 hne
 ·go_wp2_with fail;exact⟨rfl,rfl,hg1⟩
def aAq (w w':World) (b:Nat) (s:ByteArray) (a:Nat) (room:Int) (e:Ending):Prop:=
 (∃E,E≠0/\cL s.data.toList (a:Int) room=(cW,0,0,E)/\e=.panicked (oC E)/\w.grownBy w' (some b))\/
 (∃(O:List UInt8) (V p:Nat) (vt vc co:Value),e=.returned (.tuple #[.string (mkS O),.int .u32 (V:Int)])/\BRd w' b s p vt vc co/\w.grownBy w' (some b)/\
  cL s.data.toList (a:Int) room=(if(fG O).toNat≠V then(cW,0,0,7) else(mkS O,(V:Int),(p:Int),0))/\O.length<=100000/\V<4294967296)
theorem sB {w w':World} {b:Nat} {s:ByteArray} {a:Nat} {room E:Int} (h:cL s.data.toList (a:Int) room=(cW,0,0,E)) (hE:E≠0) (hg:w.grownBy w' (some b)):aAq w w' b s a room (.panicked (oC E)):=.inl ⟨E,hE,h,rfl,hg⟩
theorem aQx (b:Nat) (s:ByteArray) (a R:Nat) (w:World) (hA:BRd w b s a (.slice none 0 0) (.slice none 0 0) (.int .i64 0)) (hs:s.size<=120000) (ha:a<=9223372036854775807) (hr1:1<=R) (hr2:R<=360) (hEV:∀W,w.grownBy W (some b)->iF W):
  Calls Tryz.prog 158 #[.pointer (some ⟨b,0,none⟩),.int .i64 (R:Int)] w fun e w'=>aAq w w' b s a (R:Int) e:=by
 have HL:=hid (show s.data.toList.length=s.size by simp);have hbw:b<w.heap.size:=Arr.lt hA;have hd:=wU s.data.toList (a:Int) (R:Int);rw[HL.out,if_neg (by omega)] at hd
 by_cases h1:aO s.size (a:Int) 48=0
 rotate_left
 ·rw[if_pos h1] at hd;have HF:=hid hd;clear hd;go_enter Tryz.func158,Tryz.ntmps158;go_wp2_with fail;refine(aQw b s a 48 _ _ _ w hA (by omega) (by decide) ha h1).mono ?_;rintro e w1 ⟨rfl,hg1⟩;go_wp2_with fail;exact⟨rfl,sB HF.out h1 hg1⟩
 rw[if_neg (fun k=>k h1)] at hd;have hok1:=fQ h1;have hab:a<=960000:=by omega
 have hn1:=zT b s a 48 (.slice none 0 0) (.slice none 0 0) (.int .i64 0) w hA (by omega) (by decide) (by omega);have hn2:=fun W h=>zT b s (a+48) 32 (.slice none 0 0) (.slice none 0 0) (.int .i64 0) W h (by omega) (by decide) (by omega)
 have hn3:=fun W h=>zT b s (a+48+32) 16 (.slice none 0 0) (.slice none 0 0) (.int .i64 0) W h (by omega) (by decide) (by omega)
 rw[show(((a+48:Nat):Int))=(a:Int)+48 by push_cast;rfl] at hn2;rw[show(((a+48+32:Nat):Int))=(a:Int)+80 by push_cast;omega] at hn3;have hv1:=iA s.data.toList (a:Int) 48;have hv2:=iA s.data.toList ((a:Int)+48) 32;have hv3:=iA s.data.toList ((a:Int)+80) 16;rw[h1] at hn1;obtain⟨V1,hV1⟩:∃V1,V1=aE s.data.toList (a:Int) 48:=⟨_,rfl⟩;obtain⟨E2,hE2⟩:∃E2,E2=aO s.size ((a:Int)+48) 32:=⟨_,rfl⟩;obtain⟨V2,hV2⟩:∃V2,V2=aE s.data.toList ((a:Int)+48) 32:=⟨_,rfl⟩;obtain⟨E3,hE3⟩:∃E3,E3=aO s.size ((a:Int)+80) 16:=⟨_,rfl⟩;obtain⟨V3,hV3⟩:∃V3,V3=aE s.data.toList ((a:Int)+80) 16:=⟨_,rfl⟩
 rw[<-hV1] at hn1 hv1 hd;rw[<-hE2,<-hV2] at hn2;rw[<-hE2] at hd;rw[<-hV2] at hv2 hd;rw[<-hE3,<-hV3] at hn3;rw[<-hE3] at hd;rw[<-hV3] at hv3 hd;have hv1:V1<281474976710656:=hv1;have hv2:V2<4294967296:=hv2;have hv3:V3<65536:=hv3;clear hE2 hE3 hV1 hV2 hV3;go_enter Tryz.func158,Tryz.ntmps158;go_wp2_with fail;refine hn1.mono ?_;rintro e w1 (⟨h1',rfl,hA1,hg1⟩|⟨h1',rfl,hg1⟩)
 rotate_left
 ·exact absurd rfl h1'
 clear h1' h1 hn1 hok1 hA
 by_cases h2:V1=54156738319193
 rotate_left
 ·have v1:((V1:Int)==54156738319193)=false:=by rw[beq_eq_false_iff_ne];omega
  have v2:(V1==54156738319193)=false:=by rw[beq_eq_false_iff_ne];exact h2
  rw[if_pos h2] at hd;have HF:=hid hd;clear hd;go_wp2_with fail;refine(pU false 3 _ (by decide)).mono ?_;rintro e w2 (⟨h0,rfl,rfl⟩|⟨h0,rfl,rfl⟩)
  ·exact absurd h0 (by decide)
  go_wp2_with fail;exact⟨rfl,sB HF.out (by decide) hg1⟩
 rw[if_neg (fun k=>k h2)] at hd;have v1:((V1:Int)==54156738319193)=true:=by rw[beq_iff_eq];omega
 have v2:(V1==54156738319193)=true:=by rw[beq_iff_eq];exact h2
 clear h2;go_wp2_with fail;refine(pU true 3 _ (by decide)).mono ?_;rintro e w2 (⟨h0,rfl,rfl⟩|⟨h0,rfl,rfl⟩)
 rotate_left
 ·exact absurd h0 (by decide)
 clear v1 v2;go_wp2_with fail;refine(hn2 _ hA1).mono ?_;rintro e w2 (⟨h3,rfl,hA2,hg2⟩|⟨h3,rfl,hg2⟩)
 rotate_left
 ·rw[if_pos h3] at hd;have HF:=hid hd;clear hd;go_wp2_with fail;exact⟨rfl,sB HF.out h3 (gbT hg1 hg2)⟩
 rw[if_neg (fun k=>k h3)] at hd;have hg2:=gbT hg1 hg2;clear hn2 hA1 hg1 h3;have m9:IntKind.u32.wrap (V2:Int)=(V2:Int):=by rw[IntKind.wrap_u32];omega
 have m10:(V2:Int)%4294967296=(V2:Int):=by omega
 go_wp2_with fail;refine(hn3 _ hA2).mono ?_;rintro e w3 (⟨h4,rfl,hA3,hg3⟩|⟨h4,rfl,hg3⟩)
 rotate_left
 ·rw[if_pos h4] at hd;have HF:=hid hd;clear hd;go_wp2_with fail;exact⟨rfl,sB HF.out h4 (gbT hg2 hg3)⟩
 rw[if_neg (fun k=>k h4)] at hd;have hg3:=gbT hg2 hg3;obtain⟨A,hAe⟩:∃A,A=a+48+32+16:=⟨_,rfl⟩;rw[<-hAe] at hA3;rw[show(a:Int)+96=(A:Int) by omega] at hd;have hAb:A<=960096:=by omega
 have huo:=YP (s:=s.data.toList) (a:=(A:Int));have hum:=fun W=>aQp s (A:Int) W (by omega) (by omega) (by omega)
 obtain⟨U1,U2,U3,hU⟩:∃U1 U2 U3,cG s.data.toList (A:Int)=(U1,U2,U3):=⟨_,_,_,rfl⟩;rw[hU] at hum huo hd;simp only at hum huo hd;have HD:=hid hd;have HUO:=hid huo;have hX0:=Arr.new w3 118 [.string ⟨#[]⟩,.int .i64 (V3:Int),.slice none 0 0];change Arr (w3.alloc (.cells #[.string ⟨#[]⟩,.int .i64 (V3:Int),.slice none 0 0] 118)) _ _ _ at hX0;have hAx:=Arr.alloc hA3 (.cells #[.string ⟨#[]⟩,.int .i64 (V3:Int),.slice none 0 0] 118);have hgx:=gbT hg3 (gbB (g:=some b) (bD (aB _ w3) (.cells #[.string ⟨#[]⟩,.int .i64 (V3:Int),.slice none 0 0] 118)));have d0:=Arr.cell hAx (i:=0) rfl
 have d1:=Arr.cell hAx (i:=1) rfl;have d4:=Arr.cell hAx (i:=4) rfl;clear hn3 hA2 hg2 h4 hAe hU hd huo hA3 m9 m10;go_upto_region 4 with fail;obtain⟨z,hz⟩:∃z,z=w3.heap.size:=⟨_,rfl⟩;have hbz:b<z:=by have:=hg3.size;omega
 have hwz:w.heap.size<=z:=by have:=hg3.size;omega
 rw[<-hz] at hX0 ⊢;generalize w3.alloc (.cells #[.string ⟨#[]⟩,.int .i64 (V3:Int),.slice none 0 0] 118)=w4 at*
 clear hz hg3
 go_cut [8,9,10] (fun c8 c9 c10 wx=>c8=.string (mkS U1)/\c9=.int .i64 U2/\c10=.int .i64 U3/\Below w4.heap.size w4 wx)
 case first=>
  obtain⟨B3,hB3⟩:∃B3,B3=w4.heap.size:=⟨_,rfl⟩;have HB3:=hid hB3;have hS0:=kZ (B:=B3) (w0:=w4) ⟨d0,d1,d4,aB _ _,by omega⟩ (aB w4.heap.size w4).drew;clear hB3 d0 d1 d4
  go_region_held3 (fun w'=>w'.cell? ⟨b,0,none⟩=some (.string s)/\w'.cell? ⟨b,1,none⟩=some (.int .i64 (A:Int))/\w'.cell? ⟨b,4,none⟩=some (.int .i64 0)/\Below B3 w4 w'/\B3<=w'.heap.size)
   (first
    |with_reducible assumption
    |with_reducible exact kZ (by assumption) (by assumption))
   (first
    |(go_at_call 171;refine(hum _).mono ?_;rintro e w5 ⟨rfl,hb5⟩))
  have hS5:=(show w5.cell? ⟨b,0,none⟩=some (.string s)/\w5.cell? ⟨b,1,none⟩=some (.int .i64 (A:Int))/\w5.cell? ⟨b,4,none⟩=some (.int .i64 0)/\Below B3 w4 w5/\B3<=w5.heap.size by assumption);go_wp2_with fail;go_meet;exact⟨rfl,rfl,rfl,by rw[<-HB3.out];exact hS5.2.2.2.1⟩
 case rest=>
  obtain⟨rfl,rfl,rfl,hb5⟩:=hcut;have hA5:=Arr.below hAx hb5 (Arr.lt hAx);have hX5:=hX0.below hb5 (Arr.lt hX0);have hg5:=gbT hgx (gbB hb5);clear hum d0 d1 d4 hAx hX0 hgx hb5;go_wp2_with fail;refine(ES b s A U2 U3 _ _ _ wc hA5).mono ?_;rintro e w6 (⟨rfl,rfl,hA6,hg6⟩|⟨h0,rfl,rfl⟩)
  rotate_left
  ·have hd:=HD.out;rw[if_pos h0] at hd;have HF:=hid hd;clear hd;go_wp2_with fail;exact⟨rfl,sB HF.out h0 hg5⟩
  have hd:=HD.out;rw[if_neg (fun k=>k rfl)] at hd;obtain⟨k1,k2,k3⟩:=HUO.out rfl;obtain⟨p,rfl⟩:∃p:Nat,U2=(p:Int):=⟨U2.toNat,by omega⟩;have hpb:p<=960368:=by omega
  obtain⟨C,hC⟩:∃C,C=U1.length+2:=⟨_,rfl⟩;have hCb:2<=C/\C<=258:=by omega
  rw[show(U1.length:Int)+2=(C:Int) by omega] at hd;have hX6:=hX5.grown hg6 (by simp only[ne_eq,iP];omega);have hg6:=gbT hg5 hg6;have hUs:(mkS U1).size<=256:=by rw[cP];exact k1
  have hco:=WV (mkS U1) (V3:Int) (.slice none 0 0) rfl (w6.setCell ⟨z,0,none⟩ (.string (mkS U1))) (by omega);rw[show((mkS U1).size:Int)+2=(C:Int) by rw[cP];omega] at hco;have hX7:=hX6.set 0 (.string (mkS U1));have hA7:BRd (w6.setCell ⟨z,0,none⟩ (.string (mkS U1))) b s p (.slice none 0 0) (.slice none 0 0) (.int .i64 0):=Arr.other hA6 ⟨z,0,none⟩ (by simp only[ne_eq];omega) _;have hg7:w.grownBy (w6.setCell ⟨z,0,none⟩ (.string (mkS U1))) (some b):=⟨hg6.os,hg6.tape,hg6.output,by have:=hg6.size;simpa using this,fun k hk hne=>by
   rw[kT w6 ⟨z,0,none⟩ k _ (by simp only[ne_eq];omega)];exact hg6.block k hk hne⟩
  have d0:=hX6.cell (i:=0) rfl;have f0:=hX6.free 0;have e0:=hX7.cell (i:=0) rfl;have e1:=hX7.cell (i:=1) rfl;have e2:=hX7.cell (i:=2) rfl;have HD:=hid hd;clear hd hC hA5 hX5 hg5 hA6 k2 k3 HUO;go_wp2_with fail;refine hco.mono ?_;rintro e w8 ⟨rfl,hb8⟩;have hA8:=Arr.below hA7 hb8 (Arr.lt hA7);have hX8:=hX7.below hb8 (Arr.lt hX7);have hg8:=gbT hg7 (gbB hb8);have d4:=Arr.cell hA8 (i:=4) rfl;have f4:=Arr.free hA8 4;have hA9:BRd (w8.setCell ⟨b,4,none⟩ (.int .i64 (C:Int))) b s p (.slice none 0 0) (.slice none 0 0) (.int .i64 (C:Int)):=Arr.set hA8 4 _
  have hX9:=hX8.other ⟨b,4,none⟩ (by simp only[ne_eq];omega) (.int .i64 (C:Int));have hg9:=gbT hg8 (gbS w8 b 4 (.int .i64 (C:Int)));clear hco d0 f0 e0 e1 e2 hX6 hX7 hA7 hg6 hg7 hb8;go_wp2_with fail;clear d4 f4;generalize w8.setCell ⟨b,4,none⟩ (.int .i64 (C:Int))=w9 at*
  clear hX8 hA8 hg8;refine(aQo b s p C w9 hA9 (by omega) (by omega) hCb.1 hCb.2).mono ?_;rintro e w10 (⟨h0,hce,rfl,hg10⟩|⟨rfl,p2,vt,vc,T,ch,hce,hA10,hg10,hrt,hrc,hT1,hT2,hT3,hT4,hT5,hT6⟩)
  ·have hd:=HD.out;rw[if_pos h0] at hd;have HF:=hid hd;obtain⟨E,hE⟩:∃E,E=(cV s.data.toList (p:Int) (C:Int)).2.2:=⟨_,rfl⟩;rw[<-hE] at h0 HF ⊢;clear hd hE hce HD;go_wp2_with fail;exact⟨rfl,sB HF.out h0 (gbT hg9 hg10)⟩
  have hd:=HD.out;have hcok:=LG (s:=s.data.toList) (at':=(p:Int)) (codes:=(C:Int));have hsy:=aQm b s p2 C vt vc T ch w10 hA10 (by omega) hT6 hrt hrc hT1 hT2 hT3 hT4 hT5 hCb.1 hCb.2;unfold EU at hsy;rw[hce] at hd hcok;obtain⟨L,P,K,hL⟩:∃L P K,gX s.data.toList (p2:Int) T ch ((C:Int)-1)=(L,P,K):=⟨_,_,_,rfl⟩;rw[hL] at hsy hcok hd;simp only at hsy hcok hd;rw[HL.out] at hcok;have hX10:=hX9.grown hg10 (by simp only[ne_eq,iP];omega);have hg10:=gbT hg9 hg10;have hzl:=Arr.lt hX10;have HD:=hid hd;have HCK:=hid hcok
  clear hL hce hd hcok hrt hrc hT1 hT2 hT3 hT4 hT5 hX9 hg9 hA9 hA10;go_wp2_with fail;refine hsy.mono ?_;rintro e w11 (⟨h0,⟨v,rfl,ho⟩,⟨p3,rfl,hA11⟩,hg11⟩|⟨h0,rfl,hg11⟩)
  rotate_left
  ·have hd:=HD.out;rw[if_pos h0] at hd;have HF:=hid hd;clear hd hsy;go_wp2_with fail;exact⟨rfl,sB HF.out h0 (gbT hg10 hg11)⟩
  subst h0;have hd:=HD.out;rw[if_neg (fun k=>k rfl)] at hd;obtain⟨_,_,_,_,k4,_,_⟩:=HCK.out rfl;obtain⟨av,cv,rfl,_,_,_⟩:=(OwI.rd ho).open;have hX11:=hX10.grown hg11 (by simp only[ne_eq,iP];omega);have hg11:=gbT hg10 hg11;have hX12:=hX11.set 2 (.slice av L.length cv);have hA12:BRd (w11.setCell ⟨z,2,none⟩ (.slice av L.length cv)) b s p3 vt vc (.int .i64 (C:Int)):=Arr.other hA11 ⟨z,2,none⟩ (by simp only[ne_eq];omega) _;have hg12:w.grownBy (w11.setCell ⟨z,2,none⟩ (.slice av L.length cv)) (some b):=⟨hg11.os,hg11.tape,hg11.output,by have:=hg11.size;simpa using this,fun k hk hne=>by
   rw[kT w11 ⟨z,2,none⟩ k _ (by simp only[ne_eq];omega)];exact hg11.block k hk hne⟩
  have ho12:OwI (w11.setCell ⟨z,2,none⟩ (.slice av L.length cv)) w10.heap.size (.slice av L.length cv) L:=Ow.kept ho (gbS w11 z 2 _) (iL ho hzl);have hE12:=hEV _ hg12;have hre:=aNu (mkS U1) (V3:Int) (.slice av L.length cv) L (R:Int) _ hE12 (by omega) (OwI.rd ho12) (by omega) (by omega) (by omega) (by omega) (by omega);have hrs:=YO (mkS U1) (V3:Int) L (R:Int);obtain⟨Q,RE,hR⟩:∃Q RE,rest (mkS U1) (V3:Int) L (R:Int)=(Q,RE):=⟨_,_,rfl⟩;rw[hR] at hre hrs hd;simp only at hre hrs hd;have d2:=hX11.cell (i:=2) rfl;have f2:=hX11.free 2;have e0:=hX12.cell (i:=0) rfl
  have e1:=hX12.cell (i:=1) rfl;have e2:=hX12.cell (i:=2) rfl;have HD:=hid hd;clear hR hd hX10 hg10 hX11 hg11 hA11 ho ho12 hE12 hX12 hsy HCK hEV;go_wp2_with fail;refine hre.mono ?_;rintro e w13 ⟨rfl,hb13⟩;have hA13:=Arr.below hA12 hb13 (Arr.lt hA12);have hg13:=gbT hg12 (gbB hb13);clear hre d2 f2 e0 e1 e2 hA12 hg12 hb13;go_wp2_with fail;refine(vC RE w13).mono ?_;rintro e w13' (⟨rfl,rfl,rfl⟩|⟨h0,rfl,rfl⟩)
  rotate_left
  ·have hd:=HD.out;rw[if_pos h0] at hd;have HF:=hid hd;clear hd;go_wp2_with fail;exact⟨rfl,sB HF.out h0 hg13⟩
  have hd:=HD.out;rw[if_neg (fun k=>k rfl)] at hd;have hrs:=hrs rfl;obtain⟨M,hM⟩:∃M,M=52*R:=⟨_,rfl⟩;have m8:IntKind.i64.wrap (52*(R:Int))=(M:Int):=by rw[IntKind.wrap_i64];omega
  have m8':52*(R:Int)=(M:Int):=by omega
  have hMb:M<=18720:=by omega
  rw[m8'] at hd;have hup:=aQv Q M w13' (by omega) (by omega);have hul:=aAl (p:=Q.data.toList) (most:=(M:Int));obtain⟨O,OE,hO⟩:∃O OE,fR Q.data.toList (M:Int)=(O,OE):=⟨_,_,rfl⟩;rw[hO] at hup hul hd;simp only at hup hul hd;have HD:=hid hd;clear hO hd hM;go_wp2_with fail;refine hup.mono ?_;rintro e w14 ⟨rfl,hb14⟩;have hA14:=Arr.below hA13 hb14 (Arr.lt hA13);have hg14:=gbT hg13 (gbB hb14);clear hup hA13 hg13 hb14;go_wp2_with fail;refine(vC OE w14).mono ?_;rintro e w14' (⟨rfl,rfl,rfl⟩|⟨h0,rfl,rfl⟩)
  rotate_left
  ·have hd:=HD.out;rw[if_pos h0] at hd;have HF:=hid hd;clear hd;go_wp2_with fail;exact⟨rfl,sB HF.out h0 hg14⟩
  have hd:=HD.out;rw[if_neg (fun k=>k rfl)] at hd;have HF:=hid hd;have hul:=hul rfl;clear hd;go_wp2_with fail
  go_ret2
  exact .inr ⟨O,V2,p3,vt,vc,_,rfl,hA14,hg14,HF.out,by omega,hv2⟩
theorem WrL.below {w w':World} {p B:Nat} {ls:List (List Bool)} (h:WrL w p B ls) (hb:Below w.heap.size w w'):WrL w' p B ls:=by
 obtain⟨v,h1,h2⟩:=h;exact⟨v,h1.below hb h1.lt,h2.below hb (aA _)⟩
theorem AA (s:ByteArray) (room:Int) (w:World) (hs:s.size<=100000):
  Calls Tryz.prog 43 #[.string s,.int .i64 room] w fun e w'=>zQ w w' s room e:=by
 have HL:=hid (show s.data.toList.length=s.size by simp);have hA0:=Arr.new w 77 [.string ⟨#[]⟩,.int .i64 0];have hs0:(w.alloc (.cells #[.string ⟨#[]⟩,.int .i64 0] 77)).heap.size=w.heap.size+1:=by simp
 have hb0:Below w.heap.size w (w.alloc (.cells #[.string ⟨#[]⟩,.int .i64 0] 77)):=bD (aB _ _) _;change Arr (w.alloc (.cells #[.string ⟨#[]⟩,.int .i64 0] 77)) _ _ _ at hA0;have hd:eZ s room=if s.size=0\/room<1\/360<room then 1 else if room<((bC s.data.toList).length:Int) then 4 else 0:=rfl;have d0:=hA0.cell (i:=0) rfl;have d1:=hA0.cell (i:=1) rfl;have f0:=hA0.free 0;have f1:=hA0.free 1;have hfit:=fun W=>ZU room W
 by_cases hbad:s.size=0\/room<1\/360<room
 ·rw[if_pos hbad] at hd;have HF:=hid hd;clear hd
  by_cases h1:s.size=0
  ·have u1:s.toList.isEmpty=true:=vA (List.eq_nil_of_length_eq_zero (by rw[HL.out];exact h1));go_enter Tryz.func43,Tryz.ntmps43;go_wp2_with fail;exact bpE rfl hA0 rfl rfl rfl (vB HF.out (by decide) hb0)
  have u1:s.toList.isEmpty=false:=rY (by omega);have hff:(decide (1<=room)&&decide (room<=360))=false:=by
   rw[Bool.and_eq_false_iff,decide_eq_false_iff_not,decide_eq_false_iff_not];omega
  rw[hff] at hfit;go_enter Tryz.func43,Tryz.ntmps43;go_wp2_with fail;refine(hfit _).mono ?_;rintro e w' ⟨rfl,rfl⟩;go_wp2_with fail;exact bpE rfl hA0 rfl rfl rfl (vB HF.out (by decide) hb0)
 rw[if_neg hbad] at hd;have u1:s.toList.isEmpty=false:=rY (by omega);have hff:(decide (1<=room)&&decide (room<=360))=true:=by
  rw[Bool.and_eq_true,decide_eq_true_eq,decide_eq_true_eq];omega
 rw[hff] at hfit;have hs1:0<s.size:=by omega
 have hpl:=(oS s.data.toList.length s.data.toList (aA _)).1;rw[HL.out] at hpl;have hln:=fun W=>ND s W (by omega)
 have hpk:=fun W=>aR7 s W (by omega)
 obtain⟨P,hP⟩:∃P,P=bC s.data.toList:=⟨_,rfl⟩;rw[<-hP] at hd hpk hpl hln;have HP:=hid hP;clear hP hff;go_enter Tryz.func43,Tryz.ntmps43;go_wp2_with fail;generalize w.alloc (.cells #[.string ⟨#[]⟩,.int .i64 0] 77)=w0 at*
 have hbz:w.heap.size<w0.heap.size:=by omega
 refine(hfit _).mono ?_;rintro e w' ⟨rfl,rfl⟩;clear hfit d0 d1 f0 f1;go_wp2_with fail;refine(hln _).mono ?_;rintro e w1 ⟨rfl,hb1⟩;have hA:=hA0.below hb1 hbz;have hb:=hb0.trans (hb1.mono (by omega));have hs1:=hb1.size;clear hln hb1 hA0 hb0
 by_cases hlong:room<(P.length:Int)
 ·rw[if_pos hlong] at hd;have HF:=hid hd;clear hd;have v1:decide ((P.length:Int)>room)=true:=decide_eq_true hlong;have v2:decide (room<(P.length:Int))=true:=decide_eq_true hlong;have d0:=hA.cell (i:=0) rfl;have d1:=hA.cell (i:=1) rfl;have f0:=hA.free 0;have f1:=hA.free 1;go_wp2_with fail;obtain⟨z0,z1⟩:=EL hA hb (.string ⟨#[]⟩) (.int .i64 0);exact bpE rfl z0 rfl rfl rfl (vB HF.out (by decide) z1)
 rw[if_neg hlong] at hd;have HF:=hid hd;clear hd;have v1:decide ((P.length:Int)>room)=false:=decide_eq_false hlong;have v2:decide (room<(P.length:Int))=false:=decide_eq_false hlong;have hP360:P.length<=360:=by omega
 go_wp2_with fail;refine(hpk _).mono ?_;rintro e w1' ⟨rfl,hb1⟩;have hA:=hA.below hb1 (by omega);have hb:=hb.trans (hb1.mono (by omega));have hs1:=aW hs1 hb1.size;clear hpk hb1;go_wp2_with fail;refine(aN0 (mkS P) _ (by rw[cP];omega)).mono ?_;rintro e w2 ⟨v5,rfl,hr5,hb2,hO⟩;have hpn:=(oS s.data.toList.length s.data.toList (aA _)).2.1 (fun e=>by have:=HL.out;rw[e] at this;simp at this;omega);rw[<-HP.out] at hpn;have hO:=hO (by rw[cP];exact kV.2 hpn);have HO:=hid (show fS (mkS (bC s.data.toList)) by rw[<-HP.out];exact hO)
 obtain⟨P',a,m,o,n,hI⟩:=BIn.of (t:=s) (by omega) (by rw[<-HP.out];omega) HO.out;obtain rfl:P'=P:=by rw[hI.hP,HP.out]
 rw[hI.hA,<-hI.ho,hI.hE,<-hI.hm] at*
 have HI:=hid hI;have hm0:=hI.m0;have hm361:=hI.m361;have hn2:=hI.n2;have hn258:=hI.n258;have ha256:=hI.a256;have ho16:=hI.o16;have hnn:(a.length:Int)+2=(n:Int):=by rw[hI.hn];omega
 have has:((mkS a).size:Int)+2=(n:Int):=by rw[cP];exact hnn
 have has2:(a.length:Int)+2=(n:Int):=hnn;obtain⟨a5,c5,rfl,_,_,_⟩:=hr5.open;have hA:=hA.below hb2 (by omega);have hb:=hb.trans (hb2.mono (by omega));have hs2:=hb2.size;clear hI hb2 hO;go_wp2_with fail;have hX:=Arr.new w2 118 [.string (mkS a),.int .i64 (o:Int),.slice a5 m.length c5];have hA:=hA.alloc (.cells #[.string (mkS a),.int .i64 (o:Int),.slice a5 m.length c5] 118);have hb:=hb.alloc (o:=.cells #[.string (mkS a),.int .i64 (o:Int),.slice a5 m.length c5] 118) (by omega)
 have hr5:=hr5.below (bD (aB w2.heap.size w2) (.cells #[.string (mkS a),.int .i64 (o:Int),.slice a5 m.length c5] 118));have hz3:(w2.alloc (.cells #[.string (mkS a),.int .i64 (o:Int),.slice a5 m.length c5] 118)).heap.size=w2.heap.size+1:=by simp
 change Arr (w2.alloc (.cells #[.string (mkS a),.int .i64 (o:Int),.slice a5 m.length c5] 118)) _ _ _ at hX;generalize w2.alloc (.cells #[.string (mkS a),.int .i64 (o:Int),.slice a5 m.length c5] 118)=w3 at*
 obtain⟨z7,hz7⟩:∃z7,z7=w2.heap.size:=⟨_,rfl⟩;rw[<-hz7] at hX hz3 hs2 ⊢;clear hz7;obtain⟨B3,hB3⟩:∃B3,w3.heap.size=B3:=⟨_,rfl⟩;have x0:=hX.cell (i:=0) rfl;have x1:=hX.cell (i:=1) rfl;have x2:=hX.cell (i:=2) rfl;have hz7B:z7<B3:=by omega
 have hS0:=kZ (B:=B3) (w0:=w3) ⟨x0,x1,x2,aB _ _,by omega⟩ (aB w3.heap.size w3).drew
 go_region_held3 (fun w'=>w'.cell? ⟨z7,0,none⟩=some (.string (mkS a))/\w'.cell? ⟨z7,1,none⟩=some (.int .i64 (o:Int))/\w'.cell? ⟨z7,2,none⟩=some (.slice a5 m.length c5)/\Below B3 w3 w'/\B3<=w'.heap.size)
  (first
   |with_reducible assumption
   |with_reducible exact kZ (by assumption) (by assumption))
  (first
   |(go_at_call 69;refine(WV (mkS a) (o:Int) (.slice a5 m.length c5) rfl _ (by rw[cP];omega)).mono ?_;rintro e w4 ⟨rfl,hb4⟩;rw[has])
   |(go_at_call 68;refine(aSk (.slice a5 m.length c5) m n _ (rdQ hr5 hB3 (by assumption)) hm0 (by omega) (by omega) hn258 HI.out.rng).mono ?_;rintro e w5 ⟨v9,v10,rfl,hL9,ho10,hb5⟩))
 have hS5:=(show w5.cell? ⟨z7,0,none⟩=some (.string (mkS a))/\w5.cell? ⟨z7,1,none⟩=some (.int .i64 (o:Int))/\w5.cell? ⟨z7,2,none⟩=some (.slice a5 m.length c5)/\Below B3 w3 w5/\B3<=w5.heap.size by assumption);obtain⟨x0,x1,x2,hb35,hs35⟩:=hS5;obtain⟨B,hB⟩:∃B,B=w5.heap.size:=⟨_,rfl⟩;have hzB:z7<B:=by omega
 have hwB:w.heap.size<B:=by omega
 have HC:=hid (fun W (h:Below B w5 W)=>show W.cell? ⟨z7,0,none⟩=some (.string (mkS a))/\W.cell? ⟨z7,1,none⟩=some (.int .i64 (o:Int))/\W.cell? ⟨z7,2,none⟩=some (.slice a5 m.length c5) from⟨(h.cell (p:=⟨z7,0,none⟩) hzB).trans x0,(h.cell (p:=⟨z7,1,none⟩) hzB).trans x1,(h.cell (p:=⟨z7,2,none⟩) hzB).trans x2⟩);have hA:=hA.below hb35 (by omega);have hb:=hb.trans (hb35.mono (by omega));have hr5:=hr5.below (hB3▸hb35);have hr10:=OwI.rd ho10;have HA:=hid (fun W (h:Below B w5 W)=>hA.below h hwB);have HB:=hid (fun W (h:Below B w5 W)=>hb.trans (h.mono (Nat.le_of_lt hwB)))
 have HR5:=hid (fun W (h:Below B w5 W)=>hr5.below (hB▸h));have HR10:=hid (fun W (h:Below B w5 W)=>hr10.below (hB▸h));have HL9:=hid (fun W (h:Below B w5 W)=>hL9.below (hB▸h));have hGl:=wJ m n;obtain⟨ac,cc,rfl,_,_,hA10⟩:=hr10.open;obtain⟨b10,o10,rfl,hb10,hc10⟩:=hA10 (by omega);obtain⟨at9,ct9,rfl,hn9,hm9,hA9⟩:=hL9.open;obtain⟨b9,o9,rfl,hb9,hc9⟩:=hA9 (by simp);obtain⟨y0,hy0,hry0⟩:=hc9 0 _ rfl;obtain⟨y1,hy1,hry1⟩:=hc9 1 _ rfl;obtain⟨T0,hT0⟩:∃T0,T0=dN m n 0:=⟨_,rfl⟩;obtain⟨T1,hT1⟩:∃T1,T1=dN m n 1:=⟨_,rfl⟩;rw[<-hT0] at hry0;rw[<-hT1] at hry1;have HT0:=hid hT0;have HT1:=hid hT1
 have HK0:=hid (show bL T0=0/\T0.length=n by rw[hT0];exact⟨HI.out.c0,HI.out.l0⟩);have HK1:=hid (show bL T1=0/\T1.length=n by rw[hT1];exact⟨HI.out.c1,HI.out.l1⟩);obtain⟨ay0,cy0,rfl,_,_,_⟩:=hry0.open;obtain⟨ay1,cy1,rfl,_,_,_⟩:=hry1.open;have HTB:=hid (fun W (h:Below B w5 W)=>show W.cell? ⟨b9,o9,none⟩=some (.slice ay0 T0.length cy0)/\W.cell? ⟨b9,o9+1,none⟩=some (.slice ay1 T1.length cy1)/\RdI W (.slice ay0 T0.length cy0) T0/\RdI W (.slice ay1 T1.length cy1) T1 from
  ⟨(h.cell (p:=⟨b9,o9,none⟩) (by rw[hB];exact hb9)).trans hy0,(h.cell (p:=⟨b9,o9+1,none⟩) (by rw[hB];exact hb9)).trans hy1,hry0.below (hB▸h),hry1.below (hB▸h)⟩)
 have HCH:=hid (fun W (h:Below B w5 W) i c (hi:(cT m n)[i]? =some c)=>show W.cell? ⟨b10,o10+i,none⟩=some (.int .i64 c) from(h.cell (p:=⟨b10,o10+i,none⟩) (by rw[hB];exact hb10)).trans (hc10 i c hi));clear hA10 hc10 hA9 hc9 hy0 hy1 hry0 hry1 hT0 hT1;have hGb:(cT m n).length<=901:=by omega
 have hG0:0<(cT m n).length:=by omega
 have HCB:=hid (DE m n);have hZ:=(fG s.data.toList).isLt;obtain⟨Z,hZe⟩:∃Z,Z=(fG s.data.toList).toNat:=⟨_,rfl⟩;rw[<-hZe] at hZ;have hsum:=fun W=>FA s W (by omega)
 rw[<-hZe] at hsum;have HZ:=hid hZe;obtain⟨G,hG⟩:∃G,G=(cT m n).length:=⟨_,rfl⟩;have HG:=hid hG;have HGL:=hid (hG.trans hGl);have hmp:=fun W=>aPk (mkS a) W (by rw[cP];omega)
 rw[fW] at hmp;have hmpl:=CD a;have hse:=fun W h=>aO9 (.slice (some ⟨b10,o10,none⟩) (cT m n).length cc) (cT m n) W h (by omega) HCB.out
 have hsl:=wL (dO (cT m n)) 2 (yW HCB.out);rw[uU] at hsl;have hd0:=fun W h=>ZN (.slice ay0 T0.length cy0) T0 W h (eH HK0.out.1).1
 have hd1:=fun W h=>ZN (.slice ay1 T1.length cy1) T1 W h (eH HK1.out.1).1
 have hdl0:=wW (eH HK0.out.1).1;have hdl1:=wW (eH HK1.out.1).1;obtain⟨XM,hXM⟩:∃X,X=fZ a:=⟨_,rfl⟩;obtain⟨XS,hXS⟩:∃X,X=dE (dO (cT m n)):=⟨_,rfl⟩;obtain⟨X0,hX0⟩:∃X,X=dW T0:=⟨_,rfl⟩;obtain⟨X1,hX1⟩:∃X,X=dW T1:=⟨_,rfl⟩;rw[<-hXM] at hmp hmpl;rw[<-hXS] at hse hsl;rw[<-hX0] at hd0 hdl0;rw[<-hX1] at hd1 hdl1;unfold eL at hmp hse hd0 hd1;rw[<-hG] at hse hsl hGb hG0 HR10 ⊢;have HXM:=hid hXM;have HXS:=hid hXS;have HX0:=hid hX0;have HX1:=hid hX1;have e1:fU.wrap (Z:Int)=(Z:Int):=by rw[gF];omega
 have e2:(Z:Int)%18446744073709551616=(Z:Int):=by omega
 have e3:fU.wrap (o:Int)=(o:Int):=by rw[gF];omega
 have e4:(o:Int)%18446744073709551616=(o:Int):=by omega
 have e5:fU.wrap (G:Int)=(G:Int):=by rw[gF];omega
 have e6:(G:Int)%18446744073709551616=(G:Int):=by omega
 obtain⟨l0,hl0⟩:∃l,l=aY 0x314159265359 48:=⟨_,rfl⟩;obtain⟨l1,hl1⟩:∃l,l=aY Z 32:=⟨_,rfl⟩;obtain⟨l2,hl2⟩:∃l,l=aY o 16:=⟨_,rfl⟩;obtain⟨l4,hl4⟩:∃l,l=aY 2 3:=⟨_,rfl⟩;obtain⟨l5,hl5⟩:∃l,l=aY G 15:=⟨_,rfl⟩;have hmg:∀W,WrL W B (B+1) []->B+1<=W.heap.size->Calls Tryz.prog 70 #[.pointer (some ⟨B,0,none⟩),.int .u64 54156738319193,.int .i64 48] W fun e w'=>e=.returned (.tuple #[])/\WrL w' B (B+1) [l0]/\Below B W w':=fun W h1 h2=>by
  rw[hl0];exact zW B (B+1) [] 54156738319193 48 W h1 (by omega) h2 (by decide) (by decide) (by decide)
 have hsm:=fun W h1 h2=>zW B (B+1) [l0] Z 32 W h1 (by omega) h2 (by simp) (by omega) (by decide)
 have hog:=fun W h1 h2=>zW B (B+1) [l0,l1] o 16 W h1 (by omega) h2 (by simp) (by omega) (by decide)
 have htw:∀W,WrL W B (B+1) [l0,l1,l2,XM]->B+1<=W.heap.size->Calls Tryz.prog 70 #[.pointer (some ⟨B,0,none⟩),.int .u64 2,.int .i64 3] W fun e w'=>e=.returned (.tuple #[])/\WrL w' B (B+1) [l0,l1,l2,XM,l4]/\Below B W w':=fun W h1 h2=>by
  rw[hl4];exact zW B (B+1) [l0,l1,l2,XM] 2 3 W h1 (by omega) h2 (by simp) (by decide) (by decide)
 have hct:=fun W h1 h2=>zW B (B+1) [l0,l1,l2,XM,l4] G 15 W h1 (by omega) h2 (by simp) (by omega) (by decide)
 rw[<-hl1] at hsm;rw[<-hl2] at hog;rw[<-hl5] at hct;have HLS:=hid (show[l0,l1,l2,XM,l4,l5,XS].flatten=aY 0x314159265359 48++aY Z 32++aY o 16++fZ a++(aY 2 3++aY G 15++dE (dO (cT m n))) by
  rw[hl0,hl1,hl2,hl4,hl5,hXM,hXS];simp only[AS,OO,eE,cF])
 have hflen:[l0,l1,l2,XM,l4,l5,XS].flatten.length<=3000:=by
  rw[hl0,hl1,hl2,hl4,hl5];simp only[AS,OO,eE,aL,cY];omega
 clear hZe hG hGl hXM hXS hX0 hX1 hl0 hl1 hl2 hl4 hl5;go_wp2_with fail;have hW:WrL (w5.alloc (.cells #[.slice none 0 0] 127)) B (B+1) []:=⟨_,by rw[hB];exact Arr.new w5 _ _,gG.nil _ _⟩;have hbc:Below B w5 (w5.alloc (.cells #[.slice none 0 0] 127)):=by rw[hB];exact bD (aB _ _) _
 have hsc:B+1<=(w5.alloc (.cells #[.slice none 0 0] 127)).heap.size:=by rw[hB];simp
 generalize w5.alloc (.cells #[.slice none 0 0] 127)=w6 at*
 rw[<-hB];have HBB:=hid hB;clear hB;refine(hmg _ hW hsc).mono ?_;rintro e w7 ⟨rfl,hW,hb7⟩;have hbc:=hbc.trans hb7;have hsc:=aW hsc hb7.size;clear hmg hb7;go_wp2_with fail;refine(hsum _).mono ?_;rintro e w8 ⟨rfl,hb8⟩;have hW:=hW.below hb8;have hbc:=hbc.trans (hb8.mono (by omega));have hsc:=aW hsc hb8.size;clear hsum hb8;go_wp2_with fail;refine(hsm _ hW hsc).mono ?_;rintro e w9 ⟨rfl,hW,hb9⟩;have hbc:=hbc.trans hb9;have hsc:=aW hsc hb9.size;clear hsm hb9;obtain⟨xa,xb,xc⟩:=HC.out _ hbc;clear xa xc;go_wp2_with fail;refine(hog _ hW hsc).mono ?_
 rintro e w10 ⟨rfl,hW,hb10⟩;have hbc:=hbc.trans hb10;have hsc:=aW hsc hb10.size;clear hog hb10;obtain⟨xa,xb',xc⟩:=HC.out _ hbc;clear xb' xc xb;go_wp2_with fail;refine(hmp _).mono ?_;rintro e w11 ⟨rfl,hb11⟩;have hW:=hW.below hb11;have hbc:=hbc.trans (hb11.mono (by omega));have hsc:=aW hsc hb11.size;clear hmp hb11;go_wp2_with fail;refine(xF B (B+1) [l0,l1,l2] XM 0 _ hW (by omega) hsc (by simp)).mono ?_;rintro e w12 ⟨rfl,hW,hb12,-⟩;have hbc:=hbc.trans hb12;have hsc:=aW hsc hb12.size;clear hb12;go_wp2_with fail;refine(htw _ hW hsc).mono ?_
 rintro e w13 ⟨rfl,hW,hb13⟩;have hbc:=hbc.trans hb13;have hsc:=aW hsc hb13.size;clear htw hb13;go_wp2_with fail;refine(hct _ hW hsc).mono ?_;rintro e w14 ⟨rfl,hW,hb14⟩;have hbc:=hbc.trans hb14;have hsc:=aW hsc hb14.size;clear hct hb14;go_wp2_with fail;refine(hse _ (HR10.out _ hbc)).mono ?_;rintro e w15 ⟨rfl,hb15⟩;have hW:=hW.below hb15;have hbc:=hbc.trans (hb15.mono (by omega));have hsc:=aW hsc hb15.size;clear hse hb15;go_wp2_with fail;refine(xF B (B+1) [l0,l1,l2,XM,l4,l5] XS 0 _ hW (by omega) hsc (by simp)).mono ?_;rintro e w16 ⟨rfl,hW,hb16,-⟩
 have hbc:=hbc.trans hb16;have hsc:=aW hsc hb16.size;clear hb16;clear xa e1 e2 e3 e4 e5 e6;obtain⟨L7,hL7⟩:∃L,L=[l0,l1,l2,XM,l4,l5,XS]:=⟨_,rfl⟩;have hW:WrL w16 B (B+1) L7:=by rw[hL7];exact hW
 rw[<-hL7] at HLS hflen;have hL7l:L7.length=7:=by rw[hL7];rfl
 clear hL7;go_wp2_with fail
 go_loopg [13,71] 2 (fun gm _s13 s71 wr=>∃k:Nat,k<=2/\gm=2-k/\s71=.int .i64 (k:Int)/\WrL wr B (B+1) (L7++[X0,X1].take k)/\Below B w5 wr/\B+1<=wr.heap.size)
 case atStart=>exact⟨0,by omega,rfl,rfl,by simpa using hW,hbc,hsc⟩
 case round=>
  clear hW hbc hsc;obtain⟨k,hk,hg,rfl,hW,hbc,hsc⟩:=hrel;have HGK:=hid hg;clear hg;obtain⟨t0,t1,t2,t3⟩:=HTB.out _ hbc;rcases(show k=0\/k=1\/k=2 by omega) with rfl|rfl|rfl
  ·clear t1 t3;go_wp2_with fail;refine(hd0 _ t2).mono ?_;rintro e w20 ⟨rfl,hb20⟩;have hW:=hW.below hb20;have hbc:=hbc.trans (hb20.mono (by omega));have hsc:=aW hsc hb20.size;clear hb20;go_wp2_with fail;refine(xF B (B+1) _ X0 0 _ hW (by omega) hsc (by simp;omega)).mono ?_;rintro e w21 ⟨rfl,hW,hb21,-⟩;go_wp2_with fail;have hg:=HGK.out
   go_roundg 1
   case measure=>omega
   case rel=>exact⟨1,by omega,rfl,by go_num,by simpa using hW,hbc.trans hb21,aW hsc hb21.size⟩
  ·clear t0 t2;go_wp2_with fail;refine(hd1 _ t3).mono ?_;rintro e w20 ⟨rfl,hb20⟩;have hW:=hW.below hb20;have hbc:=hbc.trans (hb20.mono (by omega));have hsc:=aW hsc hb20.size;clear hb20;go_wp2_with fail;refine(xF B (B+1) _ X1 0 _ hW (by omega) hsc (by simp;omega)).mono ?_;rintro e w21 ⟨rfl,hW,hb21,-⟩;go_wp2_with fail;have hg:=HGK.out
   go_roundg 0
   case measure=>omega
   case rel=>exact⟨2,by omega,rfl,by go_num,by simpa using hW,hbc.trans hb21,aW hsc hb21.size⟩
  ·clear t0 t1 t2 t3;obtain⟨L9,hL9e⟩:∃L,L=L7++[X0,X1].take 2:=⟨_,rfl⟩;rw[<-hL9e] at hW;have hfl9:L9.flatten=L7.flatten++(X0++X1):=by rw[hL9e];simp
   have hl9:L9.length=9:=by rw[hL9e];simp;omega
   have hfb9:L9.flatten.length<=30000:=by rw[hfl9,aL,aL];omega
   obtain⟨D,hD⟩:∃D,D=L9.flatten:=⟨_,rfl⟩;have HD:=hid (hD.trans hfl9);have HDD:=hid hD;obtain⟨xa,xb,xc⟩:=HC.out _ hbc;have hgc:=aBi (.slice a5 m.length c5) m _ (HR5.out _ hbc) hm0 (by omega);clear xa xb hL9e hfl9 hd0 hd1 hD;obtain⟨wo,rfl⟩:∃wo,wo=wr:=⟨_,rfl⟩;go_wp2_with fail;refine hgc.mono ?_;rintro e w30 ⟨v8,gs,rfl,ho8,hl8,hb30⟩;have hW:=hW.below hb30;have hbc:=hbc.trans (hb30.mono (by omega));have hsg:=hsc;have hsc:=aW hsc hb30.size;have hgsl:gs.length=G:=by rw[hl8.1,iD];exact HGL.out.symm
   obtain⟨b8,o8,c8,rfl⟩:=Ow.openN ho8 (by omega);obtain⟨BG,hBG⟩:∃BG,BG=wo.heap.size:=⟨_,rfl⟩;rw[<-hBG] at ho8 hl8 hsg;rw[hgsl] at ho8 ⊢;have HRNG:=hid HI.out.rng;have HMEM:=hid (fun j g (h:(cK m)[j]? =some g)=>DK h);clear hgc hb30 xc hBG;go_wp2_with fail
   go_loopg [14,15,85] G (fun gm _s14 _s15 s85 wr=>∃(i:Nat) (ls:List (List Bool)),i<=G/\gm=G-i/\s85=.int .i64 (i:Int)/\WrL wr B (B+1) ls/\Hid (ls.flatten=D++gP T0 T1 ((cT m n).take i) ((cK m).take i))/\ls.length<=20+i/\ls.flatten.length<=30000+300*i/\Ow wr BG 39 (.slice (some ⟨b8,o8,none⟩) G c8) gs/\fE wr BG gs (cK m)/\Below B w5 wr/\B+1<=wr.heap.size)
   case atStart=>exact⟨0,L9,Nat.zero_le _,rfl,rfl,hW,hid (by rw[HDD.out];simp[gP]),by omega,by omega,ho8,hl8,hbc,hsc⟩
   case round=>
    clear hW ho8 hl8 hbc hsc hfb9 hl9;obtain⟨i,ls,hi,hg,rfl,hW,HFL,hll,hfb,ho8,hl8,hbc,hsc⟩:=hrel;have HGI:=hid hg;clear hg
    by_cases hlt:i<G
    ·have q1:decide ((i:Int)<(G:Int))=true:=decide_eq_true (by omega);have hgG:=HGL.out;obtain⟨g,hgg⟩:∃g,(cK m)[i]? =some g:=⟨_,aN (by rw[iD];omega)⟩;obtain⟨c,hcc⟩:∃c,(cT m n)[i]? =some c:=⟨_,aN (by rw[wJ];omega)⟩;obtain⟨x,hx⟩:∃x,gs[i]? =some x:=⟨_,aN (by rw[hgsl];exact hlt)⟩;have hxr:=OwI.rd (hl8.2 i x g hx hgg);have cg:=ho8.cellAt hx;have ccell:=HCH.out _ hbc i c hcc;obtain⟨t0,t1,t2,t3⟩:=HTB.out _ hbc;obtain⟨m1,m2⟩:=HMEM.out i g hgg;have hrng:∀x∈g,0<=x/\x<(n:Int):=fun x hx=>HRNG.out x (m1 x hx)
     have hct:=MH (t0:=T0) (t1:=T1) hcc hgg;obtain⟨ax,cx,rfl,_,_,_⟩:=hxr.open;have hcb:=HCB.out c (List.mem_of_getElem? hcc);clear m1 hgg hx hcc hgG;rcases hcb with rfl|rfl
     ·rw[if_pos rfl] at hct;have hcp:=aBj (.slice ay0 T0.length cy0) (.slice ax g.length cx) T0 g _ t2 hxr HK0.out.1 (by rw[HK0.out.2];exact hrng) (by omega);have hcl:=rR (eH HK0.out.1).1 g (by rw[HK0.out.2];exact hrng);obtain⟨X,hX⟩:∃X,X=eR T0 g:=⟨_,rfl⟩;rw[<-hX] at hct hcp hcl;unfold eL at hcp;have HCT:=hid hct;clear hct hX hrng t1 t2 t3 hxr;go_wp2_with fail;refine hcp.mono ?_;rintro e w31 ⟨rfl,hb31⟩;have hW:=hW.below hb31;have hbc:=hbc.trans (hb31.mono (by omega));have hsc:=aW hsc hb31.size;have ho8:=ho8.below hb31 (aA _)
      have hl8:=hl8.below hb31;clear hcp hb31 cg ccell t0;go_wp2_with fail;refine(xF B (B+1) _ X 0 _ hW (by omega) hsc (by omega)).mono ?_;rintro e w32 ⟨rfl,hW,hb32,hk32⟩;go_wp2_with fail;have hg:=HGI.out
      go_roundg (G-(i+1))
      case measure=>omega
      case rel=>exact⟨i+1,_,by omega,rfl,by go_num,hW,hid (by rw[AM,HFL.out,HCT.out];simp),by rw[aL,fK];omega,by rw[AM,aL,AS,OO,eE];omega,hk32.ow ho8 (by omega) (by decide),hl8.map (fun x g k=>hk32.ow k (by omega) (by decide)),hbc.trans hb32,aW hsc hb32.size⟩
     ·rw[if_neg (by decide)] at hct;have hcp:=aBj (.slice ay1 T1.length cy1) (.slice ax g.length cx) T1 g _ t3 hxr HK1.out.1 (by rw[HK1.out.2];exact hrng) (by omega);have hcl:=rR (eH HK1.out.1).1 g (by rw[HK1.out.2];exact hrng);obtain⟨X,hX⟩:∃X,X=eR T1 g:=⟨_,rfl⟩;rw[<-hX] at hct hcp hcl;unfold eL at hcp;have HCT:=hid hct;clear hct hX hrng t0 t2 t3 hxr;go_wp2_with fail;refine hcp.mono ?_;rintro e w31 ⟨rfl,hb31⟩;have hW:=hW.below hb31;have hbc:=hbc.trans (hb31.mono (by omega));have hsc:=aW hsc hb31.size;have ho8:=ho8.below hb31 (aA _)
      have hl8:=hl8.below hb31;clear hcp hb31 cg ccell t1;go_wp2_with fail;refine(xF B (B+1) _ X 0 _ hW (by omega) hsc (by omega)).mono ?_;rintro e w32 ⟨rfl,hW,hb32,hk32⟩;go_wp2_with fail;have hg:=HGI.out
      go_roundg (G-(i+1))
      case measure=>omega
      case rel=>exact⟨i+1,_,by omega,rfl,by go_num,hW,hid (by rw[AM,HFL.out,HCT.out];simp),by rw[aL,fK];omega,by rw[AM,aL,AS,OO,eE];omega,hk32.ow ho8 (by omega) (by decide),hl8.map (fun x g k=>hk32.ow k (by omega) (by decide)),hbc.trans hb32,aW hsc hb32.size⟩
    ·have q1:decide ((i:Int)<(G:Int))=false:=decide_eq_false (by omega);have hie:i=G:=by omega
     have hA9':=HA.out _ hbc;have hB9':=HB.out _ hbc;have hBlk:=HI.out.blk;obtain⟨E,hE⟩:∃E,E=ls.flatten:=⟨_,rfl⟩;have hEq:E=cB s:=by
      rw[hBlk,hE,HFL.out,hie,cS (by rw[<-HG.out];exact aA _),cS (by rw[iD,<-HGL.out];exact aA _),HD.out,HLS.out,HX0.out,HX1.out,HZ.out,<-HG.out,<-HT0.out,<-HT1.out];simp only[cF]
     have HEQ:=hid hEq;obtain⟨vw,hAw,hOw⟩:=hW;have hcat:=CF vw ls _ hOw.rd (by omega);rw[<-hE] at hcat;unfold eL at hcat;obtain⟨aw,cw,rfl,-⟩:=hOw.rd;have dw:=hAw.cell (i:=0) rfl;clear hEq hBlk hie ho8 hl8 hOw hE;go_wp2_with fail;refine hcat.mono ?_;rintro e w40 ⟨rfl,hb40⟩;have hA40:=hA9'.below hb40 (by omega);have hB40:=hB9'.trans (hb40.mono (by omega));have d0:=hA40.cell (i:=0) rfl;have d1:=hA40.cell (i:=1) rfl;have f0:=hA40.free 0;have f1:=hA40.free 1;clear hcat hb40 hA9' hB9';go_wp2_with fail;obtain⟨z0,z1⟩:=EL hA40 hB40 (.string (mkS (aD E))) (.int .i64 (E.length:Int))
     refine bpE rfl z0 rfl rfl rfl ⟨?_,z1,fun _=>HO.out⟩;have hBL:mP s room=E:=by unfold mP;rw[if_pos HF.out,HEQ.out]
     rw[hBL,HF.out];rfl
end
end Go.Proofs.YtpgmbhpbgkljdaaGreatDoor
