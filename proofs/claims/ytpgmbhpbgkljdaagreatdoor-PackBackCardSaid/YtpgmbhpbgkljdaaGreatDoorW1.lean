/-
  Texts put together (W1): walks and plain laws on which the statement stands.
-/
import Derived.Test.YtpgmbhpbgkljdaaGreatDoorZ22
import Derived.Test.YtpgmbhpbgkljdaaGreatDoorZ24
import Derived.Test.YtpgmbhpbgkljdaaGreatDoorZ6
import Derived.Test.YtpgmbhpbgkljdaaGreatDoorZ8
import Derived.Test.YtpgmbhpbgkljdaaGreatDoorZ11
set_option maxRecDepth 100000
set_option maxHeartbeats 12800000
set_option linter.unusedVariables false
set_option linter.unusedSimpArgs false
namespace Go.Proofs.YtpgmbhpbgkljdaaGreatDoor
section
open Go.RowKit Go Go.Shelf
def foldB (x b:BitVec 32):BitVec 32:=(x<<<1|||x>>>31)^^^b
def allB (l:List (BitVec 32)):BitVec 32:=l.foldl foldB 0#32
structure Prt where
 t:ByteArray
 y:Int
 a:Int
 z:Int
 r:Int
def sumsP (l:List Prt):BitVec 32:=allB (l.map (fun p=>BitVec.ofInt 32 p.y))
def roomL (s:List UInt8) (k:Nat):Int×Int:=
 if s.length<k+4 then(0,2)
 else if(s.drop k).take 3≠[80,77,107]\/(s.getD (k+3) 0).toNat<49\/57<(s.getD (k+3) 0).toNat then(0,3)
 else(40*(((s.getD (k+3) 0).toNat:Int)-48),0)
def padN (a:Nat):Nat:=(8-a%8)%8
def endD (s:List UInt8) (a:Int) (v:BitVec 32):Int×Int:=
 if aO s.length (a+48) 32≠0 then(0,aO s.length (a+48) 32)
 else if aE s (a+48) 32≠v.toNat then(0,7)
 else if aE s (a+80) (padN (a+80).toNat)≠0 then(0,3)
 else(a+80+(padN (a+80).toNat:Int),0)
def strF (s:List UInt8) (r:Int):Nat->Int->List Prt->List Prt×Int×Int
 |0,a,acc=>(acc,a,2)
 |f+1,a,acc=>
  if aO s.length a 48≠0 then(acc,a,aO s.length a 48)
  else if aE s a 48=0x177245385090 then(acc,(endD s a (sumsP acc)).1,(endD s a (sumsP acc)).2)
  else if aE s a 48≠0x314159265359 then(acc,a,3)
  else if(cL s a r).2.2.2≠0 then(acc,a,(cL s a r).2.2.2)
  else strF s r f (cL s a r).2.2.1 (acc++[⟨(cL s a r).1,(cL s a r).2.1,a,(cL s a r).2.2.1,r⟩])
def strD (s:List UInt8) (a:Int):List Prt×Int×Int:=
 if(roomL s (a/8).toNat).2≠0 then([],a,(roomL s (a/8).toNat).2)
 else strF s (roomL s (a/8).toNat).1 (8*s.length+1) (a+32) []
def arcF (s:List UInt8):Nat->Int->List Prt->List Prt×Int
 |0,_,acc=>(acc,2)
 |f+1,a,acc=>
  if 8*(s.length:Int)<=a then(acc,0)
  else if(strD s a).2.2≠0 then(acc++(strD s a).1,(strD s a).2.2)
  else arcF s f (strD s a).2.1 (acc++(strD s a).1)
def arcD (s:List UInt8):List Prt×Int:=if s=[] then([],3) else arcF s (8*s.length+1) 0 []
def okT (r:Int) (t:ByteArray):Prop:=0<t.size/\fS (mkS (bC t.data.toList))/\((bC t.data.toList).length:Int)<=r
noncomputable def bodyW (l:List ByteArray):List Bool:=(l.map cB).flatten
def sumW (l:List ByteArray):BitVec 32:=allB (l.map (fun t=>fG t.data.toList))
def headW (n:Nat):List UInt8:=[80,77,107,UInt8.ofNat (48+n)]
noncomputable def strW (n:Nat) (l:List ByteArray):List Bool:=kW (headW n)++(bodyW l++(aY 0x177245385090 48++aY (sumW l).toNat 32))
def padW (l:List Bool):List Bool:=l++List.replicate (padN l.length) false
noncomputable def arcW (l:List (Nat×List ByteArray)):List Bool:=(l.map (fun p=>padW (strW p.1 p.2))).flatten
noncomputable def posW (r:Int):Nat->List ByteArray->List Prt
 |_,[]=>[]
 |a,t::l=>⟨t,((fG t.data.toList).toNat:Int),(a:Int),((a+(cB t).length:Nat):Int),r⟩::posW r (a+(cB t).length) l
noncomputable def arcP:Nat->List (Nat×List ByteArray)->List Prt
 |_,[]=>[]
 |a,p::q=>posW (40*(p.1:Int)) (a+32) p.2++arcP (a+(padW (strW p.1 p.2)).length) q
theorem padN_lt (a:Nat):padN a<8:=Nat.mod_lt _ (by decide)
theorem padN_up (a:Nat):(a+padN a)%8=0:=by unfold padN;omega
theorem padW_length (l:List Bool):(padW l).length=l.length+padN l.length:=by unfold padW;simp
theorem numL_zero (n:Nat):aY 0 n=List.replicate n false:=by
 apply List.ext_getElem?;intro i
 by_cases h:i<n
 ·rw[ID 0 n i h,List.getElem?_replicate,if_pos h];simp
 ·rw[List.getElem?_eq_none (by rw[cY];omega),List.getElem?_eq_none (by simp;omega)]
theorem packL_padW (l:List Bool):aD (padW l)=aD l:=by
 have hp:=padN_up l.length;have hp2:=padN_lt l.length;refine OU ?_ (fun i _=>?_)
 ·rw[gY,gY,padW_length];omega
 ·rw[sO,sO];unfold padW;rw[List.getD_eq_getElem?_getD,List.getD_eq_getElem?_getD,List.getElem?_append];split
  ·rfl
  ·next h=>
   rw[List.getElem?_replicate,List.getElem?_eq_none (by omega)];split<;>rfl
theorem packL_join {x y:List Bool} (h:x.length%8=0):aD (x++y)=aD x++aD y:=by
 refine OU ?_ (fun i _=>?_)
 ·rw[List.length_append,gY,gY,gY,List.length_append];omega
 ·rw[OW,sO,sO,sO,gY];rw[List.getD_eq_getElem?_getD,List.getD_eq_getElem?_getD,List.getD_eq_getElem?_getD,List.getElem?_append];have e:8*((x.length+7)/8)=x.length:=by omega
  rw[e];split
  ·rfl
  ·rfl
theorem bitAt_drop (s:List UInt8) (k i:Nat):dI (s.drop k) i=dI s (8*k+i):=by
 unfold dI;rw[List.getD_eq_getElem?_getD,List.getD_eq_getElem?_getD,List.getElem?_drop,show(8*k+i)/8=k+i/8 by omega,show(8*k+i)%8=i%8 by omega]
theorem bitAt_take {s:List UInt8} {n i:Nat} (h:i<8*n):dI (s.take n) i=dI s i:=by
 unfold dI;rw[List.getD_eq_getElem?_getD,List.getD_eq_getElem?_getD,List.getElem?_take,if_pos (by omega)]
theorem stands_bytes {s h:List UInt8} {k:Nat} (hs:fH s (8*k) (kW h)):(s.drop k).take h.length=h:=by
 have h1:=hs.1;rw[xZ] at h1;have hl:((s.drop k).take h.length).length=h.length:=by rw[List.length_take,List.length_drop];omega
 refine OU hl (fun i hi=>?_);rw[hl] at hi;rw[bitAt_take hi,bitAt_drop,MD hs (by rw[xZ];exact hi),List.getD_eq_getElem?_getD,sP,if_pos hi];rfl
theorem room_back {s:List UInt8} {k n:Nat} (h1:1<=n) (h9:n<=9) (hs:fH s (8*k) (kW (headW n))):roomL s k=(40*(n:Int),0):=by
 have hb:=stands_bytes hs;have hl:=hs.1;rw[xZ] at hl;have hl4:(headW n).length=4:=rfl;rw[hl4] at hl hb;have e3:(s.drop k).take 3=[80,77,107]:=by
  have:((s.drop k).take 4).take 3=(headW n).take 3:=by rw[hb]
  rw[List.take_take] at this;exact this
 have eb:(s.getD (k+3) 0).toNat=48+n:=by
  have:((s.drop k).take 4)[3]? =(headW n)[3]? :=by rw[hb]
  rw[List.getElem?_take,if_pos (by decide),List.getElem?_drop] at this;rw[List.getD_eq_getElem?_getD,this];show(UInt8.ofNat (48+n)).toNat=_;rw[UInt8.toNat_ofNat'];omega
 unfold roomL;rw[if_neg (by omega),if_neg (by rintro(h|h|h)<;>first|exact h e3|omega),eb]
 congr 1
 omega
theorem blkT_head (t:ByteArray):∃R,cB t=aY 0x314159265359 48++R:=by
 unfold cB oB yV;simp only[List.append_assoc];exact⟨_,rfl⟩
theorem blkT_pos (t:ByteArray):48<=(cB t).length:=by
 obtain⟨R,hR⟩:=blkT_head t;rw[hR,List.length_append,cY];omega
theorem ofInt_crc (v:BitVec 32):BitVec.ofInt 32 ((v.toNat:Nat):Int)=v:=by
 rw[BitVec.ofInt_natCast,BitVec.ofNat_toNat];simp
theorem sumsP_pos (r:Int):∀(l:List ByteArray) (a:Nat),(posW r a l).map (fun p=>BitVec.ofInt 32 p.y)=l.map (fun t=>fG t.data.toList)
 |[],_=>rfl
 |t::l,a=>by
  show BitVec.ofInt 32 (((fG t.data.toList).toNat:Nat):Int)::_=_;rw[ofInt_crc,sumsP_pos r l];rfl
theorem strF_back {s:List UInt8} {r:Int} (hr:r<=360) {v:Nat}:∀(l:List ByteArray) (f a:Nat) (acc:List Prt),(∀t∈l,okT r t)->l.length<f->
  fH s a (bodyW l++(aY 0x177245385090 48++(aY v 32++List.replicate (padN (a+(bodyW l).length+80)) false)))->v=(sumsP (acc++posW r a l)).toNat->
  strF s r f (a:Int) acc=(acc++posW r a l,((a+(bodyW l).length+80+padN (a+(bodyW l).length+80):Nat):Int),0)
 |[],0,_,_,_,hf,_,_=>absurd hf (by simp)
 |[],f+1,a,acc,_,_,h,hv=>by
  have hb:bodyW []=[]:=rfl;rw[hb] at h ⊢;simp only[List.nil_append,List.length_nil,Nat.add_zero] at h ⊢;obtain⟨h1,h2⟩:=jN h;rw[cY] at h2;obtain⟨h3,h4⟩:=jN h2;rw[cY] at h4;have g1:=uX h1 (by decide);have hvb:v<2^32:=by rw[hv];exact(sumsP (acc++posW r a [])).isLt
  have g2:=uX h3 hvb;rw[<-numL_zero] at h4;have g3:=uX h4 (Nat.pow_pos (by decide));rw[show a+48+32=a+80 by omega] at g3;have e1:((a+48:Nat):Int)=(a:Int)+48:=by push_cast;rfl
  have e2:((a+80:Nat):Int)=(a:Int)+80:=by push_cast;rfl
  rw[e1] at g2;rw[e2] at g3;have e3:((a:Int)+80).toNat=a+80:=by omega
  have hp:posW r a []=[]:=rfl;rw[hp,List.append_nil] at hv ⊢;unfold strF;rw[if_neg (fun k=>k g1.1),if_pos g1.2];unfold endD;rw[if_neg (fun k=>k g2.1),if_neg (fun k=>k (by rw[g2.2,hv])),e3,if_neg (fun k=>k g3.2)];simp
 |t::l,0,_,_,_,hf,_,_=>absurd hf (by simp)
 |t::l,f+1,a,acc,ho,hf,h,hv=>by
  have hb:bodyW (t::l)=cB t++bodyW l:=rfl;rw[hb,List.append_assoc] at h;obtain⟨h1,h2⟩:=jN h;obtain⟨R,hR⟩:=blkT_head t;have h1':=h1;rw[hR] at h1';have g1:=uX (jN h1').1 (by decide);obtain⟨o1,o2,o3⟩:=ho t (List.mem_cons_self ..);have hbk:=EI o1 o2 o3 hr h1;have hlen:a+(cB t++bodyW l).length=a+(cB t).length+(bodyW l).length:=by rw[List.length_append];omega
  rw[hlen] at h2;have ih:=strF_back hr l f (a+(cB t).length) (acc++[⟨t,((fG t.data.toList).toNat:Int),(a:Int),((a+(cB t).length:Nat):Int),r⟩]) (fun x hx=>ho x (List.mem_cons_of_mem _ hx)) (by simp at hf;omega) h2 (by rw[hv,List.append_assoc];rfl);unfold strF;rw[if_neg (fun k=>k g1.1),if_neg (by rw[g1.2];decide),if_neg (fun k=>k g1.2),hbk];simp only
  rw[if_neg (fun k=>k rfl),ih,hb,hlen,List.append_assoc];rfl
theorem strW_length (n:Nat) (l:List ByteArray):(strW n l).length=32+(bodyW l).length+80:=by
 unfold strW;simp only[List.length_append,cY,xZ];show 8*4+_=_;omega
theorem bodyW_length:∀l:List ByteArray,l.length<=(bodyW l).length
 |[]=>Nat.le_refl _
 |t::l=>by
  have:=bodyW_length l;have:=blkT_pos t;show l.length+1<=(cB t++bodyW l).length;rw[List.length_append];omega
theorem strD_back {s:List UInt8} {k n:Nat} {l:List ByteArray} (h1:1<=n) (h9:n<=9) (ho:∀t∈l,okT (40*(n:Int)) t) (h:fH s (8*k) (padW (strW n l))):
  strD s ((8*k:Nat):Int)=(posW (40*(n:Int)) (8*k+32) l,((8*k+(padW (strW n l)).length:Nat):Int),0):=by
 have hsl:=h.1;have hlen:=strW_length n l;have hpl:=padW_length (strW n l);have hbl:=bodyW_length l;unfold padW at h;have hsp:strW n l++List.replicate (padN (strW n l).length) false=kW (headW n)++(bodyW l++(aY 0x177245385090 48++(aY (sumW l).toNat 32++List.replicate (padN (strW n l).length) false))):=by
  unfold strW;simp only[List.append_assoc]
 rw[hsp] at h;obtain⟨a1,a2⟩:=jN h;rw[xZ,show(headW n).length=4 from rfl] at a2;have hrm:=room_back h1 h9 a1;have hk:(((8*k:Nat):Int)/8).toNat=k:=by omega
 unfold strD;rw[hk,hrm,if_neg (fun k=>k rfl)];have ep:padN (strW n l).length=padN (8*k+8*4+(bodyW l).length+80):=by rw[hlen];unfold padN;omega
 rw[ep] at a2 hpl;have hb:=strF_back (s:=s) (r:=40*(n:Int)) (by omega) l (8*s.length+1) (8*k+8*4) [] ho (by omega) a2 (by rw[List.nil_append];unfold sumsP sumW;rw[sumsP_pos]);have e32:((8*k:Nat):Int)+32=((8*k+8*4:Nat):Int):=by omega
 rw[e32,hb];simp only[List.nil_append];rw[hpl,hlen]
 congr 3
 omega
theorem arcF_back {s:List UInt8}:∀(l:List (Nat×List ByteArray)) (f k:Nat) (acc:List Prt),(∀p∈l,1<=p.1/\p.1<=9/\∀t∈p.2,okT (40*(p.1:Int)) t)->l.length<f->fH s (8*k) (arcW l)->8*k+(arcW l).length=8*s.length->
  arcF s f ((8*k:Nat):Int) acc=(acc++arcP (8*k) l,0)
 |[],0,_,_,_,hf,_,_=>absurd hf (by simp)
 |[],f+1,k,acc,_,_,_,he=>by
  have:(arcW []).length=0:=rfl;unfold arcF;rw[if_pos (by omega)];show(acc,(0:Int))=(acc++[],0);rw[List.append_nil]
 |p::l,0,_,_,_,hf,_,_=>absurd hf (by simp)
 |p::l,f+1,k,acc,ho,hf,h,he=>by
  have hw:arcW (p::l)=padW (strW p.1 p.2)++arcW l:=rfl;rw[hw] at h he;rw[List.length_append] at he;obtain⟨h1,h2⟩:=jN h;obtain⟨o1,o2,o3⟩:=ho p (List.mem_cons_self ..);have hs:=strD_back o1 o2 o3 h1;have hpl:=padW_length (strW p.1 p.2);have hup:=padN_up (strW p.1 p.2).length;have hsl:=strW_length p.1 p.2;obtain⟨m,hm⟩:∃m,(padW (strW p.1 p.2)).length=8*m:=⟨(padW (strW p.1 p.2)).length/8,by omega⟩;have e:8*k+(padW (strW p.1 p.2)).length=8*(k+m):=by omega
  rw[e] at h2 hs;have ih:=arcF_back l f (k+m) (acc++posW (40*(p.1:Int)) (8*k+32) p.2) (fun x hx=>ho x (List.mem_cons_of_mem _ hx)) (by simp at hf;omega) h2 (by omega);unfold arcF;rw[if_neg (by omega),hs];simp only
  rw[if_neg (fun k=>k rfl),ih,List.append_assoc];show _=(acc++(posW (40*(p.1:Int)) (8*k+32) p.2++arcP (8*k+(padW (strW p.1 p.2)).length) l),(0:Int));rw[e]
theorem arcW_length (l:List (Nat×List ByteArray)):(arcW l).length%8=0/\l.length<=(arcW l).length:=by
 induction l with
 |nil=>exact⟨rfl,Nat.le_refl _⟩
 |cons p l ih=>
  have hw:arcW (p::l)=padW (strW p.1 p.2)++arcW l:=rfl;have hpl:=padW_length (strW p.1 p.2);have hup:=padN_up (strW p.1 p.2).length;have hsl:=strW_length p.1 p.2;rw[hw,List.length_append,List.length_cons];omega
theorem arcD_back {l:List (Nat×List ByteArray)} (hl:l≠[]) (ho:∀p∈l,1<=p.1/\p.1<=9/\∀t∈p.2,okT (40*(p.1:Int)) t):arcD (aD (arcW l))=(arcP 0 l,0):=by
 obtain⟨h8,hlen⟩:=arcW_length l;have hpl:=gY (arcW l);have hl0:=List.length_pos_iff.2 hl;have hne:aD (arcW l)≠[]:=fun e=>by rw[e] at hpl;simp at hpl;omega
 unfold arcD;rw[if_neg hne];have:=arcF_back (s:=aD (arcW l)) l (8*(aD (arcW l)).length+1) 0 [] ho (by omega) (zP _) (by omega);rw[List.nil_append] at this;exact this
theorem arcW_one (n:Nat) (l:List ByteArray):arcW [(n,l)]=padW (strW n l):=by
 unfold arcW;rw[List.map_cons,List.map_nil,List.flatten_cons,List.flatten_nil,List.append_nil]
theorem arc_one (n:Nat) (l:List ByteArray):aD (strW n l)=aD (arcW [(n,l)]):=by
 rw[arcW_one,packL_padW]
theorem arcW_append (x y:List (Nat×List ByteArray)):arcW (x++y)=arcW x++arcW y:=by unfold arcW;simp
theorem arc_join (x y:List (Nat×List ByteArray)):aD (arcW x)++aD (arcW y)=aD (arcW (x++y)):=by
 rw[arcW_append,packL_join (arcW_length x).1]
end
section
open Go.RowKit Go Go.Shelf
theorem posW_t (r:Int):∀(l:List ByteArray) (a:Nat),(posW r a l).map Prt.t=l
 |[],_=>rfl
 |t::l,a=>by
  show t::(posW r (a+(cB t).length) l).map Prt.t=_;rw[posW_t r l]
theorem posW_r (r:Int):∀(l:List ByteArray) (a:Nat),(posW r a l).map Prt.r=l.map (fun _=>r)
 |[],_=>rfl
 |t::l,a=>by
  show r::(posW r (a+(cB t).length) l).map Prt.r=r::_;rw[posW_r r l]
theorem arcP_t:∀(l:List (Nat×List ByteArray)) (a:Nat),(arcP a l).map Prt.t=(l.map (fun p=>p.2)).flatten
 |[],_=>rfl
 |p::l,a=>by
  unfold arcP;rw[List.map_append,posW_t,arcP_t l,List.map_cons,List.flatten_cons]
theorem arcP_r:∀(l:List (Nat×List ByteArray)) (a:Nat),(arcP a l).map Prt.r=(l.map (fun p=>p.2.map (fun _=>40*(p.1:Int)))).flatten
 |[],_=>rfl
 |p::l,a=>by
  unfold arcP;rw[List.map_append,posW_r,arcP_r l,List.map_cons,List.flatten_cons]
theorem end_ok {s:List UInt8} {a:Int} {v:BitVec 32} (h:(endD s a v).2=0):0<=a+48/\a+80<=(endD s a v).1/\(endD s a v).1<=8*(s.length:Int):=by
 unfold endD at h ⊢
 by_cases q1:aO s.length (a+48) 32≠0
 ·rw[if_pos q1] at h;exact absurd h q1
 rw[if_neg q1] at h ⊢;have hg:=fQ (Decidable.not_not.1 q1)
 by_cases q2:aE s (a+48) 32≠v.toNat
 ·rw[if_pos q2] at h;simp at h
 rw[if_neg q2] at h ⊢
 by_cases q3:aE s (a+80) (padN (a+80).toNat)≠0
 ·rw[if_pos q3] at h;simp at h
 rw[if_neg q3];refine⟨hg.1,by show a+80<=a+80+_;omega,?_⟩;show a+80+(padN (a+80).toNat:Int)<=_;unfold padN;omega
theorem strF_ok {s:List UInt8} {r:Int}:∀(f:Nat) (a:Int) (acc:List Prt),(strF s r f a acc).2.2=0->a+80<=(strF s r f a acc).2.1/\(strF s r f a acc).2.1<=8*(s.length:Int)
 |0,_,_,h=>absurd h (by show(2:Int)≠0;decide)
 |f+1,a,acc,h=>by
  unfold strF at h ⊢
  by_cases q1:aO s.length a 48≠0
  ·rw[if_pos q1] at h;exact absurd h q1
  rw[if_neg q1] at h ⊢
  by_cases q2:aE s a 48=0x177245385090
  ·rw[if_pos q2] at h ⊢;have:=end_ok h;exact⟨this.2.1,this.2.2⟩
  rw[if_neg q2] at h ⊢
  by_cases q3:aE s a 48≠0x314159265359
  ·rw[if_pos q3] at h;exact absurd h (by show(3:Int)≠0;decide)
  rw[if_neg q3] at h ⊢
  by_cases q4:(cL s a r).2.2.2≠0
  ·rw[if_pos q4] at h;exact absurd h q4
  rw[if_neg q4] at h ⊢;have hb:=YK (Decidable.not_not.1 q4);have ih:=strF_ok f _ _ h;omega
theorem strD_ok {s:List UInt8} {a:Int} (h:(strD s a).2.2=0):a+112<=(strD s a).2.1/\(strD s a).2.1<=8*(s.length:Int):=by
 unfold strD at h ⊢
 by_cases q:(roomL s (a/8).toNat).2≠0
 ·rw[if_pos q] at h;exact absurd h q
 rw[if_neg q] at h ⊢;have:=strF_ok _ _ _ h;omega
theorem packL_len8 (l:List (Nat×List ByteArray)):8*(aD (arcW l)).length=(arcW l).length:=by
 have:=(arcW_length l).1;rw[gY];omega
end
section
open Go.RowKit Go Go.Shelf
theorem bodyW_cons (t:ByteArray) (l:List ByteArray):bodyW (t::l)=cB t++bodyW l:=rfl
end
section
open Go.RowKit Go Go.Shelf
def goodP (s:List UInt8) (p:Prt):Prop:=cL s p.a p.r=(p.t,p.y,p.z,0)/\40<=p.r/\p.r<=360/\p.r%40=0
def chainP (s:List UInt8):Int->List Prt->Int->Prop
 |lo,[],hi=>lo<=hi
 |lo,p::l,hi=>lo<=p.a/\goodP s p/\chainP s p.z l hi
theorem goodP.facts {s:List UInt8} {p:Prt} (h:goodP s p):p.y=((fG p.t.data.toList).toNat:Int)/\1<=p.t.size/\(p.t.size:Int)<=52*p.r/\0<=p.a/\p.a+96<p.z/\p.z<=8*(s.length:Int):=by
 have hk:=YK (s:=s) (at':=p.a) (room:=p.r) (by rw[h.1]);rw[h.1] at hk;exact⟨hk.2.2.2.2.2.1,hk.2.2.2.1,hk.2.2.2.2.1,hk.1,hk.2.2.2.2.2.2.1,hk.2.2.2.2.2.2.2.1⟩
theorem chain_low {s:List UInt8} {lo lo' hi:Int} (h:lo'<=lo):∀{l:List Prt},chainP s lo l hi->chainP s lo' l hi
 |[],k=>Int.le_trans h k
 |_::_,k=>⟨Int.le_trans h k.1,k.2⟩
theorem chain_join {s:List UInt8} {mid hi:Int} {m:List Prt} (hm:chainP s mid m hi):∀{l:List Prt} {lo:Int},chainP s lo l mid->chainP s lo (l++m) hi
 |[],_,k=>chain_low k hm
 |_::_,_,k=>⟨k.1,k.2.1,chain_join hm k.2.2⟩
theorem room_ok {s:List UInt8} {k:Nat} (h:(roomL s k).2=0):40<=(roomL s k).1/\(roomL s k).1<=360/\(roomL s k).1%40=0:=by
 unfold roomL at h ⊢
 by_cases q1:s.length<k+4
 ·rw[if_pos q1] at h;exact absurd h (by decide)
 rw[if_neg q1] at h ⊢
 by_cases q2:(s.drop k).take 3≠[80,77,107]\/(s.getD (k+3) 0).toNat<49\/57<(s.getD (k+3) 0).toNat
 ·rw[if_pos q2] at h;exact absurd h (by decide)
 rw[if_neg q2];have a1:¬(s.getD (k+3) 0).toNat<49:=fun q=>q2 (.inr (.inl q))
 have a2:¬57<(s.getD (k+3) 0).toNat:=fun q=>q2 (.inr (.inr q))
 show 40<=40*(((s.getD (k+3) 0).toNat:Int)-48)/\40*(((s.getD (k+3) 0).toNat:Int)-48)<=360/\40*(((s.getD (k+3) 0).toNat:Int)-48)%40=0;omega
theorem strF_chain {s:List UInt8} {r:Int} (h1:40<=r) (h2:r<=360) (h3:r%40=0):∀(f:Nat) (a:Int) (acc:List Prt),(strF s r f a acc).2.2=0->∃m,(strF s r f a acc).1=acc++m/\chainP s a m (strF s r f a acc).2.1
 |0,_,_,h=>absurd h (by show(2:Int)≠0;decide)
 |f+1,a,acc,h=>by
  have hok:=strF_ok (f+1) a acc h;unfold strF at h hok ⊢
  by_cases q1:aO s.length a 48≠0
  ·rw[if_pos q1] at h;exact absurd h q1
  rw[if_neg q1] at h hok ⊢
  by_cases q2:aE s a 48=0x177245385090
  ·rw[if_pos q2] at h hok ⊢;exact⟨[],(List.append_nil _).symm,by show a<=_;omega⟩
  rw[if_neg q2] at h hok ⊢
  by_cases q3:aE s a 48≠0x314159265359
  ·rw[if_pos q3] at h;exact absurd h (by show(3:Int)≠0;decide)
  rw[if_neg q3] at h hok ⊢
  by_cases q4:(cL s a r).2.2.2≠0
  ·rw[if_pos q4] at h;exact absurd h q4
  rw[if_neg q4] at h hok ⊢;obtain⟨m,hm,hc⟩:=strF_chain h1 h2 h3 f _ _ h;refine⟨_::m,by rw[hm,List.append_assoc];rfl,Int.le_refl _,⟨?_,h1,h2,h3⟩,hc⟩;have q4:=Decidable.not_not.1 q4;show cL s a r=((cL s a r).1,(cL s a r).2.1,(cL s a r).2.2.1,0);rw[<-q4]
theorem strD_chain {s:List UInt8} {a:Int} (h:(strD s a).2.2=0):chainP s (a+32) (strD s a).1 (strD s a).2.1:=by
 unfold strD at h ⊢
 by_cases q:(roomL s (a/8).toNat).2≠0
 ·rw[if_pos q] at h;exact absurd h q
 rw[if_neg q] at h ⊢;obtain⟨r1,r2,r3⟩:=room_ok (Decidable.not_not.1 q);obtain⟨m,hm,hc⟩:=strF_chain r1 r2 r3 _ _ _ h;rw[hm,List.nil_append];exact hc
theorem arcF_chain {s:List UInt8}:∀(f:Nat) (a:Int) (acc:List Prt),a<=8*(s.length:Int)->(arcF s f a acc).2=0->∃m,(arcF s f a acc).1=acc++m/\chainP s a m (8*(s.length:Int))
 |0,_,_,_,h=>absurd h (by show(2:Int)≠0;decide)
 |f+1,a,acc,ha,h=>by
  unfold arcF at h ⊢
  by_cases q1:8*(s.length:Int)<=a
  ·rw[if_pos q1];exact⟨[],(List.append_nil _).symm,ha⟩
  rw[if_neg q1] at h ⊢
  by_cases q2:(strD s a).2.2≠0
  ·rw[if_pos q2] at h;exact absurd h q2
  rw[if_neg q2] at h ⊢;have q2:=Decidable.not_not.1 q2;obtain⟨m,hm,hc⟩:=arcF_chain f _ _ (strD_ok q2).2 h;exact⟨(strD s a).1++m,by rw[hm,List.append_assoc],chain_join hc (chain_low (by omega) (strD_chain q2))⟩
theorem arcD_chain {s:List UInt8} (h:(arcD s).2=0):chainP s 32 (arcD s).1 (8*(s.length:Int)):=by
 unfold arcD at h ⊢
 by_cases q:s=[]
 ·rw[if_pos q] at h;exact absurd h (by decide)
 rw[if_neg q] at h ⊢;have hl:=List.length_pos_iff.2 q;unfold arcF at h ⊢;rw[if_neg (by omega)] at h ⊢
 by_cases q2:(strD s 0).2.2≠0
 ·rw[if_pos q2] at h;exact absurd h q2
 rw[if_neg q2] at h ⊢;have q2:=Decidable.not_not.1 q2;obtain⟨m,hm,hc⟩:=arcF_chain (8*s.length) _ _ (strD_ok q2).2 h;rw[hm,List.nil_append];exact chain_join hc (strD_chain q2)
end
section
open Go.RowKit Go Go.Shelf
theorem packL_bitsL (s:List UInt8):aD (kW s)=s:=by
 refine OU (by rw[gY,xZ];omega) (fun i hi=>?_);rw[gY,xZ] at hi;rw[sO,List.getD_eq_getElem?_getD,sP,if_pos (by omega)];rfl
def firstE (r:Int):List ByteArray->Int
 |[]=>0
 |t::l=>if eZ t r≠0 then eZ t r else firstE r l
def wrE (n:Int) (l:List ByteArray):Int:=if n<1\/9<n then 1 else firstE (40*n) l
theorem firstE_of {r:Int}:∀{l:List ByteArray},(∀t∈l,eZ t r=0)->firstE r l=0
 |[],_=>rfl
 |x::l,h=>by
  unfold firstE;rw[if_neg (fun k=>k (h x (List.mem_cons_self ..)))];exact firstE_of (fun t ht=>h t (List.mem_cons_of_mem _ ht))
theorem firstE_take {r:Int}:∀{l:List ByteArray} {k:Nat},(∀t∈l.take k,eZ t r=0)->firstE r l=firstE r (l.drop k)
 |_,0,_=>rfl
 |[],_+1,_=>rfl
 |x::l,k+1,h=>by
  show firstE r (x::l)=firstE r (l.drop k)
  conv=>lhs;unfold firstE
  rw[if_neg (fun q=>q (h x (by simp)))];exact firstE_take (fun t ht=>h t (by rw[List.take_succ_cons];exact List.mem_cons_of_mem _ ht))
theorem okT_of {t:ByteArray} {r:Int} (h:eZ t r=0) (hO:fS (mkS (bC t.data.toList))):okT r t:=by
 obtain⟨h0,_,_,h3⟩:=aOu h;exact⟨h0,hO,by omega⟩
theorem bodyW_len {r:Int} (hr:r<=360):∀(l:List ByteArray),(∀t∈l,okT r t)->(bodyW l).length<=28000*l.length
 |[],_=>Nat.le_refl _
 |t::l,h=>by
  obtain⟨h0,h1,h2⟩:=h t (List.mem_cons_self ..);have ih:=bodyW_len hr l (fun x hx=>h x (List.mem_cons_of_mem _ hx));have:=(zR h0 (by omega) h1).1;rw[bodyW_cons,List.length_append,List.length_cons];omega
def catT (l:List ByteArray):ByteArray:=mkS (l.map (fun t=>t.data.toList)).flatten
theorem catT_append (x y:List ByteArray):(catT (x++y)).data.toList=(catT x).data.toList++(catT y).data.toList:=by
 unfold catT;rw[fW,fW,fW,List.map_append,List.flatten_append]
end
section
open Go.RowKit Go Go.Shelf
def zeroP:Prt:=⟨cW,0,0,0,0⟩
def okP (l:List Prt):List (Prt×Int):=l.map (fun p=>(p,0))
theorem okP_append (l m:List Prt):okP (l++m)=okP l++okP m:=List.map_append
theorem okP_one (p:Prt):okP [p]=[(p,0)]:=rfl
def arcT (s:List UInt8):List (Prt×Int):=okP (arcD s).1++if(arcD s).2=0 then[] else[(zeroP,(arcD s).2)]
theorem strF_acc {s:List UInt8} {r:Int}:∀(f:Nat) (a:Int) (acc:List Prt),∃m,(strF s r f a acc).1=acc++m
 |0,a,acc=>⟨[],by unfold strF;rw[List.append_nil]⟩
 |f+1,a,acc=>by
  unfold strF;split
  ·exact⟨[],by rw[List.append_nil]⟩
  split
  ·exact⟨[],by rw[List.append_nil]⟩
  split
  ·exact⟨[],by rw[List.append_nil]⟩
  split
  ·exact⟨[],by rw[List.append_nil]⟩
  ·obtain⟨m,hm⟩:=strF_acc (s:=s) (r:=r) f (cL s a r).2.2.1 (acc++[⟨(cL s a r).1,(cL s a r).2.1,a,(cL s a r).2.2.1,r⟩]);exact⟨_::m,by rw[hm,List.append_assoc];rfl⟩
theorem arcF_acc {s:List UInt8}:∀(f:Nat) (a:Int) (acc:List Prt),∃m,(arcF s f a acc).1=acc++m
 |0,a,acc=>⟨[],by unfold arcF;rw[List.append_nil]⟩
 |f+1,a,acc=>by
  unfold arcF;split
  ·exact⟨[],by rw[List.append_nil]⟩
  split
  ·exact⟨_,rfl⟩
  ·obtain⟨m,hm⟩:=arcF_acc (s:=s) f (strD s a).2.1 (acc++(strD s a).1);exact⟨(strD s a).1++m,by rw[hm,List.append_assoc]⟩
structure InT (s:List UInt8) (a:Int) (pre T:List (Prt×Int)):Prop where
 part:∀acc p m,(strD s a).1=acc++p::m->∃r,T=(pre++okP acc)++(p,0)::r
 bad:(strD s a).2.2≠0->T=(pre++okP (strD s a).1)++[(zeroP,(strD s a).2.2)]
theorem inT_of {s:List UInt8} {f:Nat} {a:Int} {acc:List Prt} (h:arcD s=arcF s (f+1) a acc) (ha:a<8*(s.length:Int)):InT s a (okP acc) (arcT s):=by
 have hu:arcF s (f+1) a acc=if 8*(s.length:Int)<=a then(acc,0) else if(strD s a).2.2≠0 then(acc++(strD s a).1,(strD s a).2.2) else arcF s f (strD s a).2.1 (acc++(strD s a).1):=rfl;rw[hu,if_neg (by omega)] at h;refine⟨fun ac p m hp=>?_,fun hb=>?_⟩
 ·have:∃r,(arcD s).1=acc++(strD s a).1++r:=by
   rw[h];split
   ·exact⟨[],by rw[List.append_nil]⟩
   ·exact arcF_acc f _ _
  obtain⟨r,hr⟩:=this;unfold arcT;rw[hr,hp];simp only[okP_append,List.append_assoc];exact⟨okP m++(okP r++if(arcD s).2=0 then[] else[(zeroP,(arcD s).2)]),by simp[okP]⟩
 ·rw[if_pos hb] at h;unfold arcT;rw[h];simp only
  rw[if_neg hb,okP_append]
theorem arc_next {s:List UInt8} {f:Nat} {a:Int} {acc:List Prt} (h:arcD s=arcF s (f+1) a acc) (ha:a<8*(s.length:Int)) (hb:(strD s a).2.2=0):arcD s=arcF s f (strD s a).2.1 (acc++(strD s a).1):=by
 rw[h];show(if 8*(s.length:Int)<=a then(acc,0) else if(strD s a).2.2≠0 then(acc++(strD s a).1,(strD s a).2.2) else arcF s f (strD s a).2.1 (acc++(strD s a).1))=_;rw[if_neg (by omega),if_neg (fun k=>k hb)]
theorem arc_done {s:List UInt8} {f:Nat} {a:Int} {acc:List Prt} (h:arcD s=arcF s (f+1) a acc) (ha:8*(s.length:Int)<=a):arcT s=okP acc/\(arcD s).2=0:=by
 have:arcD s=(acc,0):=by
  rw[h];show(if 8*(s.length:Int)<=a then(acc,0) else if(strD s a).2.2≠0 then(acc++(strD s a).1,(strD s a).2.2) else arcF s f (strD s a).2.1 (acc++(strD s a).1))=_;rw[if_pos ha]
 unfold arcT;rw[this];exact⟨by simp,rfl⟩
theorem arcT_nil:arcT []=[(zeroP,3)]:=by
 have:arcD []=([],3):=rfl;unfold arcT;rw[this];rfl
theorem strF_count {s:List UInt8} {r:Int}:∀(f:Nat) (a:Int) (acc:List Prt),0<=a->a<=8*(s.length:Int)->96*((strF s r f a acc).1.length:Int)+a<=96*(acc.length:Int)+8*(s.length:Int)
 |0,a,acc,_,h=>by show 96*(acc.length:Int)+a<=_;omega
 |f+1,a,acc,h0,h=>by
  unfold strF;split
  ·show 96*(acc.length:Int)+a<=_;omega
  split
  ·show 96*(acc.length:Int)+a<=_;omega
  split
  ·show 96*(acc.length:Int)+a<=_;omega
  split
  ·show 96*(acc.length:Int)+a<=_;omega
  ·next q=>
   have hk:=YK (Decidable.not_not.1 q);have ih:=strF_count (s:=s) (r:=r) f (cL s a r).2.2.1 (acc++[⟨(cL s a r).1,(cL s a r).2.1,a,(cL s a r).2.2.1,r⟩]) (by omega) hk.2.2.2.2.2.2.2.1;rw[List.length_append,List.length_singleton] at ih;push_cast at ih;omega
theorem strF_mod {s:List UInt8} {r:Int}:∀(f:Nat) (a:Int) (acc:List Prt),0<=a->(strF s r f a acc).2.2=0->(strF s r f a acc).2.1%8=0
 |0,_,_,_,h=>absurd h (by show(2:Int)≠0;decide)
 |f+1,a,acc,h0,h=>by
  unfold strF at h ⊢
  by_cases q1:aO s.length a 48≠0
  ·rw[if_pos q1] at h;exact absurd h q1
  rw[if_neg q1] at h ⊢
  by_cases q2:aE s a 48=0x177245385090
  ·rw[if_pos q2] at h ⊢;unfold endD at h ⊢
   by_cases r1:aO s.length (a+48) 32≠0
   ·rw[if_pos r1] at h;exact absurd h r1
   rw[if_neg r1] at h ⊢
   by_cases r2:aE s (a+48) 32≠(sumsP acc).toNat
   ·rw[if_pos r2] at h;exact absurd h (by show(7:Int)≠0;decide)
   rw[if_neg r2] at h ⊢
   by_cases r3:aE s (a+80) (padN (a+80).toNat)≠0
   ·rw[if_pos r3] at h;exact absurd h (by show(3:Int)≠0;decide)
   rw[if_neg r3];have:=padN_up (a+80).toNat;show(a+80+(padN (a+80).toNat:Int))%8=0;omega
  rw[if_neg q2] at h ⊢
  by_cases q3:aE s a 48≠0x314159265359
  ·rw[if_pos q3] at h;exact absurd h (by show(3:Int)≠0;decide)
  rw[if_neg q3] at h ⊢
  by_cases q4:(cL s a r).2.2.2≠0
  ·rw[if_pos q4] at h;exact absurd h q4
  rw[if_neg q4] at h ⊢;have hk:=YK (Decidable.not_not.1 q4);exact strF_mod f _ _ (by omega) h
theorem strD_mod {s:List UInt8} {a:Int} (h0:0<=a) (h:(strD s a).2.2=0):(strD s a).2.1%8=0:=by
 unfold strD at h ⊢
 by_cases q:(roomL s (a/8).toNat).2≠0
 ·rw[if_pos q] at h;exact absurd h q
 rw[if_neg q] at h ⊢;exact strF_mod _ _ _ (by omega) h
theorem arcT_bad {s:List UInt8} {pre r:List (Prt×Int)} {x:Prt×Int} (h:arcT s=pre++x::r) (hx:x.2≠0):x=(zeroP,(arcD s).2)/\(arcD s).2≠0:=by
 have hm:x∈arcT s:=by rw[h];simp
 unfold arcT at hm;rcases List.mem_append.1 hm with hm|hm
 ·obtain⟨p,_,rfl⟩:=List.mem_map.1 hm;exact absurd rfl hx
 ·by_cases q:(arcD s).2=0
  ·rw[if_pos q] at hm;simp at hm
  ·rw[if_neg q] at hm;exact⟨by simpa using hm,q⟩
theorem arcT_ok {s:List UInt8} (h:∀x∈arcT s,x.2=0):(arcD s).2=0/\arcT s=okP (arcD s).1:=by
 by_cases q:(arcD s).2=0
 ·exact⟨q,by unfold arcT;rw[if_pos q,List.append_nil]⟩
 ·exfalso;refine q (h (zeroP,(arcD s).2) ?_);unfold arcT;rw[if_neg q];simp
end
section
open Go.RowKit Go Go.Shelf
theorem strF_parts {s:List UInt8} {r:Int}:∀(f:Nat) (a:Int) (acc:List Prt),(strF s r f a acc).2.2=0->96*((strF s r f a acc).1.length:Int)+a+80<=96*(acc.length:Int)+(strF s r f a acc).2.1
 |0,_,_,h=>absurd h (by show(2:Int)≠0;decide)
 |f+1,a,acc,h=>by
  have hok:=strF_ok (s:=s) (r:=r) (f+1) a acc h;unfold strF at h hok ⊢
  by_cases q1:aO s.length a 48≠0
  ·rw[if_pos q1] at h;exact absurd h q1
  rw[if_neg q1] at h hok ⊢
  by_cases q2:aE s a 48=0x177245385090
  ·rw[if_pos q2] at h hok ⊢;show 96*(acc.length:Int)+a+80<=96*(acc.length:Int)+(endD s a (sumsP acc)).1;have:a+80<=(endD s a (sumsP acc)).1:=hok.1;omega
  rw[if_neg q2] at h hok ⊢
  by_cases q3:aE s a 48≠0x314159265359
  ·rw[if_pos q3] at h;exact absurd h (by show(3:Int)≠0;decide)
  rw[if_neg q3] at h hok ⊢
  by_cases q4:(cL s a r).2.2.2≠0
  ·rw[if_pos q4] at h;exact absurd h q4
  rw[if_neg q4] at h hok ⊢;have hk:=YK (Decidable.not_not.1 q4);have ih:=strF_parts f _ _ h;rw[List.length_append,List.length_singleton] at ih;push_cast at ih;omega
theorem strD_parts {s:List UInt8} {a:Int} (_h0:0<=a) (h:(strD s a).2.2=0):96*((strD s a).1.length:Int)+a<=(strD s a).2.1:=by
 unfold strD at h ⊢
 by_cases q:(roomL s (a/8).toNat).2≠0
 ·rw[if_pos q] at h;exact absurd h q
 rw[if_neg q] at h ⊢;have:=strF_parts _ _ _ h;simp only[List.length_nil] at this;omega
theorem strD_count {s:List UInt8} {a:Int} (h0:0<=a) (h:a<=8*(s.length:Int)):96*((strD s a).1.length:Int)+a<=8*(s.length:Int)+32:=by
 unfold strD;split
 ·show 96*(([]:List Prt).length:Int)+a<=_;simp only[List.length_nil];omega
 ·next q=>
  by_cases k:a+32<=8*(s.length:Int)
  ·have:=strF_count (s:=s) (r:=(roomL s (a/8).toNat).1) (8*s.length+1) (a+32) [] (by omega) k;simp only[List.length_nil] at this;omega
  ·have:(strF s (roomL s (a/8).toNat).1 (8*s.length+1) (a+32) []).1=[]:=by
    unfold strF;have hg:aO s.length (a+32) 48≠0:=by unfold aO;rw[if_neg (by omega),if_pos (by omega)];decide
    rw[if_pos hg]
   rw[this];simp only[List.length_nil];omega
theorem arcF_count {s:List UInt8}:∀(f:Nat) (a:Int) (acc:List Prt),0<=a->a<=8*(s.length:Int)->96*((arcF s f a acc).1.length:Int)+a<=96*(acc.length:Int)+8*(s.length:Int)+32
 |0,a,acc,_,h=>by show 96*(acc.length:Int)+a<=_;omega
 |f+1,a,acc,h0,h=>by
  unfold arcF;have hd:=strD_count (s:=s) h0 h;split
  ·show 96*(acc.length:Int)+a<=_;omega
  split
  ·show 96*((acc++(strD s a).1).length:Int)+a<=_;rw[List.length_append];push_cast;omega
  ·next q=>
   have hk:=strD_ok (Decidable.not_not.1 q);have hp:=strD_parts (s:=s) (a:=a) h0 (Decidable.not_not.1 q);have ih:=arcF_count (s:=s) f (strD s a).2.1 (acc++(strD s a).1) (by omega) hk.2;rw[List.length_append] at ih;push_cast at ih;omega
theorem arcT_count (s:ByteArray) {T:List (Prt×Int)} (h:T=arcT s.data.toList):T.length<=8*s.size+2:=by
 have hl:s.data.toList.length=s.size:=by simp
 have:((arcD s.data.toList).1.length:Int)*96<=8*(s.size:Int)+32:=by
  unfold arcD;split
  ·simp;omega
  ·have:=arcF_count (s:=s.data.toList) (8*s.data.toList.length+1) 0 [] (by decide) (by omega);simp only[List.length_nil] at this;rw[hl] at this ⊢;omega
 rw[h];unfold arcT okP;rw[List.length_append,List.length_map];split<;>simp<;>omega
end
section
def lnP (n:Nat):Nat:=if n<4 then n else 5
def lnL (s:List UInt8):Nat:=(bC s).length
theorem lnL_nil:lnL []=0:=rfl
theorem lnP_mono {a b:Nat} (h:a<=b):lnP a<=lnP b:=by unfold lnP;split<;>split<;>omega
theorem lnL_cons {s:List UInt8} (h:s≠[]):lnL s=lnP (dX s)+lnL (s.drop (dX s)):=by
 have hb:=pS s h;unfold lnL
 conv=>lhs;rw[yU s h]
 rw[List.length_append,TY _ _ hb.2.2];rfl
theorem piece_take {s:List UInt8} (h:s≠[]) {k:Nat} (h1:1<=k) (hk:k<=s.length):dX (s.take k)=min k (dX s):=by
 obtain⟨c,r,rfl⟩:=List.exists_cons_of_ne_nil h;have hb:=pS (c::r) h;obtain⟨p1,p2⟩:=aIz (s:=c::r) (c:=c) rfl;generalize hn:dX (c::r)=n at*
 have hsame:∀j,j<n->(c::r)[j]? =some c:=fun j hj=>by
  have:((c::r).take n)[j]? =some c:=by rw[p1,List.getElem?_replicate,if_pos hj]
  rwa[List.getElem?_take,if_pos hj] at this
 have hl:((c::r).take k).length=k:=by rw[List.length_take];omega
 have h0:((c::r).take k)[0]? =some c:=by rw[List.getElem?_take,if_pos (by omega)];rfl
 refine DV (by omega) (by omega) (fun j hj=>?_) ?_
 ·rw[h0,List.getElem?_take,if_pos (by omega)];exact hsame j (by omega)
 ·rw[h0]
  by_cases q:k<=n
  ·exact .inr (.inl (by omega))
  ·by_cases q2:n<255
   ·refine .inr (.inr ?_);have p2:=p2 q2;rw[List.head?_drop] at p2;rw[show min k n=n by omega,List.getElem?_take,if_pos (by omega)];exact p2
   ·exact .inl (by omega)
theorem lnL_take {s:List UInt8} (h:s≠[]) {k:Nat} (hk:k<=s.length):lnL (s.take k)=if k<=dX s then lnP k else lnP (dX s)+lnL ((s.drop (dX s)).take (k-dX s)):=by
 have hb:=pS s h
 by_cases h0:k=0
 ·subst h0;rw[if_pos (Nat.zero_le _)];rfl
 ·have hne:s.take k≠[]:=fun e=>by
   have:=congrArg List.length e;have:=List.length_pos_iff.2 h;rw[List.length_take,List.length_nil] at*
   omega
  have hp:=piece_take h (by omega) hk;rw[lnL_cons hne,hp];split
  ·next q=>
   rw[show min k (dX s)=k by omega,List.drop_take,Nat.sub_self,List.take_zero,lnL_nil,Nat.add_zero]
  ·next q=>
   rw[show min k (dX s)=dX s by omega,List.drop_take]
theorem lnL_mono:∀(n:Nat) (s:List UInt8),s.length<=n->∀k,k+1<=s.length->lnL (s.take k)<=lnL (s.take (k+1))
 |0,s,hn,k,hk=>by omega
 |n+1,s,hn,k,hk=>by
  have hne:s≠[]:=fun e=>by rw[e] at hk;simp at hk
  have hb:=pS s hne;rw[lnL_take hne (by omega),lnL_take hne hk]
  by_cases q1:k+1<=dX s
  ·rw[if_pos (by omega),if_pos q1];exact lnP_mono (by omega)
  ·rw[if_neg q1]
   by_cases q2:k<=dX s
   ·rw[if_pos q2];have:=lnP_mono (show k<=dX s by omega);omega
   ·rw[if_neg q2,show k+1-dX s=(k-dX s)+1 by omega];have:=lnL_mono n (s.drop (dX s)) (by rw[List.length_drop];omega) (k-dX s) (by rw[List.length_drop];omega);omega
theorem lnL_up (s:List UInt8) (k:Nat):∀d,k+d<=s.length->lnL (s.take k)<=lnL (s.take (k+d))
 |0,_=>Nat.le_refl _
 |d+1,h=>Nat.le_trans (lnL_up s k d (by omega)) (lnL_mono s.length s (Nat.le_refl _) (k+d) (by omega))
def cutF:Nat->List UInt8->Nat->Nat
 |0,_,_=>0
 |f+1,s,room=>
  if s=[] then 0
  else if lnP (dX s)<=room then dX s+cutF f (s.drop (dX s)) (room-lnP (dX s))
  else min (min room 3) (dX s)
def cutL (s:List UInt8) (room:Nat):Nat:=cutF s.length s room
def IsCut (s:List UInt8) (room k:Nat):Prop:=k<=s.length/\lnL (s.take k)<=room/\(k<s.length->room<lnL (s.take (k+1)))
theorem cutF_is:∀(f:Nat) (s:List UInt8) (room:Nat),s.length<=f->IsCut s room (cutF f s room)
 |0,s,room,hf=>by
  have:s=[]:=List.length_eq_zero_iff.1 (by omega);subst this;exact⟨Nat.le_refl _,Nat.zero_le _,fun h=>absurd h (by simp)⟩
 |f+1,s,room,hf=>by
  unfold cutF
  by_cases h:s=[]
  ·subst h;exact⟨Nat.le_refl _,Nat.zero_le _,fun h=>absurd h (by simp)⟩
  rw[if_neg h];have hb:=pS s h
  by_cases q:lnP (dX s)<=room
  ·rw[if_pos q];obtain⟨i1,i2,i3⟩:=cutF_is f (s.drop (dX s)) (room-lnP (dX s)) (by rw[List.length_drop];omega);rw[List.length_drop] at i1 i3;generalize cutF f (s.drop (dX s)) (room-lnP (dX s))=k at*
   refine⟨by omega,?_,fun hk=>?_⟩
   ·rw[lnL_take h (by omega)]
    by_cases q2:dX s+k<=dX s
    ·rw[if_pos q2,show dX s+k=dX s by omega];exact q
    ·rw[if_neg q2,show dX s+k-dX s=k by omega];omega
   ·have i3:=i3 (by omega);rw[lnL_take h (by omega),if_neg (by omega),show dX s+k+1-dX s=k+1 by omega];omega
  ·rw[if_neg q];have hl:lnP (dX s)=if dX s<4 then dX s else 5:=rfl;have hlt:min (min room 3) (dX s)<dX s:=by split at hl<;>omega
   refine⟨by omega,?_,fun _=>?_⟩
   ·rw[lnL_take h (by omega),if_pos (by omega)];unfold lnP;rw[if_pos (by omega)];omega
   ·rw[lnL_take h (by omega),if_pos (by omega)];unfold lnP;split at hl
    ·rw[if_pos (by omega)];omega
    ·split<;>omega
theorem cutL_is (s:List UInt8) (room:Nat):IsCut s room (cutL s room):=cutF_is _ s room (Nat.le_refl _)
theorem IsCut.uniq {s:List UInt8} {room j k:Nat} (h1:IsCut s room j) (h2:IsCut s room k):j=k:=by
 rcases Nat.lt_trichotomy j k with h|h|h
 ·exfalso;have a:=h1.2.2 (by have:=h2.1;omega);have b:=lnL_up s (j+1) (k-(j+1)) (by have:=h2.1;omega);rw[show j+1+(k-(j+1))=k by omega] at b;have:=h2.2.1;omega
 ·exact h
 ·exfalso;have a:=h2.2.2 (by have:=h1.1;omega);have b:=lnL_up s (k+1) (j-(k+1)) (by have:=h1.1;omega);rw[show k+1+(j-(k+1))=j by omega] at b;have:=h1.2.1;omega
theorem cutL_pos {s:List UInt8} {room:Nat} (h:s≠[]) (hr:1<=room):1<=cutL s room:=by
 have hi:=cutL_is s room;have hl:=List.length_pos_iff.2 h;refine Nat.pos_of_ne_zero fun e=>?_
 have:=hi.2.2 (by omega);rw[e,lnL_take h (by omega),if_pos (pS s h).1] at this;have h1:lnP (0+1)=1:=rfl;omega
theorem cutL_all {s:List UInt8} {room:Nat} (h:lnL s<=room):cutL s room=s.length:=by
 refine(cutL_is s room).uniq ⟨Nat.le_refl _,by rw[List.take_length];exact h,fun k=>absurd k (Nat.lt_irrefl _)⟩
theorem cutL_append {x y:List UInt8} {room:Nat} (h:cutL x room<x.length):cutL (x++y) room=cutL x room:=by
 have hi:=cutL_is x room;refine(cutL_is (x++y) room).uniq ⟨by rw[List.length_append];omega,?_,fun _=>?_⟩
 ·rw[List.take_append_of_le_length (by omega)];exact hi.2.1
 ·rw[List.take_append_of_le_length (by omega)];exact hi.2.2 h
theorem cutL_more (x y:List UInt8) (room:Nat):cutL x room<=cutL (x++y) room:=by
 rcases Nat.lt_or_ge (cutL x room) x.length with h|h
 ·rw[cutL_append h];exact Nat.le_refl _
 ·have hi:=cutL_is x room;have hj:=cutL_is (x++y) room;refine Nat.le_of_not_lt fun q=>?_
  have a:=hj.2.2 (by rw[List.length_append];have:=hi.1;omega);rw[List.take_append_of_le_length (by have:=hi.1;omega)] at a;have b:=lnL_up x (cutL (x++y) room+1) (cutL x room-(cutL (x++y) room+1)) (by have:=hi.1;omega);rw[show cutL (x++y) room+1+(cutL x room-(cutL (x++y) room+1))=cutL x room by omega] at b;have:=hi.2.1;omega
end
section
theorem lnL_tail:∀(n:Nat) (c:UInt8) (r:List UInt8),r.length<=n->lnL r<=lnL (c::r)
 |n,c,[],_=>by rw[lnL_nil];exact Nat.zero_le _
 |0,c,d::r,h=>absurd h (by simp)
 |n+1,c,d::r,hn=>by
  have hne:(c::d::r)≠[]:=by simp
  have hb:=pS (c::d::r) hne;obtain⟨p1,p2⟩:=aIz (s:=c::d::r) (c:=c) rfl;have hs:=lnL_cons hne;generalize hm:dX (c::d::r)=m at*
  have hsame:∀j,j<m->(c::d::r)[j]? =some c:=fun j hj=>by
   have:((c::d::r).take m)[j]? =some c:=by rw[p1,List.getElem?_replicate,if_pos hj]
   rwa[List.getElem?_take,if_pos hj] at this
  by_cases h1:m=1
  ·subst h1;have e:lnL (c::d::r)=lnP 1+lnL (d::r):=hs;omega
  have hd:d=c:=by
   have:=hsame 1 (by omega)
   simpa using this
  subst hd;have hl:(d::r).length=r.length+1:=rfl;have hl2:(d::d::r).length=r.length+2:=rfl;have hget:∀j,(d::r)[j]? =(d::d::r)[j+1]? :=fun j=>by simp
  have hrest:∀k,(d::r).drop k=(d::d::r).drop (k+1):=fun k=>by simp
  have hpc:∀k,1<=k->k<=255->k+1<=r.length+2->(∀j,j<k->(d::r)[j]? =some d)->(k=255\/k=(d::r).length\/(d::r)[k]?≠some d)->dX (d::r)=k:=fun k a1 a2 a3 a4 a5=>by
   have e0:(d::r)[0]? =some d:=rfl;exact DV a2 (by omega) (fun j hj=>by rw[a4 j hj,e0]) (by rw[e0];exact a5)
  have hr:=lnL_cons (s:=d::r) (by simp)
  by_cases h255:m<255
  ·have hp:dX (d::r)=m-1:=by
    refine hpc (m-1) (by omega) (by omega) (by omega) (fun j hj=>by rw[hget];exact hsame _ (by omega)) ?_;have p2:=p2 h255;rw[List.head?_drop] at p2;exact .inr (.inr (by rw[hget,show m-1+1=m by omega];exact p2))
   rw[hp,hrest,show m-1+1=m by omega] at hr;have:=lnP_mono (show m-1<=m by omega);omega
  ·have hm255:m=255:=by omega
   by_cases hx:(d::d::r)[255]? =some d
   ·have hp:dX (d::r)=255:=by
     refine hpc 255 (by omega) (by omega) ?_ (fun j hj=>?_) (.inl rfl)
     ·have:=(List.getElem?_eq_some_iff.1 hx).1;omega
     ·rw[hget];rcases Nat.lt_or_ge (j+1) 255 with q|q
      ·exact hsame _ (by omega)
      ·rw[show j+1=255 by omega];exact hx
    rw[hp,hrest,show 255+1=256 from rfl] at hr;rw[hm255] at hs;have hlt:=(List.getElem?_eq_some_iff.1 hx).1;have e:(d::d::r).drop 255=d::(d::d::r).drop 256:=by
     rw[List.drop_eq_getElem_cons hlt]
     congr 1
     rw[List.getElem?_eq_getElem hlt] at hx;exact Option.some.inj hx
    have ih:=lnL_tail n d ((d::d::r).drop 256) (by rw[List.length_drop];omega);rw[<-e] at ih;omega
   ·have hp:dX (d::r)=254:=by
     refine hpc 254 (by omega) (by omega) (by omega) (fun j hj=>by rw[hget];exact hsame _ (by omega)) (.inr (.inr ?_));rw[hget];exact hx
    rw[hp,hrest,show 254+1=255 from rfl] at hr;rw[hm255] at hs;have e1:lnP 254=5:=rfl;have e2:lnP 255=5:=rfl;omega
theorem lnL_drop (s:List UInt8):∀d,lnL (s.drop d)<=lnL s
 |0=>Nat.le_refl _
 |d+1=>by
  have ih:=lnL_drop s d
  cases h:s.drop d with
  |nil=>
   have:s.drop (d+1)=[]:=by
    rw[List.drop_eq_nil_iff] at h ⊢;omega
   rw[this,lnL_nil];exact Nat.zero_le _
  |cons c r=>
   have:s.drop (d+1)=r:=by
    rw[<-List.drop_drop (i:=1) (j:=d),h];rfl
   rw[this];rw[h] at ih;exact Nat.le_trans (lnL_tail r.length c r (Nat.le_refl _)) ih
def pcsW (room:Nat):Nat->List UInt8->List (List UInt8)
 |0,_=>[]
 |f+1,s=>if s=[] then[] else s.take (cutL s room)::pcsW room f (s.drop (cutL s room))
def picL (room:Nat) (s:List UInt8):List (List UInt8):=pcsW room s.length s
theorem pcsW_more {room:Nat} (hr:1<=room):∀(f g:Nat) (s:List UInt8),s.length<=f->s.length<=g->pcsW room f s=pcsW room g s
 |0,g,s,hf,_=>by
  have:s=[]:=List.length_eq_zero_iff.1 (by omega);subst this
  cases g<;>rfl
 |f+1,0,s,_,hg=>by
  have:s=[]:=List.length_eq_zero_iff.1 (by omega);subst this;rfl
 |f+1,g+1,s,hf,hg=>by
  unfold pcsW
  by_cases h:s=[]
  ·rw[if_pos h,if_pos h]
  ·rw[if_neg h,if_neg h];have hp:=cutL_pos h hr;have hl:=List.length_pos_iff.2 h;rw[pcsW_more hr f g _ (by rw[List.length_drop];omega) (by rw[List.length_drop];omega)]
theorem picL_nil (room:Nat):picL room []=[]:=rfl
theorem picL_cons {room:Nat} (hr:1<=room) {s:List UInt8} (h:s≠[]):picL room s=s.take (cutL s room)::picL room (s.drop (cutL s room)):=by
 have hp:=cutL_pos h hr;have hl:=List.length_pos_iff.2 h;unfold picL;obtain⟨m,hm⟩:∃m,s.length=m+1:=⟨s.length-1,by omega⟩;rw[hm]
 conv=>lhs;unfold pcsW
 rw[if_neg h,pcsW_more hr m (s.drop (cutL s room)).length _ (by rw[List.length_drop];omega) (Nat.le_refl _)]
theorem pic_rec {room:Nat} (hr:1<=room) {P:List UInt8->Prop} (h0:P []) (h1:∀s,s≠[]->P (s.drop (cutL s room))->P s):∀(n:Nat) (s:List UInt8),s.length<=n->P s
 |0,s,h=>by
  have:s=[]:=List.length_eq_zero_iff.1 (by omega);subst this;exact h0
 |n+1,s,h=>by
  by_cases hs:s=[]
  ·subst hs;exact h0
  ·have hp:=cutL_pos hs hr;exact h1 s hs (pic_rec hr h0 h1 n _ (by rw[List.length_drop];omega))
theorem picL_flat {room:Nat} (hr:1<=room) (s:List UInt8):(picL room s).flatten=s:=by
 refine pic_rec hr (P:=fun s=>(picL room s).flatten=s) rfl (fun s hs ih=>?_) s.length s (Nat.le_refl _);rw[picL_cons hr hs,List.flatten_cons,ih,List.take_append_drop]
theorem picL_ok {room:Nat} (hr:1<=room) (s:List UInt8):∀p∈picL room s,p≠[]/\lnL p<=room:=by
 refine pic_rec hr (P:=fun s=>∀p∈picL room s,p≠[]/\lnL p<=room) (fun p hp=>by simp[picL_nil] at hp) (fun s hs ih=>?_) s.length s (Nat.le_refl _);rw[picL_cons hr hs];intro p hp;rcases List.mem_cons.1 hp with rfl|hp
 ·have hp:=cutL_pos hs hr;have hl:=List.length_pos_iff.2 hs;refine⟨fun e=>?_,(cutL_is s room).2.1⟩;have:=congrArg List.length e;rw[List.length_take,List.length_nil] at this;omega
 ·exact ih p hp
theorem picL_one {room:Nat} (hr:1<=room) {s:List UInt8} (hs:s≠[]) (h:lnL s<=room):picL room s=[s]:=by
 rw[picL_cons hr hs,cutL_all h,List.take_length,List.drop_length,picL_nil]
theorem picL_more {room:Nat} (hr:1<=room) (y x:List UInt8):x≠[]->∃(a:List (List UInt8)) (b c z:List UInt8) (e:List (List UInt8)),picL room x=a++[b]/\c=b++z/\picL room (x++y)=a++c::e:=by
 refine pic_rec hr (P:=fun x=>x≠[]->∃(a:List (List UInt8)) (b c z:List UInt8) (e:List (List UInt8)),picL room x=a++[b]/\c=b++z/\picL room (x++y)=a++c::e) (fun h=>absurd rfl h) (fun x hx ih _=>?_) x.length x (Nat.le_refl _);have hxy:x++y≠[]:=fun h=>hx (List.append_eq_nil_iff.1 h).1
 rw[picL_cons hr hx,picL_cons hr hxy];rcases Nat.lt_or_ge (cutL x room) x.length with q|q
 ·obtain⟨a,b,c,z,e,h1,h2,h3⟩:=ih (fun h=>by rw[List.drop_eq_nil_iff] at h;omega);refine⟨x.take (cutL x room)::a,b,c,z,e,by rw[h1];rfl,h2,?_⟩;rw[cutL_append q,List.take_append_of_le_length (by omega),List.drop_append_of_le_length (by omega),h3];rfl
 ·have hk:=(cutL_is x room).1;have he:cutL x room=x.length:=by omega
  have hm:=cutL_more x y room;rw[he,List.take_length,List.drop_length,picL_nil];refine⟨[],x,_,((x++y).take (cutL (x++y) room)).drop x.length,_,rfl,?_,rfl⟩
  conv=>lhs;rw[<-List.take_append_drop x.length ((x++y).take (cutL (x++y) room))]
  rw[List.take_take,show min x.length (cutL (x++y) room)=x.length by omega,List.take_append_of_le_length (Nat.le_refl _),List.take_length]
theorem picL_room {r q:Nat} (hr:1<=r) (hq:r<=q) (s:List UInt8):∀d,(picL q (s.drop d)).length<=(picL r s).length:=by
 refine pic_rec hr (P:=fun s=>∀d,(picL q (s.drop d)).length<=(picL r s).length) (fun d=>by rw[List.drop_nil];exact Nat.zero_le _) (fun s hs ih d=>?_) s.length s (Nat.le_refl _);rw[picL_cons hr hs,List.length_cons];have hi:=cutL_is s r;rcases Nat.lt_or_ge d (cutL s r) with h|h
 ·have hne:s.drop d≠[]:=fun e=>by rw[List.drop_eq_nil_iff] at e;have:=hi.1;omega
  have hge:cutL s r-d<=cutL (s.drop d) q:=by
   have hj:=cutL_is (s.drop d) q;refine Nat.le_of_not_lt fun k=>?_
   have a:=hj.2.2 (by rw[List.length_drop];have:=hi.1;omega);have b:=lnL_up (s.drop d) (cutL (s.drop d) q+1) (cutL s r-d-(cutL (s.drop d) q+1)) (by rw[List.length_drop];have:=hi.1;omega);rw[show cutL (s.drop d) q+1+(cutL s r-d-(cutL (s.drop d) q+1))=cutL s r-d by omega] at b;have c:=lnL_drop (s.take (cutL s r)) d;rw[List.drop_take] at c;have:=hi.2.1;omega
  rw[picL_cons (Nat.le_trans hr hq) hne,List.length_cons,List.drop_drop];have e:s.drop (d+cutL (s.drop d) q)=(s.drop (cutL s r)).drop (d+cutL (s.drop d) q-cutL s r):=by
   rw[List.drop_drop]
   congr 1
   omega
  rw[e];have:=ih (d+cutL (s.drop d) q-cutL s r);omega
 ·have e:s.drop d=(s.drop (cutL s r)).drop (d-cutL s r):=by
   rw[List.drop_drop]
   congr 1
   omega
  rw[e];have:=ih (d-cutL s r);omega
end
section
theorem lnL_le:∀(n:Nat) (s:List UInt8),s.length<=n->4*lnL s<=5*s.length
 |_,[],_=>Nat.le_refl _
 |0,c::s,h=>absurd h (by simp)
 |n+1,c::s,h=>by
  have hne:(c::s)≠[]:=by simp
  have hb:=pS (c::s) hne;have hl:=lnL_cons hne;have ih:=lnL_le n ((c::s).drop (dX (c::s))) (by rw[List.length_drop];omega);rw[List.length_drop] at ih;have hp:4*lnP (dX (c::s))<=5*dX (c::s):=by unfold lnP;split<;>omega
  omega
theorem picL_count {room:Nat} (hr:40<=room) (s:List UInt8):32*(picL room s).length<=s.length+32:=by
 refine pic_rec (show 1<=room by omega) (P:=fun s=>32*(picL room s).length<=s.length+32) (by rw[picL_nil];simp) (fun s hs ih=>?_) s.length s (Nat.le_refl _);have hi:=cutL_is s room;rw[picL_cons (by omega) hs,List.length_cons];rw[List.length_drop] at ih;have hl:=List.length_pos_iff.2 hs;rcases Nat.lt_or_ge (cutL s room) s.length with q|q
 ·have a:=hi.2.2 q;have b:=lnL_le _ (s.take (cutL s room+1)) (Nat.le_refl _);rw[List.length_take] at b;omega
 ·have e:s.drop (cutL s room)=[]:=by rw[List.drop_eq_nil_iff];exact q
  rw[e,picL_nil,List.length_nil];omega
end
section
open Go.RowKit Go Go.Shelf
abbrev RowCells:=List (List Value)
def Wide (k:Nat) (l:RowCells):Prop:=∀q∈l,q.length=k/\∀u∈q,u.oneCell'=true
theorem Wide.app {k:Nat} {l m:RowCells} (h:Wide k l) (g:Wide k m):Wide k (l++m):=fun q hq=>(List.mem_append.1 hq).elim (h q) (g q)
theorem flat_length {k:Nat}:∀{l:RowCells},Wide k l->l.flatten.length=l.length*k
 |[],_=>by simp
 |x::l,h=>by
  rw[List.flatten_cons,List.length_append,flat_length (l:=l) (fun q hq=>h q (List.mem_cons_of_mem _ hq)),(h x (List.mem_cons_self ..)).1,List.length_cons,Nat.succ_mul,Nat.add_comm]
theorem flat_get {k:Nat}:∀{l:RowCells},Wide k l->∀(j i:Nat) (q:List Value) (u:Value),l[j]? =some q->q[i]? =some u->l.flatten[j*k+i]? =some u
 |[],_,j,i,q,u,h,_=>by simp at h
 |x::l,hw,0,i,q,u,h,hu=>by
  obtain rfl:x=q:=by simpa using h
  have hi:=(List.getElem?_eq_some_iff.1 hu).1;rw[List.flatten_cons,Nat.zero_mul,Nat.zero_add,List.getElem?_append_left hi];exact hu
 |x::l,hw,j+1,i,q,u,h,hu=>by
  have ih:=flat_get (fun q hq=>hw q (List.mem_cons_of_mem _ hq)) j i q u (by simpa using h) hu;have hx:=(hw x (List.mem_cons_self ..)).1;rw[List.flatten_cons,List.getElem?_append_right (by rw[hx,Nat.succ_mul];omega),hx,show(j+1)*k+i-k=j*k+i by rw[Nat.succ_mul];omega];exact ih
structure ElR (P:Program) (t e k bytes:Nat) (z:Value):Prop where
 under:P.underlying t=some (.slice e)
 info:∃i,P.info? e=some i/\i.zero=some z/\i.size=k/\i.bytes=bytes
 cells:z.cells.size=k
 pos:1<=bytes
 some':1<=k
theorem ElR.mk' {P:Program} {t e k bytes:Nat} {z:Value} (h:(P.info? e).map (fun i=>(i.zero,i.size,i.bytes))=some (some z,k,bytes)) (hu:P.underlying t=some (.slice e)) (hc:z.cells.size=k) (hb:1<=bytes) (hk:1<=k):ElR P t e k bytes z:=by
 obtain⟨i0,hi,hz0,hz1,hz2⟩:=info_parts h;exact⟨hu,⟨i0,hi,hz0,hz1,hz2⟩,hc,hb,hk⟩
def RdR (w:World) (v:Value) (l:RowCells):Prop:=Rd w v l.length l.flatten
theorem RdR.below {w w':World} {v:Value} {l:RowCells} (h:RdR w v l) (hb:Below w.heap.size w w'):RdR w' v l:=Rd.below h hb
def OwR (w:World) (B e k:Nat) (v:Value) (l:RowCells):Prop:=w.ownsRow B e k v l.length l.flatten
theorem OwR.nil (w:World) (B e k:Nat):OwR w B e k (.slice none 0 0) []:=World.ownsRow_nil _ _ _ _
theorem OwR.alloc {w:World} {B e k:Nat} {v:Value} {l:RowCells} (h:OwR w B e k v l) (o:Obj):OwR (w.alloc o) B e k v l:=World.ownsRow.alloc h o
theorem OwR.below {w w':World} {B C e k:Nat} {v:Value} {l:RowCells} (h:OwR w B e k v l) (hb:Below C w w') (hC:w.heap.size<=C):OwR w' B e k v l:=GZ h hb hC
theorem OwR.kept {w w':World} {B e k:Nat} {v:Value} {l:RowCells} {row:Option Nat} (h:OwR w B e k v l) (hg:w.grownBy w' row) (hne:v.ownBlock=none\/v.ownBlock≠row):OwR w' B e k v l:=World.ownsRow.kept h hg hne
theorem OwR.lt {w:World} {B e k:Nat} {v:Value} {l:RowCells} (h:OwR w B e k v l):∀g,v.ownBlock=some g->B<=g/\g<w.heap.size:=World.ownsRow.lt h
theorem OwR.rd {w:World} {B e k:Nat} {v:Value} {l:RowCells} (h:OwR w B e k v l):RdR w v l:=Rd.of_own h
theorem RdR.open {w:World} {v:Value} {l:RowCells} {k:Nat} (h:RdR w v l) (hw:Wide k l) (hk:1<=k):∃a cap,v=.slice a l.length cap/\l.length<=cap/\cap<=maxLen/\
  (0<l.length->∃b off,a=some ⟨b,off,none⟩/\b<w.heap.size/\∀j q i u,l[j]? =some q->q[i]? =some u->w.cell? ⟨b,off+(j*k+i),none⟩=some u):=by
 obtain⟨a,cap,rfl,h1,h2,h3⟩:=h;refine⟨a,cap,rfl,h1,h2,fun hne=>?_⟩;have hfl:=flat_length hw;rcases h3 with h3|⟨b,off,rfl,hlt,hc⟩
 ·rw[h3,List.length_nil] at hfl;have:=Nat.mul_pos hne hk;omega
 ·refine⟨b,off,rfl,hlt,fun j q i u hq hu=>?_⟩;have hf:=flat_get hw j i q u hq hu;obtain⟨hj,hx⟩:=List.getElem?_eq_some_iff.1 hf;rw[hc _ hj,List.getD_eq_getElem?_getD,hf];rfl
section
variable {P:Program} {t e k bytes:Nat} {z:Value}
end
end
section
open Go.RowKit Go Go.Shelf
def TyKept (T:List TypeId) (p:Option Nat) (A B:World):Prop:=A.heap.size<=B.heap.size/\∀k c e fz,A.heap[k]? =some (.cells c e fz)->e∈T->some k≠p->B.heap[k]? =some (.cells c e fz)
theorem TyKept.of_kept {T:List TypeId} {p:Option Nat} {A B:World} (h:dP none A B):TyKept T p A B:=⟨h.1,fun k c e fz hk _ _=>h.2 k _ hk rfl (fun q=>by cases q)⟩
theorem TyKept.of_below {T:List TypeId} {p:Option Nat} {A B:World} (h:Below A.heap.size A B):TyKept T p A B:=.of_kept (.of_below h)
theorem TyKept.trans {T:List TypeId} {p:Option Nat} {A B C:World} (h:TyKept T p A B) (k:TyKept T p B C):TyKept T p A C:=⟨Nat.le_trans h.1 k.1,fun i c e fz hi ht hne=>k.2 i c e fz (h.2 i c e fz hi ht hne) ht hne⟩
theorem TyKept.arr {T:List TypeId} {p:Option Nat} {A B:World} {b e:Nat} {l:List Value} (h:TyKept T p A B) (ha:Arr A b e l) (ht:e∈T) (hne:some b≠p):Arr B b e l:=h.2 b _ _ _ ha ht hne
theorem TyKept.own {T:List TypeId} {A B:World} {base e size n:Nat} {v:Value} {xs:List Value} (h:TyKept T none A B) (ho:A.ownsRow base e size v n xs) (ht:e∈T):B.ownsRow base e size v n xs:=by
 refine⟨ho.1,?_⟩;rcases ho.2 with hn|⟨g,cap,cur,rfl,h1,hg,rest⟩
 ·exact .inl hn
 ·exact .inr ⟨g,cap,cur,rfl,h1,h.2 g _ _ _ hg ht (fun q=>by cases q),rest⟩
theorem TyKept.box {T:List TypeId} {p:Option Nat} {w:World} {g i e:Nat} {l:List Value} (h:Arr w g e l) (he:e ∉ T) (v:Value):TyKept T p w (w.setCell ⟨g,i,none⟩ v):=
 ⟨by simp,fun k c e' fz hk ht _=>by
  have:k≠g:=fun q=>by
   subst q;have h2:w.heap[k]? =some (.cells l.toArray e (0,0)):=h;rw[h2] at hk
   injection hk with hk
   injection hk with _ q2 _
   exact he (q2▸ht)
  rw[heap_setCell_other w ⟨g,i,none⟩ k v this];exact hk⟩
theorem TyKept.grownBox {T:List TypeId} {p:Option Nat} {A B:World} {b e:Nat} {l:List Value} (h:A.grownBy B (some b)) (ha:Arr A b e l) (he:e ∉ T):TyKept T p A B:=
 ⟨h.size,fun k c e' fz hk ht _=>(h.block k (Array.getElem?_eq_some_iff.1 hk).1 (fun q=>by
  obtain rfl:=Option.some.inj q;have h2:A.heap[k]? =some (.cells l.toArray e (0,0)):=ha;rw[h2] at hk
  injection hk with hk
  injection hk with _ q2 _
  exact he (q2▸ht))).trans hk⟩
theorem TyKept.app {T:List TypeId} {p:Option Nat} {e B size n:Nat} {w w':World} {v:Value} {xs:List Value} (ho:w.ownsRow B e size v n xs) (h:w.grownBy w' v.ownBlock) (he:e ∉ T):TyKept T p w w':=
 ⟨h.size,fun k c e' fz hk ht _=>by
  refine(h.block k (Array.getElem?_eq_some_iff.1 hk).1 (fun q=>?_)).trans hk;rcases ho.2 with⟨rfl,_⟩|⟨g,cap,cur,rfl,_,hg,_⟩
  ·cases q
  ·obtain rfl:=Option.some.inj q;rw[hk] at hg
   injection hg with hg
   injection hg with _ q2 _
   exact he (q2▸ht)⟩
theorem TyKept.grown {T:List TypeId} {A B:World} {b:Nat} (h:A.grownBy B (some b)):TyKept T (some b) A B:=⟨h.size,fun k c e fz hk _ hne=>(h.block k (Array.getElem?_eq_some_iff.1 hk).1 hne).trans hk⟩
def SeqTy {α:Type} (n:Nat) (P:Program) (g:Nat) (lb:Array Value) (encs:α->Array Value) (Ri Kp:World->World->Prop) (Ok:World->Prop) (Pre:List α->α->Prop) (Fin:List α->Prop) (w:World):Prop:=
 ∀(l:Nat) (J Jx:List α->World->Prop) (W:World),Below w.heap.size w W->(∀s A B,J s A->Below W.heap.size A B->Ri A B->J s B)->(∀s A B,Jx s A->Below W.heap.size A B->Ri A B->Jx s B)->(∀s A,J s A->Ok A)->
  (∀pre x W1,J pre W1->W.heap.size<=W1.heap.size->Pre pre x->
   YieldAt Fence.wide (n-1) P l (encs x) W1 fun e W'=>(e=.returned (.bool true)/\J (pre++[x]) W'/\Kp W1 W')\/(e=.returned (.bool false)/\Jx (pre++[x]) W'))->
  J [] W->
  CallsIn Fence.wide n P g (#[.func (.yield l) #[] #[]]++lb) W fun e W'=>(∃v,e=.returned v)/\((∃xs,Fin xs/\J xs W')\/∃pre,Jx pre W')
theorem wpIn_range_ty {α:Type} {n:Nat} {P:Program} {g:Operand} {ps:Array Tmp} {assign body:Code} {Q:Exit->Act->World->Prop} {a:Act} {w:World}
  (h1:1<=n) {gf:Nat} {lb:Array Value} (hg:a.eval g=.func (.func gf) #[] lb) (eg:∀args w,(callFunc gf args).run P w=.ok (.enter gf args) w)
  {encs:α->Array Value} {Ri Kp:World->World->Prop} {Ok:World->Prop} {Pre:List α->α->Prop} {Fin:List α->Prop} {w0:World} (hseq:SeqTy (n-1) P gf lb encs Ri Kp Ok Pre Fin w0) (hb0:Below w0.heap.size w0 w) (hps:∀x,(encs x).size=ps.size)
  (hKt:∀{A B C:World},Kp A B->Kp B C->Kp A C) (hKc:∀A B,dP none A B->Kp A B) (hRi:∀A B,dP none A B->Ri A B)
  (I:List α->World->Prop) (Ix:Code->List α->World->Prop) (hI:∀s A B,I s A->Below w.heap.size A B->Ri A B->I s B) (hIx:∀c s A B,Ix c s A->Below w.heap.size A B->Ri A B->Ix c s B) (h0:I [] w) (hOk:∀s A,I s A->Ok A)
  (Ax:α->Act->World->Prop) (hAx:∀x a' A A',Ax x a' A->dP none A A'->Ax x a' A')
  (hassign:∀(l:Nat) (pre:List α) (x:α) (W:World) (K:Act->World->Prop),I pre W->w.heap.size<=W.heap.size->Pre pre x->(∀a' W',Below W.heap.size W W'->Ax x a' W'->K a' W')->
   assign.wpIn (Fence.wide.inRound l) (n-1-1) P (Exit.then K (fun _ _ _=>False)) {tmps:=(ps.zip (encs x)).foldl (fun t (p,v)=>t.setIfInBounds p v) a.tmps,defers:=[]} W)
  (hbody:∀(l:Nat) (pre:List α) (x:α) (a':Act) (W:World),I pre W->w.heap.size<=W.heap.size->Pre pre x->Ax x a' W->body.wpIn (Fence.wide.inRound l) (n-1-1) P (ownPostG w.heap.size Kp I Ix (pre++[x]) W) a' W)
  (hdone:∀(D:Nat) (xs:List α) (W:World),w.heap.size<=D->Fin xs->I xs W->W.heap[D]? =some (.deferred (some []))->Q .normal {a with defers:={target:=.collected D,args:=#[]}::a.defers} W)
  (hstop:∀(D:Nat) (c:Code) (pre:List α) (W:World),w.heap.size<=D->Ix c pre W->W.heap[D]? =some (.deferred (some []))->c.wpIn Fence.wide n P Q {a with defers:={target:=.collected D,args:=#[]}::a.defers} W):
  (Code.rangeFunc g ps assign body).wpIn Fence.wide n P Q a w:=by
 refine wpIn_rangeFunc ?_;intro fn hfn;rw[show Fence.wide.round=none from rfl];obtain⟨rec,hrec⟩:∃rec:LoopState->Option Code->Loop,rec=fun st pe=>{state:=st,pending:=pe,fn,tmps:=a.tmps,params:=ps,assign,body,defers:=w.heap.size}:=⟨_,rfl⟩
 obtain⟨W1,hW1⟩:∃W1,(w.alloc (.deferred (some []))).alloc (.loop (rec .ready none))=W1:=⟨_,rfl⟩;have hL1:W1.heap[w.heap.size+1]? =some (.loop (rec .ready none)):=by
  rw[<-hW1];have:=World.alloc_heap_new (w.alloc (.deferred (some []))) (.loop (rec .ready none));rwa[World.size_alloc] at this
 have hK1:W1.heap[w.heap.size]? =some (.deferred (some [])):=by
  rw[<-hW1];exact(Below.heap_alloc _ _ _ (by simp)).trans (World.alloc_heap_new w _)
 have hbw:Below w.heap.size w W1:=by rw[<-hW1];exact((Below.refl _ w).alloc (Nat.le_refl _) _).alloc (by simp) _
 have hI1:I [] W1:=hI _ _ _ h0 hbw (hRi _ _ (dP.of_below hbw));have hs1:W1.heap.size=w.heap.size+2:=by rw[<-hW1];simp
 have hb1:Below w0.heap.size w0 W1:=hb0.trans (hbw.mono hb0.size);have hbp:∀(A:World) (l:Nat) (o o':Obj),w.heap.size<=l->A.heap[l]? =some o->o.isCells=false->o.isWalk=false->Below w.heap.size A (A.putObj l o'):=fun A l o o' hl h k1 k2=>belowK_b (w:=w) (Nat.le_refl _) A l o o' hl h k1 k2
 refine⟨w.heap.size+1,[{target:=.collected w.heap.size,args:=#[]}],W1,{target:=.fn (.func gf) lb,args:=#[.func (.yield (w.heap.size+1)) #[] #[]]},W1,gf,
  #[.func (.yield (w.heap.size+1)) #[] #[]]++lb,W1,?_,?_,?_,?_,fun _=>h1,?_⟩
 ·rw[<-hW1,hrec];exact run_enterLoop_outer _ _ _ _ _
 ·simp only[resolve,hg];simp[go_sem]
 ·exact fun _ _=>trivial
 ·simp[invoke,go_sem,eg]
 ·have hkl:∀{A B:World} {k:Nat} {o:Obj},Below W1.heap.size A B->k<W1.heap.size->A.heap[k]? =some o->B.heap[k]? =some o:=fun h hk ho=>(h.block _ hk).trans ho
  refine(hseq (w.heap.size+1)
   (fun pre W=>I pre W/\W.heap[w.heap.size+1]? =some (.loop (rec .ready none))/\W.heap[w.heap.size]? =some (.deferred (some [])))
   (fun pre W=>∃c,Ix c pre W/\W.heap[w.heap.size+1]? =some (.loop (rec .done (some c)))/\W.heap[w.heap.size]? =some (.deferred (some [])))
   W1 hb1
   (fun s A B hs hAB hr=>⟨hI s A B hs.1 (hAB.mono (by omega)) hr,hkl hAB (by omega) hs.2.1,hkl hAB (by omega) hs.2.2⟩)
   (fun s A B hs hAB hr=>by
    obtain⟨c,hc,hl,hk⟩:=hs;exact⟨c,hIx c s A B hc (hAB.mono (by omega)) hr,hkl hAB (by omega) hl,hkl hAB (by omega) hk⟩)
   (fun s A hs=>hOk s A hs.1) ?_ ⟨hI1,hL1,hK1⟩).mono ?_
  ·rintro pre x W ⟨hi,hl,hk⟩ hWs hpre;have hlt:w.heap.size+1<W.heap.size:=(Array.getElem?_eq_some_iff.1 hl).1;have hy:=run_yield (P:=P) (args:=encs x) hl (by rw[hrec];exact hps x);rw[hrec] at hy;refine⟨fn,_,assign,body,hy,roundIn_of_wpIn hfn (hassign _ pre x W _ hi (by omega) hpre ?_)⟩;clear hy;intro a' Wa hba hax;have hl':Wa.heap[w.heap.size+1]? =some (.loop (rec .ready none)):=(hba.block _ hlt).trans hl;have hk':Wa.heap[w.heap.size]? =some (.deferred (some [])):=(hba.block _ (by omega)).trans hk;have hlt':w.heap.size+1<Wa.heap.size:=(Array.getElem?_eq_some_iff.1 hl').1
   have hia:I pre Wa:=hI _ _ _ hi (hba.mono (by omega)) (hRi _ _ (dP.of_below hba));refine⟨_,run_beginRound hl' (by rw[hrec]),?_⟩;have hl2:(Wa.putObj (w.heap.size+1) (.loop {rec .ready none with state:=.busy})).heap[w.heap.size+1]? =some (.loop {rec .ready none with state:=.busy}):=World.putObj_heap_same hlt';have hk2:(Wa.putObj (w.heap.size+1) (.loop {rec .ready none with state:=.busy})).heap[w.heap.size]? =some (.deferred (some [])):=(World.putObj_heap_other (by omega)).trans hk'
   have hck:∀bo,dP bo Wa (Wa.putObj (w.heap.size+1) (.loop {rec .ready none with state:=.busy})):=fun bo=>dP.putObj _ _ hl' rfl
   refine wpIn_mono (hbody _ pre x a' _ (hI _ _ _ hia (hbp _ _ _ _ (by omega) hl' rfl rfl) (hRi _ _ (hck none))) (by have:=hba.size;simp;omega) hpre (hAx _ _ _ _ hax (hck none))) ?_;have fin:∀(jump:Option Code) (W3:World),KeepsFrom w.heap.size (Wa.putObj (w.heap.size+1) (.loop {rec .ready none with state:=.busy})) W3->
     (Instr.endRound (w.heap.size+1) jump).run P W3=.ok (.bool jump.isNone) (W3.putObj (w.heap.size+1) (.loop (rec (if jump.isNone then .ready else .done) jump)))/\
     W3.heap[w.heap.size+1]? =some (.loop {rec .ready none with state:=.busy})/\
     (W3.putObj (w.heap.size+1) (.loop (rec (if jump.isNone then .ready else .done) jump))).heap[w.heap.size+1]? =some (.loop (rec (if jump.isNone then .ready else .done) jump))/\
     (W3.putObj (w.heap.size+1) (.loop (rec (if jump.isNone then .ready else .done) jump))).heap[w.heap.size]? =some (.deferred (some [])):=fun jump W3 hk3=>by
    have hl3:=hk3.same _ _ (by omega) hl2 rfl;have:=run_endRound (P:=P) jump hl3;rw[hrec] at this ⊢;exact⟨this,by rw[hrec] at hl3;exact hl3,World.putObj_heap_same (Array.getElem?_eq_some_iff.1 hl3).1,(World.putObj_heap_other (by omega)).trans (hk3.same _ _ (Nat.le_refl _) hk2 rfl)⟩
   rintro e a3 W3 hp
   cases e with
   |normal=>
    obtain⟨hk3,hkp3,hi3⟩:=hp;obtain⟨hr,hl3,hl4,hk4⟩:=fin none W3 hk3;exact⟨_,_,hr,.inl ⟨rfl,⟨hI _ _ _ hi3 (hbp _ _ _ _ (by omega) hl3 rfl rfl) (hRi _ _ (dP.putObj _ _ hl3 rfl)),hl4,hk4⟩,hKt (hKc _ _ (dP.of_below hba)) (hKt (hKc _ _ (hck none)) (hKt hkp3 (hKc _ _ (dP.putObj _ _ hl3 rfl))))⟩⟩
   |ret=>
    obtain⟨hk3,hi3⟩:=hp;obtain⟨hr,hl3,hl4,hk4⟩:=fin (some .ret) W3 hk3;exact⟨_,_,hr,.inr ⟨rfl,.ret,hIx _ _ _ _ hi3 (hbp _ _ _ _ (by omega) hl3 rfl rfl) (hRi _ _ (dP.putObj _ _ hl3 rfl)),hl4,hk4⟩⟩
   |exit id=>
    obtain⟨hk3,hi3⟩:=hp;obtain⟨hr,hl3,hl4,hk4⟩:=fin (some (.exit id)) W3 hk3;exact⟨_,_,hr,.inr ⟨rfl,.exit id,hIx _ _ _ _ hi3 (hbp _ _ _ _ (by omega) hl3 rfl rfl) (hRi _ _ (dP.putObj _ _ hl3 rfl)),hl4,hk4⟩⟩
   |goto t=>
    obtain⟨hk3,hi3⟩:=hp;obtain⟨hr,hl3,hl4,hk4⟩:=fin (some (.goto t)) W3 hk3;exact⟨_,_,hr,.inr ⟨rfl,.goto t,hIx _ _ _ _ hi3 (hbp _ _ _ _ (by omega) hl3 rfl rfl) (hRi _ _ (dP.putObj _ _ hl3 rfl)),hl4,hk4⟩⟩
   |panic ch=>exact hp.elim
   |outgrown=>exact hp.elim
  ·rintro e W2 ⟨⟨v,rfl⟩,(⟨xs,hS,hi,hl,hk⟩|⟨pre,c,hi,hl,hk⟩)⟩
   ·exact⟨none,_,by have:=run_endLoop (P:=P) hl (by rw[hrec];simp);rw[hrec] at this;exact this,hdone _ xs _ (Nat.le_refl _) hS (hI _ _ _ hi (hbp _ _ _ _ (by omega) hl rfl rfl) (hRi _ _ (dP.putObj _ _ hl rfl))) ((World.putObj_heap_other (by omega)).trans hk)⟩
   ·exact⟨some c,_,by have:=run_endLoop (P:=P) hl (by rw[hrec];simp);rw[hrec] at this;exact this,hstop _ c pre _ (Nat.le_refl _) (hIx _ _ _ _ hi (hbp _ _ _ _ (by omega) hl rfl rfl) (hRi _ _ (dP.putObj _ _ hl rfl))) ((World.putObj_heap_other (by omega)).trans hk)⟩
end
section
open Go.RowKit Go Go.Shelf
def SeqTyB {α:Type} (Bs:Nat) (n:Nat) (P:Program) (g:Nat) (lb:Array Value) (encs:α->Array Value) (Ri Kp:World->World->Prop) (Ok:World->Prop) (Pre:List α->α->Prop) (Fin:List α->Prop) (w:World):Prop:=
 ∀(l:Nat) (J Jx:List α->World->Prop) (W:World),Below w.heap.size w W->(∀s A B,J s A->Below W.heap.size A B->Ri A B->J s B)->(∀s A B,Jx s A->Below W.heap.size A B->Ri A B->Jx s B)->(∀s A,J s A->Ok A)->(∀s A v,J s A->J s (A.setCell ⟨Bs,0,none⟩ v))->
  (∀pre x W1,J pre W1->W.heap.size<=W1.heap.size->Pre pre x->
   YieldAt Fence.wide (n-1) P l (encs x) W1 fun e W'=>(e=.returned (.bool true)/\J (pre++[x]) W'/\Kp W1 W')\/(e=.returned (.bool false)/\Jx (pre++[x]) W'))->
  J [] W->
  CallsIn Fence.wide n P g (#[.func (.yield l) #[] #[]]++lb) W fun e W'=>(∃v,e=.returned v)/\((∃xs,Fin xs/\J xs W')\/∃pre,Jx pre W')
theorem wpIn_range_tyb {α:Type} {n:Nat} {P:Program} {g:Operand} {ps:Array Tmp} {assign body:Code} {Q:Exit->Act->World->Prop} {a:Act} {w:World}
  (h1:1<=n) {gf:Nat} {lb:Array Value} (hg:a.eval g=.func (.func gf) #[] lb) (eg:∀args w,(callFunc gf args).run P w=.ok (.enter gf args) w)
  {encs:α->Array Value} {Ri Kp:World->World->Prop} {Ok:World->Prop} {Pre:List α->α->Prop} {Fin:List α->Prop} {w0:World} (Bs:Nat) (hBs:Bs<w.heap.size) (hseq:SeqTyB Bs (n-1) P gf lb encs Ri Kp Ok Pre Fin w0) (hb0:Below w0.heap.size w0 w) (hps:∀x,(encs x).size=ps.size)
  (hKt:∀{A B C:World},Kp A B->Kp B C->Kp A C) (hKc:∀A B,dP none A B->Kp A B) (hRi:∀A B,dP none A B->Ri A B)
  (I:List α->World->Prop) (Ix:Code->List α->World->Prop) (hI:∀s A B,I s A->Below w.heap.size A B->Ri A B->I s B) (hIx:∀c s A B,Ix c s A->Below w.heap.size A B->Ri A B->Ix c s B) (h0:I [] w) (hOk:∀s A,I s A->Ok A) (hIb:∀s A v,I s A->I s (A.setCell ⟨Bs,0,none⟩ v))
  (Ax:α->Act->World->Prop) (hAx:∀x a' A A',Ax x a' A->dP none A A'->Ax x a' A')
  (hassign:∀(l:Nat) (pre:List α) (x:α) (W:World) (K:Act->World->Prop),I pre W->w.heap.size<=W.heap.size->Pre pre x->(∀a' W',Below W.heap.size W W'->Ax x a' W'->K a' W')->
   assign.wpIn (Fence.wide.inRound l) (n-1-1) P (Exit.then K (fun _ _ _=>False)) {tmps:=(ps.zip (encs x)).foldl (fun t (p,v)=>t.setIfInBounds p v) a.tmps,defers:=[]} W)
  (hbody:∀(l:Nat) (pre:List α) (x:α) (a':Act) (W:World),I pre W->w.heap.size<=W.heap.size->Pre pre x->Ax x a' W->body.wpIn (Fence.wide.inRound l) (n-1-1) P (ownPostG w.heap.size Kp I Ix (pre++[x]) W) a' W)
  (hdone:∀(D:Nat) (xs:List α) (W:World),w.heap.size<=D->Fin xs->I xs W->W.heap[D]? =some (.deferred (some []))->Q .normal {a with defers:={target:=.collected D,args:=#[]}::a.defers} W)
  (hstop:∀(D:Nat) (c:Code) (pre:List α) (W:World),w.heap.size<=D->Ix c pre W->W.heap[D]? =some (.deferred (some []))->c.wpIn Fence.wide n P Q {a with defers:={target:=.collected D,args:=#[]}::a.defers} W):
  (Code.rangeFunc g ps assign body).wpIn Fence.wide n P Q a w:=by
 refine wpIn_rangeFunc ?_;intro fn hfn;rw[show Fence.wide.round=none from rfl];obtain⟨rec,hrec⟩:∃rec:LoopState->Option Code->Loop,rec=fun st pe=>{state:=st,pending:=pe,fn,tmps:=a.tmps,params:=ps,assign,body,defers:=w.heap.size}:=⟨_,rfl⟩
 obtain⟨W1,hW1⟩:∃W1,(w.alloc (.deferred (some []))).alloc (.loop (rec .ready none))=W1:=⟨_,rfl⟩;have hL1:W1.heap[w.heap.size+1]? =some (.loop (rec .ready none)):=by
  rw[<-hW1];have:=World.alloc_heap_new (w.alloc (.deferred (some []))) (.loop (rec .ready none));rwa[World.size_alloc] at this
 have hK1:W1.heap[w.heap.size]? =some (.deferred (some [])):=by
  rw[<-hW1];exact(Below.heap_alloc _ _ _ (by simp)).trans (World.alloc_heap_new w _)
 have hbw:Below w.heap.size w W1:=by rw[<-hW1];exact((Below.refl _ w).alloc (Nat.le_refl _) _).alloc (by simp) _
 have hI1:I [] W1:=hI _ _ _ h0 hbw (hRi _ _ (dP.of_below hbw));have hs1:W1.heap.size=w.heap.size+2:=by rw[<-hW1];simp
 have hb1:Below w0.heap.size w0 W1:=hb0.trans (hbw.mono hb0.size);have hbp:∀(A:World) (l:Nat) (o o':Obj),w.heap.size<=l->A.heap[l]? =some o->o.isCells=false->o.isWalk=false->Below w.heap.size A (A.putObj l o'):=fun A l o o' hl h k1 k2=>belowK_b (w:=w) (Nat.le_refl _) A l o o' hl h k1 k2
 refine⟨w.heap.size+1,[{target:=.collected w.heap.size,args:=#[]}],W1,{target:=.fn (.func gf) lb,args:=#[.func (.yield (w.heap.size+1)) #[] #[]]},W1,gf,
  #[.func (.yield (w.heap.size+1)) #[] #[]]++lb,W1,?_,?_,?_,?_,fun _=>h1,?_⟩
 ·rw[<-hW1,hrec];exact run_enterLoop_outer _ _ _ _ _
 ·simp only[resolve,hg];simp[go_sem]
 ·exact fun _ _=>trivial
 ·simp[invoke,go_sem,eg]
 ·have hkl:∀{A B:World} {k:Nat} {o:Obj},Below W1.heap.size A B->k<W1.heap.size->A.heap[k]? =some o->B.heap[k]? =some o:=fun h hk ho=>(h.block _ hk).trans ho
  refine(hseq (w.heap.size+1)
   (fun pre W=>I pre W/\W.heap[w.heap.size+1]? =some (.loop (rec .ready none))/\W.heap[w.heap.size]? =some (.deferred (some [])))
   (fun pre W=>∃c,Ix c pre W/\W.heap[w.heap.size+1]? =some (.loop (rec .done (some c)))/\W.heap[w.heap.size]? =some (.deferred (some [])))
   W1 hb1
   (fun s A B hs hAB hr=>⟨hI s A B hs.1 (hAB.mono (by omega)) hr,hkl hAB (by omega) hs.2.1,hkl hAB (by omega) hs.2.2⟩)
   (fun s A B hs hAB hr=>by
    obtain⟨c,hc,hl,hk⟩:=hs;exact⟨c,hIx c s A B hc (hAB.mono (by omega)) hr,hkl hAB (by omega) hl,hkl hAB (by omega) hk⟩)
   (fun s A hs=>hOk s A hs.1) (fun s A v hs=>⟨hIb s A v hs.1,by rw[heap_setCell_other A ⟨Bs,0,none⟩ _ v (fun q=>by have q:w.heap.size+1=Bs:=q;omega)];exact hs.2.1,by rw[heap_setCell_other A ⟨Bs,0,none⟩ _ v (fun q=>by have q:w.heap.size=Bs:=q;omega)];exact hs.2.2⟩) ?_ ⟨hI1,hL1,hK1⟩).mono ?_
  ·rintro pre x W ⟨hi,hl,hk⟩ hWs hpre;have hlt:w.heap.size+1<W.heap.size:=(Array.getElem?_eq_some_iff.1 hl).1;have hy:=run_yield (P:=P) (args:=encs x) hl (by rw[hrec];exact hps x);rw[hrec] at hy;refine⟨fn,_,assign,body,hy,roundIn_of_wpIn hfn (hassign _ pre x W _ hi (by omega) hpre ?_)⟩;clear hy;intro a' Wa hba hax;have hl':Wa.heap[w.heap.size+1]? =some (.loop (rec .ready none)):=(hba.block _ hlt).trans hl;have hk':Wa.heap[w.heap.size]? =some (.deferred (some [])):=(hba.block _ (by omega)).trans hk;have hlt':w.heap.size+1<Wa.heap.size:=(Array.getElem?_eq_some_iff.1 hl').1
   have hia:I pre Wa:=hI _ _ _ hi (hba.mono (by omega)) (hRi _ _ (dP.of_below hba));refine⟨_,run_beginRound hl' (by rw[hrec]),?_⟩;have hl2:(Wa.putObj (w.heap.size+1) (.loop {rec .ready none with state:=.busy})).heap[w.heap.size+1]? =some (.loop {rec .ready none with state:=.busy}):=World.putObj_heap_same hlt';have hk2:(Wa.putObj (w.heap.size+1) (.loop {rec .ready none with state:=.busy})).heap[w.heap.size]? =some (.deferred (some [])):=(World.putObj_heap_other (by omega)).trans hk'
   have hck:∀bo,dP bo Wa (Wa.putObj (w.heap.size+1) (.loop {rec .ready none with state:=.busy})):=fun bo=>dP.putObj _ _ hl' rfl
   refine wpIn_mono (hbody _ pre x a' _ (hI _ _ _ hia (hbp _ _ _ _ (by omega) hl' rfl rfl) (hRi _ _ (hck none))) (by have:=hba.size;simp;omega) hpre (hAx _ _ _ _ hax (hck none))) ?_;have fin:∀(jump:Option Code) (W3:World),KeepsFrom w.heap.size (Wa.putObj (w.heap.size+1) (.loop {rec .ready none with state:=.busy})) W3->
     (Instr.endRound (w.heap.size+1) jump).run P W3=.ok (.bool jump.isNone) (W3.putObj (w.heap.size+1) (.loop (rec (if jump.isNone then .ready else .done) jump)))/\
     W3.heap[w.heap.size+1]? =some (.loop {rec .ready none with state:=.busy})/\
     (W3.putObj (w.heap.size+1) (.loop (rec (if jump.isNone then .ready else .done) jump))).heap[w.heap.size+1]? =some (.loop (rec (if jump.isNone then .ready else .done) jump))/\
     (W3.putObj (w.heap.size+1) (.loop (rec (if jump.isNone then .ready else .done) jump))).heap[w.heap.size]? =some (.deferred (some [])):=fun jump W3 hk3=>by
    have hl3:=hk3.same _ _ (by omega) hl2 rfl;have:=run_endRound (P:=P) jump hl3;rw[hrec] at this ⊢;exact⟨this,by rw[hrec] at hl3;exact hl3,World.putObj_heap_same (Array.getElem?_eq_some_iff.1 hl3).1,(World.putObj_heap_other (by omega)).trans (hk3.same _ _ (Nat.le_refl _) hk2 rfl)⟩
   rintro e a3 W3 hp
   cases e with
   |normal=>
    obtain⟨hk3,hkp3,hi3⟩:=hp;obtain⟨hr,hl3,hl4,hk4⟩:=fin none W3 hk3;exact⟨_,_,hr,.inl ⟨rfl,⟨hI _ _ _ hi3 (hbp _ _ _ _ (by omega) hl3 rfl rfl) (hRi _ _ (dP.putObj _ _ hl3 rfl)),hl4,hk4⟩,hKt (hKc _ _ (dP.of_below hba)) (hKt (hKc _ _ (hck none)) (hKt hkp3 (hKc _ _ (dP.putObj _ _ hl3 rfl))))⟩⟩
   |ret=>
    obtain⟨hk3,hi3⟩:=hp;obtain⟨hr,hl3,hl4,hk4⟩:=fin (some .ret) W3 hk3;exact⟨_,_,hr,.inr ⟨rfl,.ret,hIx _ _ _ _ hi3 (hbp _ _ _ _ (by omega) hl3 rfl rfl) (hRi _ _ (dP.putObj _ _ hl3 rfl)),hl4,hk4⟩⟩
   |exit id=>
    obtain⟨hk3,hi3⟩:=hp;obtain⟨hr,hl3,hl4,hk4⟩:=fin (some (.exit id)) W3 hk3;exact⟨_,_,hr,.inr ⟨rfl,.exit id,hIx _ _ _ _ hi3 (hbp _ _ _ _ (by omega) hl3 rfl rfl) (hRi _ _ (dP.putObj _ _ hl3 rfl)),hl4,hk4⟩⟩
   |goto t=>
    obtain⟨hk3,hi3⟩:=hp;obtain⟨hr,hl3,hl4,hk4⟩:=fin (some (.goto t)) W3 hk3;exact⟨_,_,hr,.inr ⟨rfl,.goto t,hIx _ _ _ _ hi3 (hbp _ _ _ _ (by omega) hl3 rfl rfl) (hRi _ _ (dP.putObj _ _ hl3 rfl)),hl4,hk4⟩⟩
   |panic ch=>exact hp.elim
   |outgrown=>exact hp.elim
  ·rintro e W2 ⟨⟨v,rfl⟩,(⟨xs,hS,hi,hl,hk⟩|⟨pre,c,hi,hl,hk⟩)⟩
   ·exact⟨none,_,by have:=run_endLoop (P:=P) hl (by rw[hrec];simp);rw[hrec] at this;exact this,hdone _ xs _ (Nat.le_refl _) hS (hI _ _ _ hi (hbp _ _ _ _ (by omega) hl rfl rfl) (hRi _ _ (dP.putObj _ _ hl rfl))) ((World.putObj_heap_other (by omega)).trans hk)⟩
   ·exact⟨some c,_,by have:=run_endLoop (P:=P) hl (by rw[hrec];simp);rw[hrec] at this;exact this,hstop _ c pre _ (Nat.le_refl _) (hIx _ _ _ _ hi (hbp _ _ _ _ (by omega) hl rfl rfl) (hRi _ _ (dP.putObj _ _ hl rfl))) ((World.putObj_heap_other (by omega)).trans hk)⟩
end
end Go.Proofs.YtpgmbhpbgkljdaaGreatDoor
