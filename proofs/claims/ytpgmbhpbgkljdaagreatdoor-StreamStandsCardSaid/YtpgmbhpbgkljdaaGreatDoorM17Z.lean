/-
  The mathematics of streams (chapter 17): an archive's parts; what is written is read.
-/
import Derived.Test.YtpgmbhpbgkljdaaGreatDoorZ22
set_option linter.unusedVariables false
set_option linter.unusedSimpArgs false
set_option maxRecDepth 100000
set_option maxHeartbeats 12800000
namespace Go.Proofs.YtpgmbhpbgkljdaaGreatDoor
open Go.RowKit Go Go.Shelf
def foldB (x b:BitVec 32):BitVec 32:=(x<<<1|||x>>>31)^^^b
def allB (l:List (BitVec 32)):BitVec 32:=l.foldl foldB 0#32
structure Prt where
 t:ByteArray
 y:Int
 a:Int
 z:Int
 r:Int
def sumsP (l:List Prt):BitVec 32:=allB (l.map (fun p=>BitVec.ofInt 32 p.y))
def roomL (s:List UInt8) (k:Nat):Int×Int:=
 if s.length<k+4 then(0,2)
 else if(s.drop k).take 3≠[80,77,107]\/(s.getD (k+3) 0).toNat<49\/57<(s.getD (k+3) 0).toNat then(0,3)
 else(40*(((s.getD (k+3) 0).toNat:Int)-48),0)
def padN (a:Nat):Nat:=(8-a%8)%8
def endD (s:List UInt8) (a:Int) (v:BitVec 32):Int×Int:=
 if aO s.length (a+48) 32≠0 then(0,aO s.length (a+48) 32)
 else if aE s (a+48) 32≠v.toNat then(0,7)
 else if aE s (a+80) (padN (a+80).toNat)≠0 then(0,3)
 else(a+80+(padN (a+80).toNat:Int),0)
def strF (s:List UInt8) (r:Int):Nat->Int->List Prt->List Prt×Int×Int
 |0,a,acc=>(acc,a,2)
 |f+1,a,acc=>
  if aO s.length a 48≠0 then(acc,a,aO s.length a 48)
  else if aE s a 48=0x177245385090 then(acc,(endD s a (sumsP acc)).1,(endD s a (sumsP acc)).2)
  else if aE s a 48≠0x314159265359 then(acc,a,3)
  else if(cL s a r).2.2.2≠0 then(acc,a,(cL s a r).2.2.2)
  else strF s r f (cL s a r).2.2.1 (acc++[⟨(cL s a r).1,(cL s a r).2.1,a,(cL s a r).2.2.1,r⟩])
def strD (s:List UInt8) (a:Int):List Prt×Int×Int:=
 if(roomL s (a/8).toNat).2≠0 then([],a,(roomL s (a/8).toNat).2)
 else strF s (roomL s (a/8).toNat).1 (8*s.length+1) (a+32) []
def arcF (s:List UInt8):Nat->Int->List Prt->List Prt×Int
 |0,_,acc=>(acc,2)
 |f+1,a,acc=>
  if 8*(s.length:Int)<=a then(acc,0)
  else if(strD s a).2.2≠0 then(acc++(strD s a).1,(strD s a).2.2)
  else arcF s f (strD s a).2.1 (acc++(strD s a).1)
def arcD (s:List UInt8):List Prt×Int:=if s=[] then([],3) else arcF s (8*s.length+1) 0 []
def okT (r:Int) (t:ByteArray):Prop:=0<t.size/\fS (mkS (bC t.data.toList))/\((bC t.data.toList).length:Int)<=r
noncomputable def bodyW (l:List ByteArray):List Bool:=(l.map cB).flatten
def sumW (l:List ByteArray):BitVec 32:=allB (l.map (fun t=>fG t.data.toList))
def headW (n:Nat):List UInt8:=[80,77,107,UInt8.ofNat (48+n)]
noncomputable def strW (n:Nat) (l:List ByteArray):List Bool:=kW (headW n)++(bodyW l++(aY 0x177245385090 48++aY (sumW l).toNat 32))
def padW (l:List Bool):List Bool:=l++List.replicate (padN l.length) false
noncomputable def arcW (l:List (Nat×List ByteArray)):List Bool:=(l.map (fun p=>padW (strW p.1 p.2))).flatten
noncomputable def posW (r:Int):Nat->List ByteArray->List Prt
 |_,[]=>[]
 |a,t::l=>⟨t,((fG t.data.toList).toNat:Int),(a:Int),((a+(cB t).length:Nat):Int),r⟩::posW r (a+(cB t).length) l
noncomputable def arcP:Nat->List (Nat×List ByteArray)->List Prt
 |_,[]=>[]
 |a,p::q=>posW (40*(p.1:Int)) (a+32) p.2++arcP (a+(padW (strW p.1 p.2)).length) q
theorem padN_lt (a:Nat):padN a<8:=Nat.mod_lt _ (by decide)
theorem padN_up (a:Nat):(a+padN a)%8=0:=by unfold padN;omega
theorem padW_length (l:List Bool):(padW l).length=l.length+padN l.length:=by unfold padW;simp
theorem numL_zero (n:Nat):aY 0 n=List.replicate n false:=by
 apply List.ext_getElem?;intro i
 by_cases h:i<n
 ·rw[ID 0 n i h,List.getElem?_replicate,if_pos h];simp
 ·rw[List.getElem?_eq_none (by rw[cY];omega),List.getElem?_eq_none (by simp;omega)]
theorem getD_some {l:List Bool} {i:Nat} {b:Bool} (h:l[i]? =some b):l.getD i false=b:=by rw[List.getD_eq_getElem?_getD,h];rfl
theorem packL_padW (l:List Bool):aD (padW l)=aD l:=by
 have hp:=padN_up l.length;have hp2:=padN_lt l.length;refine OU ?_ (fun i _=>?_)
 ·rw[gY,gY,padW_length];omega
 ·rw[sO,sO];unfold padW;rw[List.getD_eq_getElem?_getD,List.getD_eq_getElem?_getD,List.getElem?_append];split
  ·rfl
  ·next h=>
   rw[List.getElem?_replicate,List.getElem?_eq_none (by omega)];split<;>rfl
theorem packL_join {x y:List Bool} (h:x.length%8=0):aD (x++y)=aD x++aD y:=by
 refine OU ?_ (fun i _=>?_)
 ·rw[List.length_append,gY,gY,gY,List.length_append];omega
 ·rw[OW,sO,sO,sO,gY];rw[List.getD_eq_getElem?_getD,List.getD_eq_getElem?_getD,List.getD_eq_getElem?_getD,List.getElem?_append];have e:8*((x.length+7)/8)=x.length:=by omega
  rw[e];split
  ·rfl
  ·rfl
theorem bitAt_drop (s:List UInt8) (k i:Nat):dI (s.drop k) i=dI s (8*k+i):=by
 unfold dI;rw[List.getD_eq_getElem?_getD,List.getD_eq_getElem?_getD,List.getElem?_drop,show(8*k+i)/8=k+i/8 by omega,show(8*k+i)%8=i%8 by omega]
theorem bitAt_take {s:List UInt8} {n i:Nat} (h:i<8*n):dI (s.take n) i=dI s i:=by
 unfold dI;rw[List.getD_eq_getElem?_getD,List.getD_eq_getElem?_getD,List.getElem?_take,if_pos (by omega)]
theorem stands_bytes {s h:List UInt8} {k:Nat} (hs:fH s (8*k) (kW h)):(s.drop k).take h.length=h:=by
 have h1:=hs.1;rw[xZ] at h1;have hl:((s.drop k).take h.length).length=h.length:=by rw[List.length_take,List.length_drop];omega
 refine OU hl (fun i hi=>?_);rw[hl] at hi;rw[bitAt_take hi,bitAt_drop,MD hs (by rw[xZ];exact hi),List.getD_eq_getElem?_getD,sP,if_pos hi];rfl
theorem room_back {s:List UInt8} {k n:Nat} (h1:1<=n) (h9:n<=9) (hs:fH s (8*k) (kW (headW n))):roomL s k=(40*(n:Int),0):=by
 have hb:=stands_bytes hs;have hl:=hs.1;rw[xZ] at hl;have hl4:(headW n).length=4:=rfl;rw[hl4] at hl hb;have e3:(s.drop k).take 3=[80,77,107]:=by
  have:((s.drop k).take 4).take 3=(headW n).take 3:=by rw[hb]
  rw[List.take_take] at this;exact this
 have eb:(s.getD (k+3) 0).toNat=48+n:=by
  have:((s.drop k).take 4)[3]? =(headW n)[3]? :=by rw[hb]
  rw[List.getElem?_take,if_pos (by decide),List.getElem?_drop] at this;rw[List.getD_eq_getElem?_getD,this];show(UInt8.ofNat (48+n)).toNat=_;rw[UInt8.toNat_ofNat'];omega
 unfold roomL;rw[if_neg (by omega),if_neg (by rintro(h|h|h)<;>first|exact h e3|omega),eb]
 congr 1
 omega
theorem blkT_head (t:ByteArray):∃R,cB t=aY 0x314159265359 48++R:=by
 unfold cB oB yV;simp only[List.append_assoc];exact⟨_,rfl⟩
theorem blkT_pos (t:ByteArray):48<=(cB t).length:=by
 obtain⟨R,hR⟩:=blkT_head t;rw[hR,List.length_append,cY];omega
theorem ofInt_crc (v:BitVec 32):BitVec.ofInt 32 ((v.toNat:Nat):Int)=v:=by
 rw[BitVec.ofInt_natCast,BitVec.ofNat_toNat];simp
theorem sumsP_pos (r:Int):∀(l:List ByteArray) (a:Nat),(posW r a l).map (fun p=>BitVec.ofInt 32 p.y)=l.map (fun t=>fG t.data.toList)
 |[],_=>rfl
 |t::l,a=>by
  show BitVec.ofInt 32 (((fG t.data.toList).toNat:Nat):Int)::_=_;rw[ofInt_crc,sumsP_pos r l];rfl
theorem strF_back {s:List UInt8} {r:Int} (hr:r<=360) {v:Nat}:∀(l:List ByteArray) (f a:Nat) (acc:List Prt),(∀t∈l,okT r t)->l.length<f->
  fH s a (bodyW l++(aY 0x177245385090 48++(aY v 32++List.replicate (padN (a+(bodyW l).length+80)) false)))->v=(sumsP (acc++posW r a l)).toNat->
  strF s r f (a:Int) acc=(acc++posW r a l,((a+(bodyW l).length+80+padN (a+(bodyW l).length+80):Nat):Int),0)
 |[],0,_,_,_,hf,_,_=>absurd hf (by simp)
 |[],f+1,a,acc,_,_,h,hv=>by
  have hb:bodyW []=[]:=rfl;rw[hb] at h ⊢;simp only[List.nil_append,List.length_nil,Nat.add_zero] at h ⊢;obtain⟨h1,h2⟩:=jN h;rw[cY] at h2;obtain⟨h3,h4⟩:=jN h2;rw[cY] at h4;have g1:=uX h1 (by decide);have hvb:v<2^32:=by rw[hv];exact(sumsP (acc++posW r a [])).isLt
  have g2:=uX h3 hvb;rw[<-numL_zero] at h4;have g3:=uX h4 (Nat.pow_pos (by decide));rw[show a+48+32=a+80 by omega] at g3;have e1:((a+48:Nat):Int)=(a:Int)+48:=by push_cast;rfl
  have e2:((a+80:Nat):Int)=(a:Int)+80:=by push_cast;rfl
  rw[e1] at g2;rw[e2] at g3;have e3:((a:Int)+80).toNat=a+80:=by omega
  have hp:posW r a []=[]:=rfl;rw[hp,List.append_nil] at hv ⊢;unfold strF;rw[if_neg (fun k=>k g1.1),if_pos g1.2];unfold endD;rw[if_neg (fun k=>k g2.1),if_neg (fun k=>k (by rw[g2.2,hv])),e3,if_neg (fun k=>k g3.2)];simp
 |t::l,0,_,_,_,hf,_,_=>absurd hf (by simp)
 |t::l,f+1,a,acc,ho,hf,h,hv=>by
  have hb:bodyW (t::l)=cB t++bodyW l:=rfl;rw[hb,List.append_assoc] at h;obtain⟨h1,h2⟩:=jN h;obtain⟨R,hR⟩:=blkT_head t;have h1':=h1;rw[hR] at h1';have g1:=uX (jN h1').1 (by decide);obtain⟨o1,o2,o3⟩:=ho t (List.mem_cons_self ..);have hbk:=EI o1 o2 o3 hr h1;have hlen:a+(cB t++bodyW l).length=a+(cB t).length+(bodyW l).length:=by rw[List.length_append];omega
  rw[hlen] at h2;have ih:=strF_back hr l f (a+(cB t).length) (acc++[⟨t,((fG t.data.toList).toNat:Int),(a:Int),((a+(cB t).length:Nat):Int),r⟩]) (fun x hx=>ho x (List.mem_cons_of_mem _ hx)) (by simp at hf;omega) h2 (by rw[hv,List.append_assoc];rfl);unfold strF;rw[if_neg (fun k=>k g1.1),if_neg (by rw[g1.2];decide),if_neg (fun k=>k g1.2),hbk];simp only
  rw[if_neg (fun k=>k rfl),ih,hb,hlen,List.append_assoc];rfl
theorem strW_length (n:Nat) (l:List ByteArray):(strW n l).length=32+(bodyW l).length+80:=by
 unfold strW;simp only[List.length_append,cY,xZ];show 8*4+_=_;omega
theorem bodyW_length:∀l:List ByteArray,l.length<=(bodyW l).length
 |[]=>Nat.le_refl _
 |t::l=>by
  have:=bodyW_length l;have:=blkT_pos t;show l.length+1<=(cB t++bodyW l).length;rw[List.length_append];omega
theorem strD_back {s:List UInt8} {k n:Nat} {l:List ByteArray} (h1:1<=n) (h9:n<=9) (ho:∀t∈l,okT (40*(n:Int)) t) (h:fH s (8*k) (padW (strW n l))):
  strD s ((8*k:Nat):Int)=(posW (40*(n:Int)) (8*k+32) l,((8*k+(padW (strW n l)).length:Nat):Int),0):=by
 have hsl:=h.1;have hlen:=strW_length n l;have hpl:=padW_length (strW n l);have hbl:=bodyW_length l;unfold padW at h;have hsp:strW n l++List.replicate (padN (strW n l).length) false=kW (headW n)++(bodyW l++(aY 0x177245385090 48++(aY (sumW l).toNat 32++List.replicate (padN (strW n l).length) false))):=by
  unfold strW;simp only[List.append_assoc]
 rw[hsp] at h;obtain⟨a1,a2⟩:=jN h;rw[xZ,show(headW n).length=4 from rfl] at a2;have hrm:=room_back h1 h9 a1;have hk:(((8*k:Nat):Int)/8).toNat=k:=by omega
 unfold strD;rw[hk,hrm,if_neg (fun k=>k rfl)];have ep:padN (strW n l).length=padN (8*k+8*4+(bodyW l).length+80):=by rw[hlen];unfold padN;omega
 rw[ep] at a2 hpl;have hb:=strF_back (s:=s) (r:=40*(n:Int)) (by omega) l (8*s.length+1) (8*k+8*4) [] ho (by omega) a2 (by rw[List.nil_append];unfold sumsP sumW;rw[sumsP_pos]);have e32:((8*k:Nat):Int)+32=((8*k+8*4:Nat):Int):=by omega
 rw[e32,hb];simp only[List.nil_append];rw[hpl,hlen]
 congr 3
 omega
theorem arcF_back {s:List UInt8}:∀(l:List (Nat×List ByteArray)) (f k:Nat) (acc:List Prt),(∀p∈l,1<=p.1/\p.1<=9/\∀t∈p.2,okT (40*(p.1:Int)) t)->l.length<f->fH s (8*k) (arcW l)->8*k+(arcW l).length=8*s.length->
  arcF s f ((8*k:Nat):Int) acc=(acc++arcP (8*k) l,0)
 |[],0,_,_,_,hf,_,_=>absurd hf (by simp)
 |[],f+1,k,acc,_,_,_,he=>by
  have:(arcW []).length=0:=rfl;unfold arcF;rw[if_pos (by omega)];show(acc,(0:Int))=(acc++[],0);rw[List.append_nil]
 |p::l,0,_,_,_,hf,_,_=>absurd hf (by simp)
 |p::l,f+1,k,acc,ho,hf,h,he=>by
  have hw:arcW (p::l)=padW (strW p.1 p.2)++arcW l:=rfl;rw[hw] at h he;rw[List.length_append] at he;obtain⟨h1,h2⟩:=jN h;obtain⟨o1,o2,o3⟩:=ho p (List.mem_cons_self ..);have hs:=strD_back o1 o2 o3 h1;have hpl:=padW_length (strW p.1 p.2);have hup:=padN_up (strW p.1 p.2).length;have hsl:=strW_length p.1 p.2;obtain⟨m,hm⟩:∃m,(padW (strW p.1 p.2)).length=8*m:=⟨(padW (strW p.1 p.2)).length/8,by omega⟩;have e:8*k+(padW (strW p.1 p.2)).length=8*(k+m):=by omega
  rw[e] at h2 hs;have ih:=arcF_back l f (k+m) (acc++posW (40*(p.1:Int)) (8*k+32) p.2) (fun x hx=>ho x (List.mem_cons_of_mem _ hx)) (by simp at hf;omega) h2 (by omega);unfold arcF;rw[if_neg (by omega),hs];simp only
  rw[if_neg (fun k=>k rfl),ih,List.append_assoc];show _=(acc++(posW (40*(p.1:Int)) (8*k+32) p.2++arcP (8*k+(padW (strW p.1 p.2)).length) l),(0:Int));rw[e]
theorem arcW_length (l:List (Nat×List ByteArray)):(arcW l).length%8=0/\l.length<=(arcW l).length:=by
 induction l with
 |nil=>exact⟨rfl,Nat.le_refl _⟩
 |cons p l ih=>
  have hw:arcW (p::l)=padW (strW p.1 p.2)++arcW l:=rfl;have hpl:=padW_length (strW p.1 p.2);have hup:=padN_up (strW p.1 p.2).length;have hsl:=strW_length p.1 p.2;rw[hw,List.length_append,List.length_cons];omega
theorem arcD_back {l:List (Nat×List ByteArray)} (hl:l≠[]) (ho:∀p∈l,1<=p.1/\p.1<=9/\∀t∈p.2,okT (40*(p.1:Int)) t):arcD (aD (arcW l))=(arcP 0 l,0):=by
 obtain⟨h8,hlen⟩:=arcW_length l;have hpl:=gY (arcW l);have hl0:=List.length_pos_iff.2 hl;have hne:aD (arcW l)≠[]:=fun e=>by rw[e] at hpl;simp at hpl;omega
 unfold arcD;rw[if_neg hne];have:=arcF_back (s:=aD (arcW l)) l (8*(aD (arcW l)).length+1) 0 [] ho (by omega) (zP _) (by omega);rw[List.nil_append] at this;exact this
theorem arcW_one (n:Nat) (l:List ByteArray):arcW [(n,l)]=padW (strW n l):=by
 unfold arcW;rw[List.map_cons,List.map_nil,List.flatten_cons,List.flatten_nil,List.append_nil]
theorem arc_one (n:Nat) (l:List ByteArray):aD (strW n l)=aD (arcW [(n,l)]):=by
 rw[arcW_one,packL_padW]
theorem arcW_append (x y:List (Nat×List ByteArray)):arcW (x++y)=arcW x++arcW y:=by unfold arcW;simp
theorem arc_join (x y:List (Nat×List ByteArray)):aD (arcW x)++aD (arcW y)=aD (arcW (x++y)):=by
 rw[arcW_append,packL_join (arcW_length x).1]
end Go.Proofs.YtpgmbhpbgkljdaaGreatDoor
