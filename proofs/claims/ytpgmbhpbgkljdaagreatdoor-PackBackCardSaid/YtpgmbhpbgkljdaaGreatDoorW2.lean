/-
  Texts put together (W2): walks and plain laws on which the statement stands.
-/
import Derived.Test.YtpgmbhpbgkljdaaGreatDoorW1
import Derived.Test.YtpgmbhpbgkljdaaGreatDoorZ17
set_option maxRecDepth 100000
set_option maxHeartbeats 12800000
set_option linter.unusedVariables false
set_option linter.unusedSimpArgs false
namespace Go.Proofs.YtpgmbhpbgkljdaaGreatDoor
section
open Go.RowKit Go Go.Shelf
theorem nat_w64 (d:Nat) (h:d<=9223372036854775807):wrap64 (d:Int)=(d:Int):=IZ (by omega) (by omega)
theorem u32_shr31 (a:BitVec 32):(a.toNat:Int)/2147483648=((a>>>31).toNat:Int):=by
 rw[BitVec.toNat_ushiftRight,Nat.shiftRight_eq_div_pow];omega
theorem u32_orV (a b:BitVec 32):bits .or .u32 (a.toNat:Int) (b.toNat:Int)=((a|||b).toNat:Int):=by
 rw[u32_or_nat _ _ a.isLt b.isLt,BitVec.toNat_or]
theorem fold_any (x b:BitVec 32) (w:World):
  Calls Tryz.prog 53 #[.int .u32 (x.toNat:Int),.int .u32 (b.toNat:Int)] w fun e w'=>e=.returned (.int .u32 ((foldB x b).toNat:Int))/\w'=w:=by
 have e1:=WC x;have e2:=u32_shr31 x;obtain⟨y,hy⟩:∃y,y=x<<<1:=⟨_,rfl⟩;obtain⟨z,hz⟩:∃z,z=x>>>31:=⟨_,rfl⟩;have e3:=u32_orV y z;obtain⟨q,hq⟩:∃q,q=y|||z:=⟨_,rfl⟩;have e4:=DW q b;obtain⟨r,hr⟩:∃r,r=q^^^b:=⟨_,rfl⟩;have HF:=hid (show((r.toNat:Nat):Int)=((foldB x b).toNat:Int) by rw[hr,hq,hy,hz];rfl);rw[<-hy] at e1;rw[<-hz] at e2;rw[<-hq] at e3;rw[<-hr] at e4;clear hy hz hq hr;obtain⟨X,hX⟩:∃X,X=x.toNat:=⟨_,rfl⟩;obtain⟨Y,hY⟩:∃Y,Y=y.toNat:=⟨_,rfl⟩;obtain⟨Z,hZ⟩:∃Z,Z=z.toNat:=⟨_,rfl⟩;obtain⟨Q,hQ⟩:∃Q,Q=q.toNat:=⟨_,rfl⟩;obtain⟨B,hB⟩:∃B,B=b.toNat:=⟨_,rfl⟩;obtain⟨R,hR⟩:∃R,R=r.toNat:=⟨_,rfl⟩;rw[<-hX,<-hY] at e1
 rw[<-hX,<-hZ] at e2;rw[<-hY,<-hZ,<-hQ] at e3;rw[<-hQ,<-hB,<-hR] at e4;rw[<-hR] at HF;rw[<-hX,<-hB];have e1':(X:Int)*2%4294967296=(Y:Int):=by rw[<-e1,IntKind.wrap_u32]
 have e2':(X:Int)/2147483648=(Z:Int):=by omega
 clear e2;clear hX hY hZ hQ hB hR;go_enter Tryz.func53,Tryz.ntmps53;go_wp2_with fail;go_ret;exact⟨fX HF.out,rfl⟩
def sumV (l:List (BitVec 32)):List Value:=l.map (fun b=>Value.int .u32 (b.toNat:Int))
def RdS (w:World) (v:Value) (l:List (BitVec 32)):Prop:=Rd w v l.length (sumV l)
def OwS (w:World) (B:Nat) (v:Value) (l:List (BitVec 32)):Prop:=Ow w B 34 v (sumV l)
theorem sumV_length (l:List (BitVec 32)):(sumV l).length=l.length:=List.length_map ..
theorem OwS.rd {w:World} {B:Nat} {v:Value} {l:List (BitVec 32)} (h:OwS w B v l):RdS w v l:=by
 unfold RdS;have:=Ow.rd h;rwa[sumV_length] at this
theorem RdS.below {w w':World} {v:Value} {l:List (BitVec 32)} (h:RdS w v l) (hb:Below w.heap.size w w'):RdS w' v l:=Rd.below h hb
theorem RdS.open {w:World} {v:Value} {l:List (BitVec 32)} (h:RdS w v l):
  ∃a cap,v=.slice a l.length cap/\l.length<=cap/\cap<=maxLen/\
   (0<l.length->∃b off,a=some ⟨b,off,none⟩/\b<w.heap.size/\∀j x,l[j]? =some x->w.cell? ⟨b,off+j,none⟩=some (.int .u32 (x.toNat:Int))):=by
 obtain⟨a,cap,rfl,h1,h2,h3⟩:=h;refine⟨a,cap,rfl,h1,h2,fun hne=>?_⟩;rcases h3 with h3|⟨b,off,rfl,hlt,hc⟩
 ·have:=congrArg List.length h3;rw[sumV_length,List.length_nil] at this;omega
 ·refine⟨b,off,rfl,hlt,fun j x hx=>?_⟩;have hj:=(List.getElem?_eq_some_iff.1 hx).1;have e:(sumV l)[j]? =some (.int .u32 (x.toNat:Int)):=by unfold sumV;rw[List.getElem?_map,hx];rfl
  rw[hc j (by rw[sumV_length];exact hj),List.getD_eq_getElem?_getD,e];rfl
theorem allB_take {l:List (BitVec 32)} {k:Nat} {x:BitVec 32} (h:l[k]? =some x):allB (l.take (k+1))=foldB (allB (l.take k)) x:=by
 unfold allB;rw[List.take_add_one,h];show List.foldl foldB 0#32 (l.take k++[x])=_;rw[List.foldl_append];rfl
theorem all_any (v:Value) (l:List (BitVec 32)) (w:World) (hr:RdS w v l):
  Calls Tryz.prog 26 #[v] w fun e w'=>e=.returned (.int .u32 ((allB l).toNat:Int))/\w'=w:=by
 obtain⟨a,ca,rfl,hca,hma,hA⟩:=hr.open;unfold maxLen at hma;clear hr;obtain⟨Z,hZ⟩:∃Z,Z=(allB (l.take 0)).toNat:=⟨_,rfl⟩;have hz0:(Z:Int)=0:=by rw[hZ];rfl
 go_enter Tryz.func26,Tryz.ntmps26;go_wp2_with fail
 go_loopg [2,4,7] l.length (fun g s2 _s4 s7 wr=>∃k X:Nat,k<=l.length/\g=l.length-k/\s7=.int .i64 (k:Int)/\s2=.int .u32 (X:Int)/\Hid (X=(allB (l.take k)).toNat)/\wr=w)
 case atStart=>exact⟨0,Z,Nat.zero_le _,rfl,rfl,by rw[hz0],hid hZ,rfl⟩
 case round=>
  obtain⟨k,X,hk,hg,rfl,rfl,HX,rfl⟩:=hrel;have HG:=hid hg;clear hg hz0 hZ
  by_cases hlt:k<l.length
  ·have t1:decide ((k:Int)<(l.length:Int))=true:=decide_eq_true (by omega);obtain⟨b,off,rfl,hb,hc⟩:=hA (by omega);obtain⟨x,hx⟩:∃x,l[k]? =some x:=⟨_,List.getElem?_eq_getElem hlt⟩;have c1:=hc k x hx;have hcall:=fold_any (allB (l.take k)) x wr;rw[<-allB_take hx,<-HX.out] at hcall;obtain⟨Y,hY⟩:∃Y,Y=(allB (l.take (k+1))).toNat:=⟨_,rfl⟩;obtain⟨x',hx'⟩:∃x',x'=x.toNat:=⟨_,rfl⟩;rw[<-hY,<-hx'] at hcall;rw[<-hx'] at c1;have HY:=hid hY;clear hY hx' hx hc hA;go_wp2_with fail;refine hcall.mono ?_;rintro e w2 ⟨rfl,rfl⟩;go_wp2_with fail;have hg:=HG.out
   go_roundg (l.length-(k+1))
   case measure=>omega
   case rel=>exact⟨k+1,Y,by omega,rfl,by go_num,rfl,HY,rfl⟩
  ·have t1:decide ((k:Int)<(l.length:Int))=false:=decide_eq_false (by omega);have HF:=hid (show((X:Nat):Int)=((allB l).toNat:Int) by rw[HX.out,List.take_of_length_le (by omega)]);go_wp2_with fail;go_ret;exact⟨fX HF.out,rfl⟩
theorem room_num (x:Nat) (h1:49<=x) (h2:x<=57):∃d q:Nat,IntKind.u8.wrap ((x:Int)-48)=(d:Int)/\(x:Int)-48=(d:Int)/\IntKind.i64.wrap (d:Int)=(d:Int)/\wrap64 (d:Int)=(d:Int)/\IntKind.i64.wrap (40*(d:Int))=(q:Int)/\40*(d:Int)=(q:Int)/\(q:Int)=40*((x:Int)-48):=
 ⟨x-48,40*(x-48),by rw[IntKind.wrap_u8];omega,by omega,by rw[IntKind.wrap_i64];omega,nat_w64 _ (by omega),by rw[IntKind.wrap_i64];omega,by omega,by omega⟩
theorem prefix_any (s:ByteArray) (w:World) (hs:4<=s.size):
  Calls Tryz.prog 156 #[.string s,.string ⟨#[80,77,107]⟩] w fun e w'=>e=.returned (.bool ((s.extract 0 3).toList==[80,77,107]))/\w'=w:=by
 have t1:decide ((s.size:Int)>=3)=true:=decide_eq_true (by omega);have t2:decide ((3:Int)<=(s.size:Int))=true:=decide_eq_true (by omega);have q1:(3:Int)<=(s.size:Int):=by omega
 go_enter Tryz.func156,Tryz.ntmps156;go_wp2_with fail;go_enter Tryz.func169,Tryz.ntmps169;go_wp2_with fail;go_ret;exact⟨rfl,rfl⟩
theorem room_any (s:ByteArray) (k:Nat) (w:World) (hk:k<=s.size) (hs:s.size<=1000000):
  Calls Tryz.prog 139 #[.string s,.int .i64 (k:Int)] w fun e w'=>e=.returned (.tuple #[.int .i64 (roomL s.data.toList k).1,.int .i64 (roomL s.data.toList k).2])/\w'=w:=by
 have HL:=hid (show s.data.toList.length=s.size by simp);obtain⟨T,hT⟩:∃T,T=s.extract k s.size:=⟨_,rfl⟩;have hd:T.data.toList=s.data.toList.drop k:=by
  rw[hT,nT,fW,List.take_of_length_le (by rw[List.length_drop,HL.out];omega)]
 have hTs:T.size=s.size-k:=by
  have:T.data.toList.length=T.size:=by simp
  rw[<-this,hd,List.length_drop,HL.out]
 have q1:(k:Int)<=(s.size:Int):=by omega
 have hT':s.extract k s.size=T:=hT.symm;clear hT
 by_cases h4:T.size<4
 ·have hr:roomL s.data.toList k=(0,2):=by unfold roomL;rw[if_pos (by rw[HL.out];omega)]
  have t1:decide ((T.size:Int)<4)=true:=decide_eq_true (by omega);rw[hr];clear hr hd;go_enter Tryz.func139,Tryz.ntmps139;go_wp2_with fail
  go_ret2
  exact⟨rfl,rfl⟩
 have t1:decide ((T.size:Int)<4)=false:=decide_eq_false (by omega);have h3:3<T.size:=by omega
 have hpre:=fun W=>prefix_any T W (by omega)
 have e3:=eW T 3 h3;have hb3:(s.data.toList.getD (k+3) 0).toNat=T[3].toNat:=by
  rw[hd,List.getElem?_drop] at e3;rw[List.getD_eq_getElem?_getD,e3];rfl
 have hp3:(s.data.toList.drop k).take 3=(T.extract 0 3).toList:=by
  rw[Lib.toList_data,nT,fW,hd,List.drop_zero]
 have hr:roomL s.data.toList k=if(T.extract 0 3).toList≠[80,77,107]\/T[3].toNat<49\/57<T[3].toNat then((0:Int),(3:Int)) else((40:Int)*((T[3].toNat:Int)-48),(0:Int)):=by
  unfold roomL;rw[if_neg (by rw[HL.out];omega),hb3,hp3]
 have hbt:=T[3].toNat_lt;clear hd e3 hb3 hp3
 by_cases hp:(T.extract 0 3).toList=[80,77,107]
 rotate_left
 ·have hpf:((T.extract 0 3).toList==[80,77,107])=false:=by rw[beq_eq_false_iff_ne];exact hp
  rw[if_pos (.inl hp)] at hr;rw[hr];rw[hpf] at hpre;clear hr hp hpf;go_enter Tryz.func139,Tryz.ntmps139;go_wp2_with fail;refine(hpre _).mono ?_;rintro e w' ⟨rfl,rfl⟩;go_wp2_with fail
  go_ret2
  exact⟨rfl,rfl⟩
 have hpt:((T.extract 0 3).toList==[80,77,107])=true:=by rw[beq_iff_eq];exact hp
 rw[hpt] at hpre
 by_cases hlo:T[3].toNat<49
 ·have u1:decide ((T[3].toNat:Int)<49)=true:=decide_eq_true (by omega);rw[if_pos (.inr (.inl hlo))] at hr;rw[hr];clear hr hp hpt;go_enter Tryz.func139,Tryz.ntmps139;go_wp2_with fail;refine(hpre _).mono ?_;rintro e w' ⟨rfl,rfl⟩;go_wp2_with fail
  go_ret2
  exact⟨rfl,rfl⟩
 have u1:decide ((T[3].toNat:Int)<49)=false:=decide_eq_false (by omega)
 by_cases hhi:57<T[3].toNat
 ·have u2:decide ((T[3].toNat:Int)>57)=true:=decide_eq_true (by omega);have u3:decide (57<(T[3].toNat:Int))=true:=decide_eq_true (by omega);rw[if_pos (.inr (.inr hhi))] at hr;rw[hr];clear hr hp hpt;go_enter Tryz.func139,Tryz.ntmps139;go_wp2_with fail;refine(hpre _).mono ?_;rintro e w' ⟨rfl,rfl⟩;go_wp2_with fail
  go_ret2
  exact⟨rfl,rfl⟩
 have u2:decide ((T[3].toNat:Int)>57)=false:=decide_eq_false (by omega);have u3:decide (57<(T[3].toNat:Int))=false:=decide_eq_false (by omega);rw[if_neg (by rintro(q|q|q)<;>first|exact q hp|omega)] at hr;obtain⟨d,q,m1,m2,m3,m3',m4,m5,m6⟩:=room_num T[3].toNat (by omega) (by omega);have HR:=hid (show((q:Nat):Int)=(roomL s.data.toList k).1/\(0:Int)=(roomL s.data.toList k).2 by rw[hr];exact⟨m6,rfl⟩);rw[<-HR.out.1,<-HR.out.2];clear hr hp hpt hlo hhi m6;go_enter Tryz.func139,Tryz.ntmps139;go_wp2_with fail;refine(hpre _).mono ?_;rintro e w' ⟨rfl,rfl⟩;go_wp2_with fail
 go_ret2
 exact⟨rfl,rfl⟩
end
section
open Go.RowKit Go Go.Shelf
def SRd (w:World) (b:Nat) (s:ByteArray) (a:Int) (v:Value):Prop:=Arr w b 190 [.string s,.int .i64 a,v]
theorem Ow.box {w w':World} {B b e:Nat} {v:Value} {xs:List Value} (h:Ow w B e v xs) (hg:w.grownBy w' (some b)) (hb:b<B):Ow w' B e v xs:=
 h.kept hg (by
  cases hv:v.ownBlock with
  |none=>exact .inl rfl
  |some k=>exact .inr (fun q=>by injection q with q;have:=(h.lt k hv).1;omega))
theorem nat_wI (d:Nat) (h:d<=9223372036854775807):IntKind.i64.wrap (d:Int)=(d:Int):=by rw[IntKind.wrap_i64];omega
theorem u32_nat (V:Nat) (h:V<4294967296):IntKind.u32.wrap (V:Int)=(V:Int):=by rw[IntKind.wrap_u32];omega
theorem u32_natM (V:Nat) (h:V<4294967296):(V:Int)%4294967296=(V:Int):=by omega
theorem end_num (a:Nat) (ha:a<=90000000):∃A r8 q pd F:Nat,A=a+80/\padN ((a:Int)+80).toNat=pd/\pd<=7/\F=A+pd/\(A:Int)+(padN (A:Int).toNat:Int)=(F:Int)/\IntKind.i64.wrap ((a:Int)+48)=(a:Int)+48/\IntKind.i64.wrap ((a:Int)+80)=(A:Int)/\(a:Int)+80=(A:Int)/\
  (A:Int).tmod 8=(r8:Int)/\IntKind.i64.wrap (8-(r8:Int))=(q:Int)/\8-(r8:Int)=(q:Int)/\(q:Int).tmod 8=(pd:Int)/\IntKind.i64.wrap ((A:Int)+(pd:Int))=(F:Int)/\(A:Int)+(pd:Int)=(F:Int)/\IntKind.i64.wrap (F:Int)=(F:Int)/\wrap64 (F:Int)=(F:Int):=by
 obtain⟨A,hA⟩:∃A,A=a+80:=⟨_,rfl⟩;obtain⟨r8,hr8⟩:∃r8,r8=A%8:=⟨_,rfl⟩;obtain⟨q,hq⟩:∃q,q=8-r8:=⟨_,rfl⟩;obtain⟨pd,hpd⟩:∃pd,pd=q%8:=⟨_,rfl⟩;obtain⟨F,hF⟩:∃F,F=A+pd:=⟨_,rfl⟩;have hr:r8<8:=by rw[hr8];exact Nat.mod_lt _ (by decide)
 have hp:pd<8:=by rw[hpd];exact Nat.mod_lt _ (by decide)
 have e1:(a:Int)+80=(A:Int):=by omega
 have e2:8-(r8:Int)=(q:Int):=by omega
 have e3:(A:Int)+(pd:Int)=(F:Int):=by omega
 have hFb:F<=9223372036854775807:=by omega
 have hAb:A<=9223372036854775807:=by omega
 have e4:(a:Int)+48=((a+48:Nat):Int):=by push_cast;rfl
 have e5:padN A=pd:=by unfold padN;rw[<-hr8,<-hq,hpd]
 have e6:((a:Int)+80).toNat=A:=by omega
 refine⟨A,r8,q,pd,F,hA,by rw[e6];exact e5,by omega,hF,by rw[Int.toNat_natCast,e5];exact e3,?_,?_,e1,?_,?_,e2,?_,?_,e3,nat_wI F hFb,nat_w64 F hFb⟩
 ·rw[e4];exact nat_wI _ (by omega)
 ·rw[e1];exact nat_wI _ hAb
 ·rw[Int.tmod_eq_emod_of_nonneg (Int.natCast_nonneg _),hr8];rfl
 ·rw[e2];exact nat_wI _ (by omega)
 ·rw[Int.tmod_eq_emod_of_nonneg (Int.natCast_nonneg _),hpd];rfl
 ·rw[e3];exact nat_wI _ hFb
theorem strEnd_any (b B:Nat) (s:ByteArray) (a:Nat) (v:Value) (l:List (BitVec 32)) (w:World) (hA:SRd w b s (a:Int) v) (hr:OwS w B v l) (hbB:b<B) (hs:s.size<=1000000) (ha:a<=90000000):
  Calls Tryz.prog 140 #[.pointer (some ⟨b,0,none⟩)] w fun e w'=>
   e=.returned (.int .i64 (endD s.data.toList (a:Int) (allB l)).2)/\w.grownBy w' (some b)/\∃a':Int,SRd w' b s a' v/\((endD s.data.toList (a:Int) (allB l)).2=0->a'=(endD s.data.toList (a:Int) (allB l)).1):=by
 have HL:=hid (show s.data.toList.length=s.size by simp);obtain⟨A,r8,q,pd,F,hAe,hpn,hpd7,hF,hAF,hrest⟩:=end_num a ha;have HR:=hid hrest;clear hrest;have hAI:(a:Int)+80=(A:Int):=by omega
 have hFI:(A:Int)+(pd:Int)=(F:Int):=by omega
 have hg1:=fun W=>sT s ((a:Int)+48) 32 W hs (by decide) (by omega) (by omega)
 have hg2:=fun W=>sT s (A:Int) pd W hs (by omega) (by omega) (by omega)
 have hpn':padN (A:Int).toNat=pd:=by rw[<-hAI];exact hpn
 have hAF':(A:Int)+(pd:Int)=(F:Int):=hFI;have hv1:=iA s.data.toList ((a:Int)+48) 32;have hd:endD s.data.toList (a:Int) (allB l)=if aO s.size ((a:Int)+48) 32≠0 then(0,aO s.size ((a:Int)+48) 32) else if aE s.data.toList ((a:Int)+48) 32≠(allB l).toNat then(0,7) else if aE s.data.toList (A:Int) pd≠0 then(0,3) else((F:Int),0):=by
  unfold endD;rw[HL.out,hAI,hpn',hAF']
 have hcall:=fun W (h:RdS W v l)=>all_any v l W h
 obtain⟨S,hS⟩:∃S,S=(allB l).toNat:=⟨_,rfl⟩;obtain⟨E,hE⟩:∃E,E=aO s.size ((a:Int)+48) 32:=⟨_,rfl⟩;obtain⟨V,hV⟩:∃V,V=aE s.data.toList ((a:Int)+48) 32:=⟨_,rfl⟩;obtain⟨E2,hE2⟩:∃E2,E2=aO s.size (A:Int) pd:=⟨_,rfl⟩;obtain⟨V2,hV2⟩:∃V2,V2=aE s.data.toList (A:Int) pd:=⟨_,rfl⟩;rw[<-hE,<-hV] at hg1;rw[<-hE2,<-hV2] at hg2;rw[<-hS] at hcall;rw[<-hE,<-hV,<-hV2,<-hS] at hd;rw[<-hV] at hv1;have hv1':V<4294967296:=hv1;obtain⟨m1,m2,m2',m3,m4,m4',m5,m6,m6',-,-⟩:=HR.out;have m7:=u32_nat V hv1';have m7':=u32_natM V hv1';have HD:=hid hd;have c0:=Arr.cell hA (i:=0) rfl;have c1:=Arr.cell hA (i:=1) rfl
 clear hpn' hAF' HR hAI hFI;clear hd hS hE hV hE2 hV2 hv1 hpn hAe hF hAF HL;go_enter Tryz.func140,Tryz.ntmps140;go_wp2_with fail
 go_quiet (first|(go_at_call 25;exact Calls.quiet_of_same (hg1 _)))
 generalize hWn:w.drewN nq=W1 at*
 have hA1:SRd W1 b s (a:Int) v:=by rw[<-hWn];exact hA
 have hr1:OwS W1 B v l:=by rw[<-hWn];exact hr
 have hgr1:w.grownBy W1 (some b):=by rw[<-hWn];exact⟨rfl,rfl,rfl,Nat.le_refl _,fun _ _ _=>rfl⟩
 have d1:=Arr.cell hA1 (i:=1) rfl;have f1:=Arr.free hA1 1;have hA2:SRd (W1.setCell ⟨b,1,none⟩ (.int .i64 (A:Int))) b s (A:Int) v:=Arr.set hA1 1 _;have hr2:OwS (W1.setCell ⟨b,1,none⟩ (.int .i64 (A:Int))) B v l:=Ow.box hr1 (gbS _ _ _ _) hbB;have hgr2:=gbT hgr1 (gbS W1 b 1 (.int .i64 (A:Int)));have e0:=Arr.cell hA2 (i:=0) rfl;have e1:=Arr.cell hA2 (i:=1) rfl;clear hWn hA hr c0 c1 hA1 hr1 hgr1;go_wp2_with fail;generalize W1.setCell ⟨b,1,none⟩ (.int .i64 (A:Int))=W2 at*
 go_quiet (first|(go_at_call 25;exact Calls.quiet_of_same (hg2 _)))
 generalize hWn:W2.drewN nq=W3 at*
 have hA3:SRd W3 b s (A:Int) v:=by rw[<-hWn];exact hA2
 have hr3:OwS W3 B v l:=by rw[<-hWn];exact hr2
 have hgr3:w.grownBy W3 (some b):=by rw[<-hWn];exact⟨hgr2.os,hgr2.tape,hgr2.output,hgr2.size,hgr2.block⟩
 have d3:=Arr.cell hA3 (i:=1) rfl;have f3:=Arr.free hA3 1;have hA4:SRd (W3.setCell ⟨b,1,none⟩ (.int .i64 (F:Int))) b s (F:Int) v:=Arr.set hA3 1 _;have hr4:OwS (W3.setCell ⟨b,1,none⟩ (.int .i64 (F:Int))) B v l:=Ow.box hr3 (gbS _ _ _ _) hbB;have hgr4:=gbT hgr3 (gbS W3 b 1 (.int .i64 (F:Int)));have e2:=Arr.cell hA4 (i:=2) rfl;have hrd:=hr4.rd;have hrt:=hcall _ hrd;clear hWn hA2 hr2 hgr2 e0 e1 d1 f1 hA3 hr3 hgr3 hg1 hg2 hcall
 by_cases h1:E=0
 rotate_left
 ·have t1:(E==0)=false:=by rw[beq_eq_false_iff_ne];exact h1
  have t2:(E != 0)=true:=by rw[bne_iff_ne];exact h1
  have hd:=HD.out;rw[if_pos h1] at hd;have HF:=hid hd;clear hd HD hrt h1;go_wp2_with fail;go_ret;exact⟨fX (by rw[HF.out]),hgr4,_,hA4,fun k=>absurd (by rw[HF.out] at k;exact k) (by simpa using t2)⟩
 subst h1;have hd:=HD.out;rw[if_neg (fun k=>k rfl)] at hd;have HD:=hid hd;clear hd;go_wp2_with fail;refine hrt.mono ?_;rintro e w' ⟨rfl,rfl⟩
 by_cases h2:V=S
 rotate_left
 ·have t1:((V:Int) != (S:Int))=true:=by rw[bne_iff_ne];exact fun q=>h2 (Int.ofNat_inj.1 q)
  have t2:(V != S)=true:=by rw[bne_iff_ne];exact h2
  have hd:=HD.out;rw[if_pos h2] at hd;have HF:=hid hd;clear hd HD h2;go_wp2_with fail;go_ret;exact⟨fX (by rw[HF.out]),hgr4,_,hA4,fun k=>absurd (by rw[HF.out] at k;exact k) (by decide)⟩
 have t1:((V:Int) != (S:Int))=false:=by rw[bne_eq_false_iff_eq,h2]
 have t2:(V != S)=false:=by rw[bne_eq_false_iff_eq];exact h2
 have hd:=HD.out;rw[if_neg (fun k=>k h2)] at hd
 by_cases h3:V2=0
 rotate_left
 ·have t3:((V2:Int) != 0)=true:=by rw[bne_iff_ne];exact fun q=>h3 (Int.ofNat_inj.1 q)
  have t4:(V2 != 0)=true:=by rw[bne_iff_ne];exact h3
  rw[if_pos h3] at hd;have HF:=hid hd;clear hd HD h2 h3;go_wp2_with fail;go_ret;exact⟨fX (by rw[HF.out]),hgr4,_,hA4,fun k=>absurd (by rw[HF.out] at k;exact k) (by decide)⟩
 have t3:((V2:Int) != 0)=false:=by rw[bne_eq_false_iff_eq,h3];rfl
 have t4:(V2 != 0)=false:=by rw[bne_eq_false_iff_eq];exact h3
 rw[if_neg (fun k=>k h3)] at hd;have HF:=hid hd;clear hd HD h2 h3;go_wp2_with fail;go_ret;exact⟨fX (by rw[HF.out]),hgr4,_,hA4,fun _=>by rw[HF.out]⟩
end
end Go.Proofs.YtpgmbhpbgkljdaaGreatDoor
