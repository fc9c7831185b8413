/-
  Texts put together (W4): walks and plain laws on which the statement stands.
-/
import Derived.Test.YtpgmbhpbgkljdaaGreatDoorW2
import Derived.Test.YtpgmbhpbgkljdaaGreatDoorW1
import Derived.Test.YtpgmbhpbgkljdaaGreatDoorZ22
import Derived.Test.YtpgmbhpbgkljdaaGreatDoorZ15
set_option maxRecDepth 100000
set_option maxHeartbeats 12800000
set_option linter.unusedVariables false
set_option linter.unusedSimpArgs false
namespace Go.Proofs.YtpgmbhpbgkljdaaGreatDoor
section
open Go.RowKit Go Go.Shelf
def strV (l:List ByteArray):List Value:=l.map Value.string
def RdT (w:World) (v:Value) (l:List ByteArray):Prop:=Rd w v l.length (strV l)
theorem strV_length (l:List ByteArray):(strV l).length=l.length:=List.length_map ..
theorem RdT.below {w w':World} {v:Value} {l:List ByteArray} (h:RdT w v l) (hb:Below w.heap.size w w'):RdT w' v l:=Rd.below h hb
theorem RdT.open {w:World} {v:Value} {l:List ByteArray} (h:RdT w v l):
  ∃a cap,v=.slice a l.length cap/\l.length<=cap/\cap<=maxLen/\
   (0<l.length->∃b off,a=some ⟨b,off,none⟩/\b<w.heap.size/\∀j x,l[j]? =some x->w.cell? ⟨b,off+j,none⟩=some (.string x)):=by
 obtain⟨a,cap,rfl,h1,h2,h3⟩:=h;refine⟨a,cap,rfl,h1,h2,fun hne=>?_⟩;rcases h3 with h3|⟨b,off,rfl,hlt,hc⟩
 ·have:=congrArg List.length h3;rw[strV_length,List.length_nil] at this;omega
 ·refine⟨b,off,rfl,hlt,fun j x hx=>?_⟩;have hj:=(List.getElem?_eq_some_iff.1 hx).1;have e:(strV l)[j]? =some (.string x):=by unfold strV;rw[List.getElem?_map,hx];rfl
  rw[hc j (by rw[strV_length];exact hj),List.getD_eq_getElem?_getD,e];rfl
theorem gG.lit {w:World} {g B:Nat} {l:List Bool} (h:Arr w g 77 (kH l)) (hB:B<=g):gG w B (.slice (some ⟨g,0,none⟩) 1 1) [l]:=by
 unfold gG;rw[List.flatMap_cons,List.flatMap_nil,List.append_nil];exact⟨rfl,.inr ⟨g,1,(kH l).toArray,rfl,hB,h,Nat.le_refl _,by simp[maxLen],rfl,rfl⟩⟩
theorem own_other {w w':World} {B e size n B' e' size' n':Nat} {v v':Value} {xs xs':List Value} (h:w.ownsRow B e size v n xs) (ho:w.ownsRow B' e' size' v' n' xs') (hg:w.grownBy w' v'.ownBlock) (he:e≠e'):w'.ownsRow B e size v n xs:=by
 refine World.ownsRow.kept h hg ?_;rcases h.2 with⟨rfl,_⟩|⟨g,cap,cur,rfl,_,hgc,_⟩
 ·exact .inl rfl
 ·refine .inr fun q=>?_
  rcases ho.2 with⟨rfl,_⟩|⟨g',cap',cur',rfl,_,hgc',_⟩
  ·cases q
  ·obtain rfl:=Option.some.inj q;rw[hgc] at hgc'
   injection hgc' with hgc'
   injection hgc' with _ q2 _
   exact he q2
theorem elU32:ElT Tryz.prog 44 34 4 (.int .u32 0):=ElT.mk' (by kernel_rfl) Tryz.underlying44 rfl (by decide)
theorem appS {ops:Array Oper} {rest:List Oper} {o:Oper} {a:Act} {Q:Exit->Act->World->Prop} {w:World} (hgd:o.guard=none) (s x:Operand)
  (ho:o.op=.call {callee:=.builtin .append,args:=#[s,x],argTypes:=#[44,44]}) (base:Nat) (v:Value) (l:List (BitVec 32)) (hs:a.eval s=v) (hown:OwS w base v l)
  (g:Nat) (n:BitVec 32) (hx:a.eval x=.slice (some ⟨g,0,none⟩) 1 1) (hc:w.cell? ⟨g,0,none⟩=some (.int .u32 (n.toNat:Int))) (hroom:(l.length+1)*4<=140737488355328) (hbase:base<=w.heap.size)
  (h:∀v' w',OwS w' base v' (l++[n])->Below base w w'->w.grownBy w' v.ownBlock->wpList Tryz.prog ops Q rest (a.put o.dst v') w'):wpList Tryz.prog ops Q (o::rest) a w:=
 rD elU32 hgd s x ho base v _ hs hown g _ hx hc rfl (by simpa [sumV] using hroom) hbase (fun v' w' q1 q2 q3=>h v' w' (by unfold OwS sumV;rw[List.map_append];exact q1) q2 q3)
theorem keepY {w0 w1 w2:World} {z:Nat} (h:Below z w0 w1/\z+1<=w1.heap.size/\∃y0 y1,Arr w1 z 77 [y0,y1]) (hb:Below w1.heap.size w1 w2):Below z w0 w2/\z+1<=w2.heap.size/\∃y0 y1,Arr w2 z 77 [y0,y1]:=by
 obtain⟨h1,h2,y0,y1,h3⟩:=h;exact⟨h1.trans (hb.mono (by omega)),Nat.le_trans h2 hb.size,y0,y1,h3.below hb h3.lt⟩
theorem keepYS {w0 w1:World} {z:Nat} (h:Below z w0 w1/\z+1<=w1.heap.size/\∃y0 y1,Arr w1 z 77 [y0,y1]) (v0 v1:Value) (w2:World) (hw:w2=(w1.setCell ⟨z,0,none⟩ v0).setCell ⟨z,1,none⟩ v1):Below z w0 w2/\z+1<=w2.heap.size/\∃y0 y1,Arr w2 z 77 [y0,y1]:=by
 obtain⟨h1,h2,y0,y1,h3⟩:=h;subst hw;exact⟨(h1.setCell (p:=⟨z,0,none⟩) (Nat.le_refl _) v0).setCell (p:=⟨z,1,none⟩) (Nat.le_refl _) v1,by simpa using h2,v0,v1,(h3.set 0 v0).set 1 v1⟩
def WrRet (w w':World) (n:Int) (l:List ByteArray) (e:Ending):Prop:=
 (wrE n l=0/\e=.returned (.tuple #[.string (mkS (aD (strW n.toNat l))),.int .i64 0])/\(∀t∈l,okT (40*n) t)/\Below w.heap.size w w')\/(wrE n l≠0/\e=.returned (.tuple #[.string ⟨#[]⟩,.int .i64 (wrE n l)])/\Below w.heap.size w w')
theorem write_any (n:Int) (v:Value) (l:List ByteArray) (w:World) (hr:RdT w v l) (hl:l.length<=100000) (hsz:∀t∈l,t.size<=100000) (hn1: -9223372036854775808<=n) (hn2:n<=9223372036854775807) (hb:∀k≤l.length,(∀t∈l.take k,okT (40*n) t)->(bodyW (l.take k)).length<=800000):
  Calls Tryz.prog 17 #[.int .i64 n,v] w fun e w'=>WrRet w w' n l e:=by
 obtain⟨a,ca,rfl,hca,hma,hA⟩:=hr.open;unfold maxLen at hma
 by_cases hn:n<1\/9<n
 ·have hd:wrE n l=1:=by unfold wrE;rw[if_pos hn]
  by_cases h1:n<1
  ·have t1:decide (n<1)=true:=decide_eq_true h1;go_enter Tryz.func17,Tryz.ntmps17;go_wp2_with fail
   go_ret2
   exact .inr ⟨by rw[hd];decide,by rw[hd];rfl,Below.refl _ _⟩
  ·have t1:decide (n<1)=false:=decide_eq_false h1;have t2:decide (n>9)=true:=decide_eq_true (by omega);have t3:decide (9<n)=true:=decide_eq_true (by omega);go_enter Tryz.func17,Tryz.ntmps17;go_wp2_with fail
   go_ret2
   exact .inr ⟨by rw[hd];decide,by rw[hd];rfl,Below.refl _ _⟩
 obtain⟨N,rfl⟩:∃N:Nat,n=(N:Int):=⟨n.toNat,by omega⟩;have t1:decide ((N:Int)<1)=false:=decide_eq_false (by omega);have t2:decide ((N:Int)>9)=false:=decide_eq_false (by omega);have t3:decide (9<(N:Int))=false:=decide_eq_false (by omega);obtain⟨M,hM⟩:∃M,M=40*N:=⟨_,rfl⟩;have hMb:1<=M/\M<=360:=by omega
 have hMI:40*(N:Int)=(M:Int):=by omega
 have m1:IntKind.i64.wrap ((N:Int)*40)=(M:Int):=by rw[show(N:Int)*40=(M:Int) by omega];exact nat_wI M (by omega)
 have m1':(N:Int)*40=(M:Int):=by omega
 rw[hMI] at hb;have hwr:wrE (N:Int) l=firstE (M:Int) l:=by unfold wrE;rw[if_neg (by omega),hMI]
 obtain⟨c,hc⟩:∃c:UInt8,c=UInt8.ofNat (48+N):=⟨_,rfl⟩;have hct:c.toNat=48+N:=by rw[hc,UInt8.toNat_ofNat'];omega
 have m2:IntKind.u8.wrap (N:Int)=(N:Int):=by rw[IntKind.wrap_u8];omega
 have m2':(N:Int)%256=(N:Int):=by omega
 have m3:IntKind.u8.wrap (48+(N:Int))=(c.toNat:Int):=by rw[IntKind.wrap_u8,hct];omega
 have m3':48+(N:Int)=(c.toNat:Int):=by rw[hct];omega
 have hwc:IntKind.u8.wrap (c.toNat:Int)=(c.toNat:Int):=by rw[IntKind.wrap_u8,hct];omega
 have hwc':(c.toNat:Int)%256=(c.toNat:Int):=by rw[hct];omega
 have hrc:RdB (w.alloc (.cells #[.int .u8 (c.toNat:Int)] 5)) (.slice (some ⟨w.heap.size,0,none⟩) 1 1) [c]:=Arr.rdB (Arr.new w 5 [.int .u8 (c.toNat:Int)]) rfl (by decide);have hconv:=lQ hrc;obtain⟨X,hX⟩:∃X:ByteArray,X=⟨#[80,77,107]⟩++mkS [c]:=⟨_,rfl⟩;have hXe:X=mkS (aD (kW (headW N))):=by
  rw[hX,packL_bitsL,hc];rfl
 have hXs:X.size=4:=by rw[hXe,packL_bitsL,cP];rfl
 have hX':=hX.symm;have q0:¬9223372036854775807<X.size:=by omega
 have HXE:=hid hXe;have hO:gG ((w.alloc (.cells #[.int .u8 (c.toNat:Int)] 5)).alloc (.cells #[.string X,.int .i64 32] 77)) w.heap.size (.slice (some ⟨w.heap.size+1,0,none⟩) 1 1) [kW (headW N)]:=by
  have h:=Arr.new (w.alloc (.cells #[.int .u8 (c.toNat:Int)] 5)) 77 [.string X,.int .i64 32];rw[World.size_alloc] at h;have e:kH (kW (headW N))=[.string X,.int .i64 32]:=by unfold kH;rw[<-hXe,xZ];rfl
  exact gG.lit (by rw[e];exact h) (Nat.le_succ _)
 have hb0:Below w.heap.size w ((w.alloc (.cells #[.int .u8 (c.toNat:Int)] 5)).alloc (.cells #[.string X,.int .i64 32] 77)):=((Below.refl _ w).alloc (Nat.le_refl _) _).alloc (by simp) _;clear hc hX hXe hrc hM hct hr;go_enter Tryz.func17,Tryz.ntmps17;go_wp2_with fail;generalize (w.alloc (.cells #[.int .u8 (c.toNat:Int)] 5)).alloc (.cells #[.string X,.int .i64 32] 77)=W0 at*
 have hw0:w.heap.size<=W0.heap.size:=hb0.size;clear hconv hX' q0 hXs m2 m2' m3 m3' hwc hwc' t2 t3
 go_loopg [4,5,6,7,9,10,11,32] l.length (fun g c4 c5 s6 s7 _c9 _c10 _c11 s32 wr=>∃k:Nat,k<=l.length/\g=l.length-k/\s32=.int .i64 (k:Int)/\c4=.string ⟨#[]⟩/\c5=.int .i64 0/\gG wr w.heap.size s6 (kW (headW N)::(l.take k).map cB)/\OwS wr w.heap.size s7 ((l.take k).map (fun t=>fG t.data.toList))/\Below w.heap.size w wr/\Hid (∀t∈l.take k,okT (M:Int) t/\eZ t (M:Int)=0))
 case atStart=>exact⟨0,Nat.zero_le _,rfl,rfl,rfl,rfl,hO,Ow.nil _ _ _,hb0,hid (by simp)⟩
 case round=>
  clear hO hb0 hw0;obtain⟨k,hk,hg,rfl,rfl,rfl,hob,hos,hbel,HOK⟩:=hrel;have HG:=hid hg;have hsz2:=hbel.size;clear hg
  by_cases hlt:k<l.length
  ·have t4:decide ((k:Int)<(l.length:Int))=true:=decide_eq_true (by omega);obtain⟨b,off,rfl,hbs,hc⟩:=hA (by omega);obtain⟨t,ht⟩:∃t,l[k]? =some t:=⟨_,List.getElem?_eq_getElem hlt⟩;have c1:=(hbel.cell (p:=⟨b,off+k,none⟩) hbs).trans (hc k t ht);have htm:=hsz t (List.mem_of_getElem? ht);have henc:=fun W=>AA t (M:Int) W htm
   unfold zQ at henc;have hff:firstE (M:Int) l=firstE (M:Int) (t::l.drop (k+1)):=by
    rw[firstE_take (k:=k) (fun u hu=>(HOK.out u hu).2),List.drop_eq_getElem_cons hlt];rw[List.getElem?_eq_getElem hlt] at ht;rw[Option.some.inj ht]
   obtain⟨E,hE⟩:∃E,E=eZ t (M:Int):=⟨_,rfl⟩;obtain⟨Y,hY⟩:∃Y,Y=mP t (M:Int):=⟨_,rfl⟩;rw[<-hE,<-hY] at henc;unfold eL at henc;have HE:=hid hE;have HY:=hid hY;have HFF:=hid hff;have HT:=hid ht;clear hE hY hff ht hc hA;go_wp2_with fail;refine(henc _).mono ?_;rintro e w1 ⟨rfl,hb1,hord⟩;have hob1:=gG.below hob hb1 (Nat.le_refl _);have hos1:OwS w1 w.heap.size u7 ((l.take k).map (fun t=>fG t.data.toList)):=Ow.below hos hb1 (Nat.le_refl _);have hbel1:=hbel.trans (hb1.mono hsz2);have HORD:=hid hord;have hsz3:=hbel1.size;clear henc hord hb1 hob hos hbel hsz2
   by_cases h0:E=0
   rotate_left
   ·have t5:(E != 0)=true:=by rw[bne_iff_ne];exact h0
    have HF:=hid (show wrE (N:Int) l=E by
     rw[hwr,HFF.out];unfold firstE;rw[<-HE.out,if_pos h0])
    clear hwr HFF;go_wp2_with fail
    go_ret2
    exact .inr ⟨by rw[HF.out];exact h0,by rw[HF.out];rfl,hbel1.alloc (by omega) _⟩
   subst h0;have hsum:=fun W=>FA t W (by omega)
   have hYe:Y=cB t:=by rw[HY.out,EM HE.out.symm]
   have HOK2:=hid (show ∀u∈l.take (k+1),okT (M:Int) u/\eZ u (M:Int)=0 by
    intro u hu;rw[List.take_add_one,HT.out] at hu;rcases List.mem_append.1 hu with hu|hu
    ·exact HOK.out u hu
    ·obtain rfl:u=t:=by simpa using hu
     exact⟨okT_of HE.out.symm (HORD.out rfl),HE.out.symm⟩)
   have HB:=hid (show kW (headW N)::(l.take (k+1)).map cB=(kW (headW N)::(l.take k).map cB)++[Y] by
    rw[List.take_add_one,HT.out,List.map_append,hYe];rfl)
   have HS:=hid (show(l.take (k+1)).map (fun t=>fG t.data.toList)=(l.take k).map (fun t=>fG t.data.toList)++[fG t.data.toList] by
    rw[List.take_add_one,HT.out,List.map_append];rfl)
   obtain⟨S,hSS⟩:∃S,S=fG t.data.toList:=⟨_,rfl⟩;rw[<-hSS] at hsum HS;have hlb:(kW (headW N)::(l.take k).map cB).length<=100001:=by rw[List.length_cons,List.length_map,List.length_take];omega
   have hls:((l.take k).map (fun t=>fG t.data.toList)).length<=100000:=by rw[List.length_map,List.length_take];omega
   obtain⟨z,hz⟩:∃z,z=w1.heap.size:=⟨_,rfl⟩;have hN:=Arr.new (w1.alloc (.cells #[.string (mkS (aD Y)),.int .i64 (Y.length:Int)] 77)) 77 (kH Y);rw[World.size_alloc] at hN;have hob2:=(hob1.alloc (.cells #[.string (mkS (aD Y)),.int .i64 (Y.length:Int)] 77)).alloc (.cells (kH Y).toArray 77);have hos2:OwS ((w1.alloc (.cells #[.string (mkS (aD Y)),.int .i64 (Y.length:Int)] 77)).alloc (.cells (kH Y).toArray 77)) w.heap.size u7 ((l.take k).map (fun t=>fG t.data.toList)):=(Ow.alloc (Ow.alloc hos1 _) _)
   have hbel2:Below w.heap.size w ((w1.alloc (.cells #[.string (mkS (aD Y)),.int .i64 (Y.length:Int)] 77)).alloc (.cells (kH Y).toArray 77)):=(hbel1.alloc (by omega) _).alloc (by simp;omega) _;have hsz4:w.heap.size<=((w1.alloc (.cells #[.string (mkS (aD Y)),.int .i64 (Y.length:Int)] 77)).alloc (.cells (kH Y).toArray 77)).heap.size:=hbel2.size;change Arr ((w1.alloc (.cells #[.string (mkS (aD Y)),.int .i64 (Y.length:Int)] 77)).alloc (.cells #[.string (mkS (aD Y)),.int .i64 (Y.length:Int)] 77)) _ _ _ at hN
   change gG ((w1.alloc (.cells #[.string (mkS (aD Y)),.int .i64 (Y.length:Int)] 77)).alloc (.cells #[.string (mkS (aD Y)),.int .i64 (Y.length:Int)] 77)) _ _ _ at hob2;change OwS ((w1.alloc (.cells #[.string (mkS (aD Y)),.int .i64 (Y.length:Int)] 77)).alloc (.cells #[.string (mkS (aD Y)),.int .i64 (Y.length:Int)] 77)) _ _ _ at hos2;change Below _ _ ((w1.alloc (.cells #[.string (mkS (aD Y)),.int .i64 (Y.length:Int)] 77)).alloc (.cells #[.string (mkS (aD Y)),.int .i64 (Y.length:Int)] 77)) at hbel2
   change _<=((w1.alloc (.cells #[.string (mkS (aD Y)),.int .i64 (Y.length:Int)] 77)).alloc (.cells #[.string (mkS (aD Y)),.int .i64 (Y.length:Int)] 77)).heap.size at hsz4;clear hz hYe hSS hwr HFF;go_wp2_with (at_builtin;refine PY rfl _ _ rfl w.heap.size _ _ Y rfl hob2 _ rfl hN ?_ ?_ ?_;(omega);(exact hsz4);intro v3 w3 p1 p2 p3;(have hos3:OwS w3 w.heap.size u7 ((l.take k).map (fun t=>fG t.data.toList)):=own_other hos2 hob2 p3 (by decide));(have hbel3:=hbel2.trans p2);(have hsz5:=hbel3.size));refine(hsum _).mono ?_;rintro e w4 ⟨rfl,hb4⟩;have hob4:=gG.below p1 hb4 (Nat.le_refl _)
   have hos4:OwS w4 w.heap.size u7 ((l.take k).map (fun t=>fG t.data.toList)):=Ow.below hos3 hb4 (Nat.le_refl _);have hbel4:=hbel3.trans (hb4.mono hsz5);have hsz6:=hbel4.size;have hN2:=bS w4 (.int .u32 (S.toNat:Int)) 34;have hos5:OwS (w4.alloc (.cells #[.int .u32 (S.toNat:Int)] 34)) w.heap.size u7 ((l.take k).map (fun t=>fG t.data.toList)):=Ow.alloc hos4 _;have hob5:=gG.alloc hob4 (.cells #[.int .u32 (S.toNat:Int)] 34);have hbel5:Below w.heap.size w (w4.alloc (.cells #[.int .u32 (S.toNat:Int)] 34)):=hbel4.alloc hsz6 _
   clear hob4 hos4 hbel4 hb4 p1 p2 p3 hos3 hbel3 hob2 hos2 hbel2 hN hsum hob1 hos1 hbel1;go_wp2_with (at_builtin;refine appS rfl _ _ rfl w.heap.size _ _ rfl hos5 _ S rfl hN2 ?_ ?_ ?_;(omega);(simp;omega);intro v5 w5 r1 r2 r3);have hg:=HG.out
   go_roundg (l.length-(k+1))
   case measure=>omega
   case rel=>exact⟨k+1,by omega,rfl,by go_num,rfl,rfl,by rw[HB.out];exact own_other hob5 hos5 r3 (by decide),by rw[HS.out];exact r1,hbel5.trans r2,HOK2⟩
  ·have t4:decide ((k:Int)<(l.length:Int))=false:=decide_eq_false (by omega);obtain rfl:k=l.length:=by omega
   rw[List.take_length] at hob hos HOK;have hoks:∀t∈l,okT (M:Int) t:=fun t ht=>(HOK.out t ht).1
   have hbd:=hb l.length (Nat.le_refl _) (by rw[List.take_length];exact hoks);rw[List.take_length] at hbd;have HF:=hid (show wrE (N:Int) l=0 by
    rw[hwr];exact firstE_of (fun t ht=>(HOK.out t ht).2))
   have hp1:=fun W=>uH [] 25779555029136 48 W (by decide) (by decide) (by decide)
   rw[List.nil_append] at hp1;obtain⟨G,hG⟩:∃G,G=aY 25779555029136 48:=⟨_,rfl⟩;have hGl:G.length=48:=by rw[hG,cY]
   obtain⟨S,hS⟩:∃S,S=(allB (l.map (fun t=>fG t.data.toList))).toNat:=⟨_,rfl⟩;have hSb:S<4294967296:=by rw[hS];exact(allB (l.map (fun t=>fG t.data.toList))).isLt
   have hall:=fun W h=>all_any u7 (l.map (fun t=>fG t.data.toList)) W h
   have hp2:=fun W=>uH G S 32 W (by omega) (by decide) (by omega)
   obtain⟨D,hD⟩:∃D,D=G++aY S 32:=⟨_,rfl⟩;have hDl:D.length=80:=by rw[hD,List.length_append,hGl,cY]
   have HST:=hid (show((kW (headW N)::l.map cB)++[D]).flatten=strW N l by
    rw[hD,hG,hS,List.flatten_append,List.flatten_cons,List.flatten_cons,List.flatten_nil,List.append_nil,List.append_assoc];rfl)
   have hfl:((kW (headW N)::l.map cB)++[D]).flatten.length<=900000:=by
    rw[HST.out,strW_length];omega
   rw[<-hG] at hp1;rw[<-hS] at hall;rw[<-hD] at hp2;unfold eL at hp1 hp2;obtain⟨PG,hPG⟩:∃PG,PG=mkS (aD G):=⟨_,rfl⟩;obtain⟨LG,hLG⟩:∃LG,LG=(G.length:Int):=⟨_,rfl⟩;obtain⟨PD,hPD⟩:∃PD,PD=mkS (aD D):=⟨_,rfl⟩;obtain⟨LD,hLD⟩:∃LD,LD=(D.length:Int):=⟨_,rfl⟩;rw[<-hPG,<-hLG] at hp1 hp2;rw[<-hPD,<-hLD] at hp2;have HPD:=hid hPD;have HLD:=hid hLD;have HOKS:=hid hoks;have m5:=u32_nat S hSb;have m5':IntKind.u64.wrap (S:Int)=(S:Int):=by rw[IntKind.wrap_u64];omega
   have m6':(S:Int)%18446744073709551616=(S:Int):=by omega
   clear hb hwr hG hS hD hbd hoks HOK hPG hLG hPD hLD hGl hDl;go_wp2_with fail;refine(hp1 _).mono ?_;rintro e w6 ⟨rfl,hb6⟩;obtain⟨z,hz⟩:∃z,z=w6.heap.size:=⟨_,rfl⟩;have hob6:gG w6 w.heap.size u6 (kW (headW N)::l.map cB):=gG.below hob hb6 (Nat.le_refl _);have hos6:OwS w6 w.heap.size u7 (l.map (fun t=>fG t.data.toList)):=Ow.below hos hb6 (Nat.le_refl _);have hbel6:=hbel.trans (hb6.mono hsz2);have hsz6:w.heap.size<=z:=by rw[hz];exact hbel6.size
   have hz7:=Arr.new w6 77 [.string PG,.int .i64 LG];have hb67:Below z w6 (w6.alloc (.cells #[.string PG,.int .i64 LG] 77)):=by rw[hz];exact bD (Below.refl _ _) _
   change Arr (w6.alloc (.cells #[.string PG,.int .i64 LG] 77)) _ _ _ at hz7;rw[<-hz] at hz7;clear hp1 hob hos hbel hsz2 hb6;go_wp2_with fail;generalize w6.alloc (.cells #[.string PG,.int .i64 LG] 77)=W7 at*
   rw[<-hz] at ⊢;have HZ:=hid hz;have HRD:=fun wx (h:Below z W7 wx/\z+1<=wx.heap.size/\∃y0 y1,Arr wx z 77 [y0,y1])=>OwS.rd (Ow.below hos6 (hb67.trans h.1) (by rw[<-HZ.out];exact Nat.le_refl _):OwS wx w.heap.size u7 (l.map (fun t=>fG t.data.toList)))
   have c0:=hz7.cell (i:=0) rfl;have c1:=hz7.cell (i:=1) rfl;have hzs:=hz7.lt;have hS0:=keepY (w0:=W7) (z:=z) ⟨Below.refl _ _,by omega,_,_,hz7⟩ (Below.refl W7.heap.size W7).drew;clear hz hA;refine wp_region_held_drew (S:=(fun wx=>Below z W7 wx/\z+1<=wx.heap.size/\∃y0 y1,Arr wx z 77 [y0,y1])) (by kernel_rfl) hS0 (fun hHeld=>?_);refine wpAnyH_take (i:=1) (oi:=?oiz1) (v:=?vz1) ?hiz1 (by kernel_rfl) (by kernel_rfl) (by kernel_rfl) ?hqz1 ?hyz1 (by assumption) ?_
   case hiz1=>(simp only[List.getElem?_toArray,List.getElem?_cons_succ,List.getElem?_cons_zero];rfl)
   case hqz1=>exact fun _ _ _ h=>h
   case hyz1=>(refine Or.inl ⟨by rfl,?_⟩;intro w' hSw;(try dsimp only at hSw);(try go_simp);try with_reducible rfl)
   try simp only[Act.put,List.setIfInBounds_toArray,List.set_cons_zero,List.set_cons_succ]
   refine wpAnyH_ready (rs:=[0,2]) (by kernel_rfl) (by simp) ?_;refine AllReadyH.cons rfl (fun K hK=>?_) (AllReadyH.cons rfl (fun K hK=>?_) AllReadyH.nil)
   ·go_simp;refine hK.out _ _ hHeld (fun _=>?_);clear hK K
    try simp only[Act.put,List.setIfInBounds_toArray,List.set_cons_zero,List.set_cons_succ]
    refine wpAnyH_ready (rs:=[2]) (by kernel_rfl) (by simp) ?_;refine AllReadyH.cons rfl (fun K hK=>?_) AllReadyH.nil;go_simp;refine(hall _ (HRD _ hHeld)).mono ?_;rintro e w8 ⟨rfl,rfl⟩
    (try go_wp2_with fail)
    refine hK.out _ _ hHeld (fun _=>?_);clear hK K
    try simp only[Act.put,List.setIfInBounds_toArray,List.set_cons_zero,List.set_cons_succ]
    refine wpAnyH_take (i:=3) (oi:=?oia3) (v:=?va3) ?hia3 (by kernel_rfl) (by kernel_rfl) (by kernel_rfl) ?hqa3 ?hya3 (by assumption) ?_
    case hia3=>(simp only[List.getElem?_toArray,List.getElem?_cons_succ,List.getElem?_cons_zero];rfl)
    case hqa3=>exact fun _ _ _ h=>h
    case hya3=>(refine Or.inl ⟨by rfl,?_⟩;intro w' hSw;(try dsimp only at hSw);(try go_simp);try with_reducible rfl)
    try simp only[Act.put,List.setIfInBounds_toArray,List.set_cons_zero,List.set_cons_succ]
    refine wpAnyH_ready (rs:=[4]) (by kernel_rfl) (by simp) ?_;refine AllReadyH.cons rfl (fun K hK=>?_) AllReadyH.nil;go_simp;refine(hp2 _).mono ?_;rintro e w8 ⟨rfl,hb8⟩
    (try go_wp2_with fail)
    have hS8:=keepY hHeld hb8;refine hK.out _ _ hS8 (fun _=>?_);clear hK K
    try simp only[Act.put,List.setIfInBounds_toArray,List.set_cons_zero,List.set_cons_succ]
    refine wpAnyH_take (i:=5) (oi:=?oia5) (v:=?va5) ?hia5 (by kernel_rfl) (by kernel_rfl) (by kernel_rfl) ?hqa5 ?hya5 (by assumption) ?_
    case hia5=>(simp only[List.getElem?_toArray,List.getElem?_cons_succ,List.getElem?_cons_zero];rfl)
    case hqa5=>exact fun _ _ _ h=>h
    case hya5=>(refine Or.inl ⟨by rfl,?_⟩;intro w' hSw;(try dsimp only at hSw);(try go_simp);try with_reducible rfl)
    try simp only[Act.put,List.setIfInBounds_toArray,List.set_cons_zero,List.set_cons_succ]
    refine wpAnyH_take (i:=6) (oi:=?oia6) (v:=?va6) ?hia6 (by kernel_rfl) (by kernel_rfl) (by kernel_rfl) ?hqa6 ?hya6 (by assumption) ?_
    case hia6=>(simp only[List.getElem?_toArray,List.getElem?_cons_succ,List.getElem?_cons_zero];rfl)
    case hqa6=>exact fun _ _ _ h=>h
    case hya6=>(refine Or.inl ⟨by rfl,?_⟩;intro w' hSw;(try dsimp only at hSw);(try go_simp);try with_reducible rfl)
    try simp only[Act.put,List.setIfInBounds_toArray,List.set_cons_zero,List.set_cons_succ]
    refine wpAnyH_take (i:=7) (oi:=?oia7) (v:=?va7) ?hia7 (by kernel_rfl) (by kernel_rfl) (by kernel_rfl) ?hqa7 ?hya7 (by assumption) ?_
    case hia7=>(simp only[List.getElem?_toArray,List.getElem?_cons_succ,List.getElem?_cons_zero];rfl)
    case hqa7=>exact fun _ _ _ h=>h
    case hya7=>(refine Or.inl ⟨by rfl,?_⟩;intro w' hSw;(try dsimp only at hSw);(try go_simp);try with_reducible rfl)
    try simp only[Act.put,List.setIfInBounds_toArray,List.set_cons_zero,List.set_cons_succ]
    obtain⟨hb78,hs78,y0,y1,hz8⟩:=id hS8;have g0:=hz8.cell (i:=0) rfl;have g1:=hz8.cell (i:=1) rfl;have f0:=hz8.free 0;have f1:=hz8.free 1;refine wpAnyH_ready (rs:=[8]) (by kernel_rfl) (by simp) ?_;refine AllReadyH.cons rfl (fun K hK=>?_) AllReadyH.nil;go_simp;refine hK.out _ _ (keepYS hS8 _ _ _ rfl) (fun _=>?_);clear hK K
    try simp only[Act.put,List.setIfInBounds_toArray,List.set_cons_zero,List.set_cons_succ]
    refine wpAnyH_done (by kernel_rfl) ?_ _;have hz9:=(hz8.set 0 (.string PD)).set 1 (.int .i64 LD);have hB69:Below z w6 ((w8.setCell ⟨z,0,none⟩ (.string PD)).setCell ⟨z,1,none⟩ (.int .i64 LD)):=((hb67.trans hb78).setCell (p:=⟨z,0,none⟩) (Nat.le_refl _) _).setCell (p:=⟨z,1,none⟩) (Nat.le_refl _) _;change Arr ((w8.setCell ⟨z,0,none⟩ (.string PD)).setCell ⟨z,1,none⟩ (.int .i64 LD)) z 77 [.string PD,.int .i64 LD] at hz9;generalize (w8.setCell ⟨z,0,none⟩ (.string PD)).setCell ⟨z,1,none⟩ (.int .i64 LD)=W9 at*
    have hob9:=gG.below hob6 hB69 (by rw[<-HZ.out];exact Nat.le_refl _);have hbel9:=hbel6.trans (hB69.mono hsz6);have hsz9:=hbel9.size;have hN:=Arr.new W9 77 (kH D);have hob10:=hob9.alloc (.cells (kH D).toArray 77);have hbel10:=hbel9.alloc hsz9 (.cells (kH D).toArray 77);have hbc:kH D=[.string PD,.int .i64 LD]:=by unfold kH;rw[<-HPD.out,<-HLD.out]
    have hNe:(kH D).toArray=#[.string PD,.int .i64 LD]:=by rw[hbc]
    rw[hNe] at hN hob10 hbel10;have hsz10:w.heap.size<=(W9.alloc (.cells #[.string PD,.int .i64 LD] 77)).heap.size:=hbel10.size;have d0:=hz9.cell (i:=0) rfl;have d1:=hz9.cell (i:=1) rfl;have hcat:=fun W v h=>CF v ((kW (headW N)::l.map cB)++[D]) W h hfl
    rw[HST.out] at hcat;unfold eL at hcat;obtain⟨PW,hPW⟩:∃PW,PW=mkS (aD (strW N l)):=⟨_,rfl⟩;obtain⟨LW,hLW⟩:∃LW,LW=((strW N l).length:Int):=⟨_,rfl⟩;rw[<-hPW,<-hLW] at hcat;have HPW:=hid hPW;have hln:(kW (headW N)::l.map cB).length<=100001:=by rw[List.length_cons,List.length_map];omega
    clear g0 g1 f0 f1 hz8 hb78 hs78 hS8 hb8 hHeld hS0 c0 c1 HRD hz7 hp2 hall hb67 hob6 hos6 hbel6 hB69 hPW hLW hbc hNe HST hfl y0 y1;go_wp2_with (at_builtin;refine PY rfl _ _ rfl w.heap.size _ _ D rfl hob10 _ rfl hN ?_ ?_ ?_;(omega);(exact hsz10);intro v3 w11 p1 p2 p3);refine(hcat _ _ (gG.rd p1)).mono ?_;rintro e w12 ⟨rfl,hb12⟩;have hbel11:=hbel10.trans p2;have hbel12:=hbel11.trans (hb12.mono hbel11.size);have hsz12:=hbel12.size;go_wp2_with fail
    go_ret2
    exact .inl ⟨HF.out,by rw[Int.toNat_natCast,<-HPW.out];rfl,fun u hu=>by rw[hMI];exact HOKS.out u hu,hbel12.alloc hsz12 _⟩
   ·go_simp;refine(hall _ (HRD _ hHeld)).mono ?_;rintro e w8 ⟨rfl,rfl⟩
    (try go_wp2_with fail)
    refine hK.out _ _ hHeld (fun _=>?_);clear hK K
    try simp only[Act.put,List.setIfInBounds_toArray,List.set_cons_zero,List.set_cons_succ]
    refine wpAnyH_take (i:=3) (oi:=?oib3) (v:=?vb3) ?hib3 (by kernel_rfl) (by kernel_rfl) (by kernel_rfl) ?hqb3 ?hyb3 (by assumption) ?_
    case hib3=>(simp only[List.getElem?_toArray,List.getElem?_cons_succ,List.getElem?_cons_zero];rfl)
    case hqb3=>exact fun _ _ _ h=>h
    case hyb3=>(refine Or.inl ⟨by rfl,?_⟩;intro w' hSw;(try dsimp only at hSw);(try go_simp);try with_reducible rfl)
    try simp only[Act.put,List.setIfInBounds_toArray,List.set_cons_zero,List.set_cons_succ]
    refine wpAnyH_ready (rs:=[0]) (by kernel_rfl) (by simp) ?_;refine AllReadyH.cons rfl (fun K hK=>?_) AllReadyH.nil;go_simp;refine hK.out _ _ hHeld (fun _=>?_);clear hK K
    try simp only[Act.put,List.setIfInBounds_toArray,List.set_cons_zero,List.set_cons_succ]
    refine wpAnyH_ready (rs:=[4]) (by kernel_rfl) (by simp) ?_;refine AllReadyH.cons rfl (fun K hK=>?_) AllReadyH.nil;go_simp;refine(hp2 _).mono ?_;rintro e w8 ⟨rfl,hb8⟩
    (try go_wp2_with fail)
    have hS8:=keepY hHeld hb8;refine hK.out _ _ hS8 (fun _=>?_);clear hK K
    try simp only[Act.put,List.setIfInBounds_toArray,List.set_cons_zero,List.set_cons_succ]
    refine wpAnyH_take (i:=5) (oi:=?oib5) (v:=?vb5) ?hib5 (by kernel_rfl) (by kernel_rfl) (by kernel_rfl) ?hqb5 ?hyb5 (by assumption) ?_
    case hib5=>(simp only[List.getElem?_toArray,List.getElem?_cons_succ,List.getElem?_cons_zero];rfl)
    case hqb5=>exact fun _ _ _ h=>h
    case hyb5=>(refine Or.inl ⟨by rfl,?_⟩;intro w' hSw;(try dsimp only at hSw);(try go_simp);try with_reducible rfl)
    try simp only[Act.put,List.setIfInBounds_toArray,List.set_cons_zero,List.set_cons_succ]
    refine wpAnyH_take (i:=6) (oi:=?oib6) (v:=?vb6) ?hib6 (by kernel_rfl) (by kernel_rfl) (by kernel_rfl) ?hqb6 ?hyb6 (by assumption) ?_
    case hib6=>(simp only[List.getElem?_toArray,List.getElem?_cons_succ,List.getElem?_cons_zero];rfl)
    case hqb6=>exact fun _ _ _ h=>h
    case hyb6=>(refine Or.inl ⟨by rfl,?_⟩;intro w' hSw;(try dsimp only at hSw);(try go_simp);try with_reducible rfl)
    try simp only[Act.put,List.setIfInBounds_toArray,List.set_cons_zero,List.set_cons_succ]
    refine wpAnyH_take (i:=7) (oi:=?oib7) (v:=?vb7) ?hib7 (by kernel_rfl) (by kernel_rfl) (by kernel_rfl) ?hqb7 ?hyb7 (by assumption) ?_
    case hib7=>(simp only[List.getElem?_toArray,List.getElem?_cons_succ,List.getElem?_cons_zero];rfl)
    case hqb7=>exact fun _ _ _ h=>h
    case hyb7=>(refine Or.inl ⟨by rfl,?_⟩;intro w' hSw;(try dsimp only at hSw);(try go_simp);try with_reducible rfl)
    try simp only[Act.put,List.setIfInBounds_toArray,List.set_cons_zero,List.set_cons_succ]
    obtain⟨hb78,hs78,y0,y1,hz8⟩:=id hS8;have g0:=hz8.cell (i:=0) rfl;have g1:=hz8.cell (i:=1) rfl;have f0:=hz8.free 0;have f1:=hz8.free 1;refine wpAnyH_ready (rs:=[8]) (by kernel_rfl) (by simp) ?_;refine AllReadyH.cons rfl (fun K hK=>?_) AllReadyH.nil;go_simp;refine hK.out _ _ (keepYS hS8 _ _ _ rfl) (fun _=>?_);clear hK K
    try simp only[Act.put,List.setIfInBounds_toArray,List.set_cons_zero,List.set_cons_succ]
    refine wpAnyH_done (by kernel_rfl) ?_ _;have hz9:=(hz8.set 0 (.string PD)).set 1 (.int .i64 LD);have hB69:Below z w6 ((w8.setCell ⟨z,0,none⟩ (.string PD)).setCell ⟨z,1,none⟩ (.int .i64 LD)):=((hb67.trans hb78).setCell (p:=⟨z,0,none⟩) (Nat.le_refl _) _).setCell (p:=⟨z,1,none⟩) (Nat.le_refl _) _;change Arr ((w8.setCell ⟨z,0,none⟩ (.string PD)).setCell ⟨z,1,none⟩ (.int .i64 LD)) z 77 [.string PD,.int .i64 LD] at hz9;generalize (w8.setCell ⟨z,0,none⟩ (.string PD)).setCell ⟨z,1,none⟩ (.int .i64 LD)=W9 at*
    have hob9:=gG.below hob6 hB69 (by rw[<-HZ.out];exact Nat.le_refl _);have hbel9:=hbel6.trans (hB69.mono hsz6);have hsz9:=hbel9.size;have hN:=Arr.new W9 77 (kH D);have hob10:=hob9.alloc (.cells (kH D).toArray 77);have hbel10:=hbel9.alloc hsz9 (.cells (kH D).toArray 77);have hbc:kH D=[.string PD,.int .i64 LD]:=by unfold kH;rw[<-HPD.out,<-HLD.out]
    have hNe:(kH D).toArray=#[.string PD,.int .i64 LD]:=by rw[hbc]
    rw[hNe] at hN hob10 hbel10;have hsz10:w.heap.size<=(W9.alloc (.cells #[.string PD,.int .i64 LD] 77)).heap.size:=hbel10.size;have d0:=hz9.cell (i:=0) rfl;have d1:=hz9.cell (i:=1) rfl;have hcat:=fun W v h=>CF v ((kW (headW N)::l.map cB)++[D]) W h hfl
    rw[HST.out] at hcat;unfold eL at hcat;obtain⟨PW,hPW⟩:∃PW,PW=mkS (aD (strW N l)):=⟨_,rfl⟩;obtain⟨LW,hLW⟩:∃LW,LW=((strW N l).length:Int):=⟨_,rfl⟩;rw[<-hPW,<-hLW] at hcat;have HPW:=hid hPW;have hln:(kW (headW N)::l.map cB).length<=100001:=by rw[List.length_cons,List.length_map];omega
    clear g0 g1 f0 f1 hz8 hb78 hs78 hS8 hb8 hHeld hS0 c0 c1 HRD hz7 hp2 hall hb67 hob6 hos6 hbel6 hB69 hPW hLW hbc hNe HST hfl y0 y1;go_wp2_with (at_builtin;refine PY rfl _ _ rfl w.heap.size _ _ D rfl hob10 _ rfl hN ?_ ?_ ?_;(omega);(exact hsz10);intro v3 w11 p1 p2 p3);refine(hcat _ _ (gG.rd p1)).mono ?_;rintro e w12 ⟨rfl,hb12⟩;have hbel11:=hbel10.trans p2;have hbel12:=hbel11.trans (hb12.mono hbel11.size);have hsz12:=hbel12.size;go_wp2_with fail
    go_ret2
    exact .inl ⟨HF.out,by rw[Int.toNat_natCast,<-HPW.out];rfl,fun u hu=>by rw[hMI];exact HOKS.out u hu,hbel12.alloc hsz12 _⟩
end
section
open Go.RowKit Go Go.Shelf
def OwT (w:World) (B:Nat) (v:Value) (l:List ByteArray):Prop:=Ow w B 9 v (strV l)
theorem OwT.rd {w:World} {B:Nat} {v:Value} {l:List ByteArray} (h:OwT w B v l):RdT w v l:=by
 unfold RdT;have:=Ow.rd h;rwa[strV_length] at this
theorem kpT {w1 w2 w0:World} {B:Nat} (h:Below B w0 w1/\B<=w1.heap.size) (hb:Below w1.heap.size w1 w2):Below B w0 w2/\B<=w2.heap.size:=⟨h.1.trans (hb.mono h.2),Nat.le_trans h.2 hb.size⟩
def fineT (l:List ByteArray):Prop:=∀t∈l,0<t.size/\lnL t.data.toList<=40/\t.size<=360
end
end Go.Proofs.YtpgmbhpbgkljdaaGreatDoor
