/-
  The walks of the document's chapter 18: pieces, archives, archives of several texts.
-/
import Derived.Test.YtihbnmlinkbnkaaGreatDoorZ42
set_option linter.unusedVariables false
set_option linter.unusedSimpArgs false
set_option maxRecDepth 100000
set_option maxHeartbeats 12800000
namespace Go.Proofs.YtihbnmlinkbnkaaGreatDoor
open Go.RowKit Go Go.Shelf
theorem pcT_wr {lv:Nat} (h1:1<=lv) (h9:lv<=9) (s:ByteArray):wrE (lv:Int) (pcT lv s)=0:=by
 have hok:=VI h1 s
 grind [wrE,AA,lnL,MW,pcT]
theorem pcT_cut {lv:Nat} (h1:1<=lv) {r:ByteArray} (h:r.data.toList≠[]):pcT lv r=r.extract 0 (cJ r.data.toList (40*lv))::pcT lv (r.extract (cJ r.data.toList (40*lv)) r.size):=by
 have hl:r.data.toList.length=r.size:=by simp
 grind [pcT,vA,mkS,cJ,dP,aJu,iW]
theorem refPieces18_any (lv:Nat) (s:ByteArray) (w:World) (hs:s.size<=800) (hl1:1<=lv) (hl9:lv<=9):
  Calls Tryz.prog 29 #[.string s,.int .i64 (lv:Int)] w fun e w'=>∃v,e=.returned (.tuple #[v,.int .i64 0])/\RdT w' v (pcT lv s)/\Below w.heap.size w w':=by
 have t1:decide ((lv:Int)<1)=false:=aE (by omega);have t2:decide ((lv:Int)>9)=false:=aE (by omega);have t3:decide (9<(lv:Int))=false:=aE (by omega);obtain⟨R,hR⟩:∃R,R=40*lv:=⟨_,rfl⟩;have m1:IntKind.i64.wrap (40*(lv:Int))=(R:Int):=by rw[show 40*(lv:Int)=(R:Int) by omega];exact lE R (by omega)
 have m1':40*(lv:Int)=(R:Int):=by omega
 have HR:=hid hR;have hR40:40<=R/\R<=360:=by omega
 clear hR;go_enter Tryz.func29,Tryz.ntmps29;go_wp2_with fail;clear t1 t2 t3
 go_loopg [6,7,8] s.size (fun g s6 s7 _s8 wr=>∃(rest:ByteArray) (l:List ByteArray),s7=.string rest/\g=rest.size/\l.length+rest.size<=800/\Hid (l++pcT lv rest=pcT lv s)/\OwT wr w.heap.size s6 l/\Below w.heap.size w wr)
 case atStart=>exact⟨s,[],rfl,rfl,by simpa using hs,hid rfl,Ow.nil _ _ _,Below.refl _ _⟩
 case round=>
  obtain⟨rest,l,rfl,hg,hrs,HP,hot,hbel⟩:=hrel;have HG:=hid hg;clear hg;have hsz:=hbel.size
  by_cases hne:rest.data.toList=[]
  ·have te:rest.toList.isEmpty=true:=by rw[Lib.toList_data,hne];rfl
   have HL:=hid (show l=pcT lv s by rw[<-HP.out];unfold pcT;rw[hne];exact(List.append_nil l).symm);clear hne;go_wp2_with fail
   go_ret2
   exact⟨_,rfl,by rw[<-HL.out];exact hot.rd,hbel⟩
  have te:rest.toList.isEmpty=false:=xM hne;have hcut:=fun W=>aJd rest R W (by omega) (by omega)
  have hpos:=AE (s:=rest.data.toList) (room:=R) hne (by omega);have his:=(pT rest.data.toList R).1;have hpc:=pcT_cut hl1 hne;rw[<-HR.out] at hpc;obtain⟨K,hK⟩:∃K,K=cJ rest.data.toList R:=⟨_,rfl⟩;rw[<-hK] at hcut hpos his hpc;have hll:rest.data.toList.length=rest.size:=by simp
  have hK2:K<=rest.size:=by rw[<-hll];exact his
  have q2:(K:Int)<=(rest.size:Int):=by omega
  obtain⟨x,hx⟩:∃x,x=rest.extract 0 K:=⟨_,rfl⟩;obtain⟨y,hy⟩:∃y,y=rest.extract K rest.size:=⟨_,rfl⟩;have hys:y.size+K=rest.size:=by rw[hy];simp;omega
  have hx':=hx.symm;have hy':=hy.symm;rw[hx',hy'] at hpc;have HP2:=hid (show(l++[x])++pcT lv y=pcT lv s by rw[<-HP.out,hpc,List.append_assoc];rfl);have hll2:(l++[x]).length+y.size<=800:=by rw[List.length_append,List.length_singleton];omega
  have hl8:l.length<=800:=by omega
  have hyr:y.size<rest.size:=by omega
  clear hne his hK hll hx hy hpc hys hpos;go_wp2_with fail;refine(hcut _).mono ?_;rintro e w2 ⟨rfl,hb2⟩;have hbel2:=hbel.trans (hb2.mono hsz);have hot2:OwT w2 w.heap.size u6 l:=Ow.below hot hb2 (Nat.le_refl _);have hsz2:=hbel2.size;have hN:=bX w2 (.string x) 9;have hot3:OwT (w2.alloc (.cells #[.string x] 9)) w.heap.size u6 l:=Ow.alloc hot2 _;have hbel3:Below w.heap.size w (w2.alloc (.cells #[.string x] 9)):=hbel2.alloc hsz2 _;clear hb2 hot hot2 hbel hbel2 hcut
  go_wp2_with (at_builtin;refine aJf rfl _ _ rfl w.heap.size _ _ rfl hot3 _ x rfl hN ?_ ?_ ?_;(omega);(simp;omega);intro v3 w3 p1 p2 p3);have hg:=HG.out
  go_roundg y.size
  case measure=>omega
  case rel=>exact⟨y,l++[x],rfl,rfl,hll2,HP2,p1,hbel3.trans p2⟩
theorem refPieces18_no (n:Int) (s:ByteArray) (w:World) (h:n<1\/9<n):
  Calls Tryz.prog 29 #[.string s,.int .i64 n] w fun e w'=>e=.returned (.tuple #[.slice none 0 0,.int .i64 1])/\w'=w:=by
 by_cases h1:n<1
 ·have t1:decide (n<1)=true:=aG h1;go_enter Tryz.func29,Tryz.ntmps29;go_wp2_with fail
  go_ret2
  exact⟨rfl,rfl⟩
 ·have t1:decide (n<1)=false:=aE h1;have t2:decide (n>9)=true:=aG (by omega);have t3:decide (9<n)=true:=aG (by omega);go_enter Tryz.func29,Tryz.ntmps29;go_wp2_with fail
  go_ret2
  exact⟨rfl,rfl⟩
theorem refPack18_any (lv:Nat) (s:ByteArray) (w:World) (hs:s.size<=280) (hl1:1<=lv) (hl9:lv<=9):
  Calls Tryz.prog 31 #[.string s,.int .i64 (lv:Int)] w fun e w'=>e=.returned (.tuple #[.string (aZ [(lv,pcT lv s)]),.int .i64 0])/\okA [(lv,pcT lv s)]/\Below w.heap.size w w':=by
 have hlen:=CZ hl1 s;have hok:=VI hl1 s;have hwr0:=pcT_wr hl1 hl9 s;have hwrt:∀W v,RdT W v (pcT lv s)->Calls Tryz.prog 13 #[.int .i64 (lv:Int),v] W fun e w'=>e=.returned (.tuple #[.string (aZ [(lv,pcT lv s)]),.int .i64 0])/\okA [(lv,pcT lv s)]/\Below W.heap.size W w':=fun W v hr=>by
  refine(aJr (lv:Int) v (pcT lv s) W hr (by omega) (fun t ht=>by have:=(hok t ht).2.2;omega) (by omega) (by omega)).mono ?_;rintro e w' (⟨-,rfl,ho,hb⟩|⟨h0,-,-⟩)
  ·refine⟨?_,NF hl1 hl9 ho,hb⟩;rw[Int.toNat_natCast];unfold aZ;rw[tU]
  ·exact absurd hwr0 h0
 have hpi:=fun W=>refPieces18_any lv s W (by omega) hl1 hl9
 obtain⟨R,hR⟩:∃R,R=aZ [(lv,pcT lv s)]:=⟨_,rfl⟩;obtain⟨OK,hOK⟩:∃OK:Prop,OK=okA [(lv,pcT lv s)]:=⟨_,rfl⟩;rw[<-hR,<-hOK] at hwrt ⊢;clear hlen hok hwr0 hR hOK;go_enter Tryz.func31,Tryz.ntmps31;go_wp2_with fail;refine(hpi _).mono ?_;rintro e w2 ⟨v,rfl,hv,h2⟩;go_wp2_with fail;refine(hwrt _ v hv).mono ?_;rintro e w3 ⟨rfl,ho,h3⟩;go_wp2_with fail
 go_ret2
 exact⟨rfl,ho,aW h2 h3⟩
theorem refPack18_no (n:Int) (s:ByteArray) (w:World) (h:n<1\/9<n):
  Calls Tryz.prog 31 #[.string s,.int .i64 n] w fun e w'=>e=.returned (.tuple #[.string ⟨#[]⟩,.int .i64 1])/\w'=w:=by
 go_enter Tryz.func31,Tryz.ntmps31;go_wp2_with fail;refine(refPieces18_no n s _ h).mono ?_;rintro e w' ⟨rfl,rfl⟩;go_wp2_with fail
 go_ret2
 exact⟨rfl,rfl⟩
theorem arcS_emp:aZ ([]:List (Nat×List ByteArray))=⟨#[]⟩:=ByteArray.ext (Array.toList_inj.1 VJ)
theorem refStreams18_any (lv:Nat) (v:Value) (l:List ByteArray) (w:World) (hr:RdT w v l) (hl:1<=l.length) (hl3:l.length<=3) (hsz:∀t∈l,t.size<=280) (hl1:1<=lv) (hl9:lv<=9):
  Calls Tryz.prog 33 #[.int .i64 (lv:Int),v] w fun e w'=>e=.returned (.tuple #[.string (aZ (iU lv 0 l)),.int .i64 0])/\Below w.heap.size w w':=by
 obtain⟨a,ca,rfl,hca,hma,hA⟩:=hr.open;unfold maxLen at hma;have t1:decide ((lv:Int)<1)=false:=aE (by omega);have t2:decide ((lv:Int)>9)=false:=aE (by omega);have t3:decide (9<(lv:Int))=false:=aE (by omega);have n0:((l.length:Int)==0)=false:=beq_eq_false_iff_ne.2 (by omega);have n0':(l.length==0)=false:=beq_eq_false_iff_ne.2 (by omega);have hlv0:=hid (show lv=lvN lv 0 by unfold lvN;omega);clear hr;go_enter Tryz.func33,Tryz.ntmps33;go_wp2_with fail;clear t1 t2 t3 n0 n0'
 go_loopg [6,7,8,9,10] l.length (fun g s6 s7 s8 _s9 _s10 wr=>∃(k L:Nat) (T:ByteArray),k<=l.length/\g=l.length-k/\s8=.int .i64 (k:Int)/\s6=.string T/\s7=.int .i64 (L:Int)/\1<=L/\L<=9/\Hid (L=lvN lv k/\T=aZ (iU lv 0 (l.take k)))/\T.size<=92000*k/\Below w.heap.size w wr)
 case atStart=>exact⟨0,lv,⟨#[]⟩,Nat.zero_le _,rfl,rfl,rfl,rfl,hl1,hl9,hid ⟨hlv0.out,by rw[List.take_zero];exact arcS_emp.symm⟩,Nat.zero_le _,Below.refl _ _⟩
 case round=>
  obtain⟨k,L,T,hk,hg,rfl,rfl,rfl,hL1,hL9,HLT,hT,hbel⟩:=hrel;have HG:=hid hg;clear hg;have hszr:=hbel.size
  by_cases hlt:k<l.length
  rotate_left
  ·have t1:decide ((k:Int)<(l.length:Int))=false:=aE (by omega);have HT:=hid (show T=aZ (iU lv 0 l) by rw[HLT.out.2,List.take_of_length_le (by omega)]);go_wp2_with fail
   go_ret2
   exact⟨by rw[<-HT.out];rfl,hbel⟩
  have t1:decide ((k:Int)<(l.length:Int))=true:=aG (by omega);obtain⟨b,off,rfl,hb,hc⟩:=hA (by omega);obtain⟨p,hp⟩:∃p,l[k]? =some p:=⟨_,List.getElem?_eq_getElem hlt⟩;have c0:=(hbel.cell (p:=⟨b,off+k,none⟩) hb).trans (hc k p hp);have hps:=hsz p (List.mem_of_getElem? hp);have hcall:=fun W=>refPack18_any L p W hps hL1 hL9
  have hpl:=CZ (lv:=L) hL1 p;have hsA:okA [(L,pcT L p)]->(aZ [(L,pcT L p)]).size<=92000:=fun h=>by
   have h2:=wQ h;have ea:(nQ [(L,pcT L p)]).length=(pcT L p).length:=by unfold nQ;simp
   rw[ea,List.length_singleton] at h2;omega
  have hTn:aZ (iU lv 0 (l.take (k+1)))=T++aZ [(L,pcT L p)]:=by
   rw[List.take_add_one,hp];show aZ (iU lv 0 (l.take k++[p]))=_;rw[VK,List.length_take,Nat.min_eq_left hk,Nat.zero_add,<-HLT.out.1,<-AG,<-HLT.out.2]
  obtain⟨X,hX⟩:∃X,X=aZ [(L,pcT L p)]:=⟨_,rfl⟩;rw[<-hX] at hcall hsA hTn;obtain⟨U,hU⟩:∃U,U=T++X:=⟨_,rfl⟩;have HUs:=hid (show U.size=T.size+X.size by rw[hU,ByteArray.size_append]);have HSA:=hid hsA;rw[<-hU] at hTn;have hU':=hU.symm;obtain⟨L1,hL1'⟩:∃L1,L1=L+1:=⟨_,rfl⟩;have m1:(L:Int)+1=(L1:Int):=by omega
  have HTn:=hid hTn;have HL:=hid HLT.out.1;have HL1:=hid hL1';clear hc hA hp hpl hsA hX hU hTn HLT hL1';go_wp2_with fail;refine(hcall _).mono ?_;rintro e w3 ⟨rfl,hok,h3⟩;have hX92:=HSA.out hok;have hUs:U.size<=92000*(k+1):=by rw[HUs.out];omega
  have q1:¬9223372036854775807<T.size+X.size:=by omega
  have hbel3:=hbel.trans (h3.mono hszr);clear hcall h3 c0 hbel
  by_cases h9:L1>9
  ·have t2:decide ((L1:Int)>9)=true:=aG (by omega);have t3:decide (9<(L1:Int))=true:=aG (by omega);have HL2:=hid (show 1=lvN lv (k+1) by have:=HL.out;have:=HL1.out;unfold lvN at*;omega);go_wp2_with fail;have hg:=HG.out
   go_roundg (l.length-(k+1))
   case measure=>omega
   case rel=>exact⟨k+1,1,U,by omega,rfl,by go_num,rfl,rfl,by decide,by decide,hid ⟨HL2.out,HTn.out.symm⟩,hUs,hbel3⟩
  ·have t2:decide ((L1:Int)>9)=false:=aE (by omega);have t3:decide (9<(L1:Int))=false:=aE (by omega);have HL2:=hid (show L1=lvN lv (k+1) by have:=HL.out;have:=HL1.out;unfold lvN at*;omega);have h1:1<=L1:=by have:=HL1.out;omega
   go_wp2_with fail;have hg:=HG.out
   go_roundg (l.length-(k+1))
   case measure=>omega
   case rel=>exact⟨k+1,L1,U,by omega,rfl,by go_num,rfl,rfl,h1,by omega,hid ⟨HL2.out,HTn.out.symm⟩,hUs,hbel3⟩
theorem refStreams18_no (n:Int) (v:Value) (l:List ByteArray) (w:World) (hr:RdT w v l) (h:(n<1\/9<n)\/l=[]):
  Calls Tryz.prog 33 #[.int .i64 n,v] w fun e w'=>e=.returned (.tuple #[.string ⟨#[]⟩,.int .i64 1])/\w'=w:=by
 obtain⟨a,ca,rfl,hca,hma,hA⟩:=hr.open;clear hr hA
 by_cases h1:n<1
 ·have t1:decide (n<1)=true:=aG h1;go_enter Tryz.func33,Tryz.ntmps33;go_wp2_with fail
  go_ret2
  exact⟨rfl,rfl⟩
 have t1:decide (n<1)=false:=aE h1
 by_cases h9:9<n
 ·have t2:decide (n>9)=true:=aG (by omega);have t3:decide (9<n)=true:=aG (by omega);go_enter Tryz.func33,Tryz.ntmps33;go_wp2_with fail
  go_ret2
  exact⟨rfl,rfl⟩
 have t2:decide (n>9)=false:=aE (by omega);have t3:decide (9<n)=false:=aE (by omega);obtain rfl:l=[]:=h.resolve_left (by omega);go_enter Tryz.func33,Tryz.ntmps33;go_wp2_with fail
 go_ret2
 exact⟨rfl,rfl⟩
end Go.Proofs.YtihbnmlinkbnkaaGreatDoor
