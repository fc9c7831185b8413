/-
  Texts put together (part 27): the walks and the plain laws on which the statement stands.
-/
import Derived.Test.YtiifmcicleljjaaGreatDoorZ12
import Derived.Test.YtiifmcicleljjaaGreatDoorZ24
set_option maxRecDepth 100000
set_option maxHeartbeats 12800000
open Go.IntKind renaming i64->aI,wrap_i64->aM
open Go.RowKit.Below renaming refl->aB
open List renaming append_assoc->cF,append_nil->eE,drop_drop->xM,drop_eq_getElem_cons->oH,drop_of_length_le->qY,getElem?_drop->gR,getElem?_eq_getElem->aN,length->tM,length_append->aL,length_drop->cI,mem_of_getElem?->cH
open Nat renaming le_refl->aA,lt_or_ge->bT,zero_le->aU
namespace Go.Proofs.YtiifmcicleljjaaGreatDoor
section
theorem aI1 {s:List UInt8} {out:List UInt8} (h:s≠[]) {all:List UInt8} (ho:out++bC s=all):(out++mN s (dX s))++bC (s.drop (dX s))=all:=by
 rw[<-ho,yU s h,cF]
end
section
open Go.RowKit Go
theorem aKi (s:ByteArray) (w:World) (hs:s.size<=140737488355328):
  Calls Tryz.prog 96 #[.string s] w fun e w'=>e=.returned (.int .i64 ((dX s.data.toList:Nat):Int))/\Below w.heap.size w w':=by
 have HL:=hid (show s.data.toList.length=s.size by simp);go_enter Tryz.func96,Tryz.ntmps96;go_wp2_with fail
 go_loopg [3] 256 (fun g s3 wr=>∃k:Nat,k<=s.size/\k<=255/\g=256-k/\s3=.int .i64 (k:Int)/\Hid (∀j,j<k->s.data.toList[j]? =s.data.toList[0]?)/\Below w.heap.size w wr)
 case atStart=>exact⟨0,aU _,by omega,rfl,rfl,hid (fun j hj=>by omega),aB _ _⟩
 case round=>
  obtain⟨k,hk,hk2,hg,rfl,HJ,hbel⟩:=hrel;have HG:=hid hg;clear hg
  by_cases hlt:k<s.size
  ·have t1:decide ((k:Int)<(s.size:Int))=true:=decide_eq_true (by omega)
   by_cases h255:k<255
   ·have t2:decide ((k:Int)<255)=true:=decide_eq_true (by omega);have h0:0<s.size:=by omega
    have eb:=eW s k hlt;have e0:=eW s 0 h0;obtain⟨b,hb⟩:∃b,b=s[k].toNat:=⟨_,rfl⟩;obtain⟨c,hc⟩:∃c,c=s[0].toNat:=⟨_,rfl⟩
    by_cases hbc:b=c
    ·have t3:((b:Int)==(c:Int))=true:=by rw[hbc];simp
     have t4:decide ((b:Int)=(c:Int))=true:=decide_eq_true (by omega);have HS:=hid (show s.data.toList[k]? =s.data.toList[0]? by rw[eb,e0];congr 1;exact UInt8.toNat_inj.1 (by rw[<-hb,<-hc];exact hbc));have e1:(s[k].toNat:Int)=(b:Int):=by rw[hb]
     have e2:(s[0].toNat:Int)=(c:Int):=by rw[hc]
     clear eb e0 hb hc;go_wp2_with fail
     go_quiet (fail)
     go_wp2_with fail;have hg:=HG.out
     go_roundg (256-(k+1))
     case measure=>omega
     case rel=>exact⟨k+1,by omega,by omega,rfl,by go_num,hid (fun j hj=>by rcases bT j k with q|q;exact HJ.out j q;rw[show j=k by omega];exact HS.out),iI hbel _⟩
    ·have t3:((b:Int)==(c:Int))=false:=by rw[beq_eq_false_iff_ne];omega
     have t4:decide ((b:Int)=(c:Int))=false:=decide_eq_false (by omega);have HP:=hid (show dX s.data.toList=k from DV hk2 (by rw[HL.out];exact hk) HJ.out (.inr (.inr (by rw[eb,e0];intro e;injection e with e;exact hbc (by rw[hb,hc,e])))));have e1:(s[k].toNat:Int)=(b:Int):=by rw[hb]
     have e2:(s[0].toNat:Int)=(c:Int):=by rw[hc]
     clear eb e0 hb hc;go_wp2_with fail
     go_quiet (fail)
     go_wp2_with fail;go_ret;exact⟨fX (by rw[HP.out]),iI hbel _⟩
   ·have t2:decide ((k:Int)<255)=false:=decide_eq_false (by omega);have HP:=hid (show dX s.data.toList=k from DV hk2 (by rw[HL.out];exact hk) HJ.out (.inl (by omega)));go_wp2_with fail
    go_quiet (fail)
    go_wp2_with fail;go_ret;exact⟨fX (by rw[HP.out]),iI hbel _⟩
  ·have t1:decide ((k:Int)<(s.size:Int))=false:=decide_eq_false (by omega);have HP:=hid (show dX s.data.toList=k from DV hk2 (by rw[HL.out];exact hk) HJ.out (.inr (.inl (by rw[HL.out];omega))));go_wp2_with fail
   go_quiet (fail)
   go_wp2_with fail;go_ret;exact⟨fX (by rw[HP.out]),iI hbel _⟩
theorem aKj (b:UInt8) (W:World):(convert 45 9 (.slice (some ⟨W.heap.size,0,none⟩) 1 1)).run Tryz.prog (W.alloc (.cells #[.int .u8 (b.toNat:Int)] 5)).drew=.ok (.string (mkS [b])) (W.alloc (.cells #[.int .u8 (b.toNat:Int)] 5)).drew:=
 lQ (l:=[b]) (Arr.rdB (w:=(W.alloc (.cells #[.int .u8 (b.toNat:Int)] 5)).drew) (l:=[b]) (Arr.new W 5 [.int .u8 (b.toNat:Int)]) rfl (by decide))
theorem aKk (s:ByteArray) (w:World) (hs:s.size<=1000000):
  Calls Tryz.prog 37 #[.string s] w fun e w'=>e=.returned (.string (mkS (bC s.data.toList)))/\Below w.heap.size w w':=by
 have HL:=hid (show s.data.toList.length=s.size by simp);go_enter Tryz.func37,Tryz.ntmps37;go_wp2_with fail
 go_loopg [3,4,5] s.size (fun g s3 s4 _s5 wr=>∃(a:Nat) (o:List UInt8),a<=s.size/\g=s.size-a/\s4=.int .i64 (a:Int)/\s3=.string (mkS o)/\Hid (o++bC (s.data.toList.drop a)=bC s.data.toList)/\Below w.heap.size w wr)
 case atStart=>exact⟨0,[],aU _,rfl,rfl,rfl,hid (by simp),aB _ _⟩
 case round=>
  obtain⟨a,o,ha,hg,rfl,rfl,HO,hbel⟩:=hrel;have HG:=hid hg;clear hg
  by_cases hlt:a<s.size
  ·have t1:decide ((a:Int)<(s.size:Int))=true:=decide_eq_true (by omega);have hne:s.data.toList.drop a≠[]:=fun e=>by have:=congrArg tM e;rw[cI,HL.out] at this;simp at this;omega
   have hbd:=pS _ hne;have hstep:=aI1 hne HO.out;have hol:o.length<=2000000:=by
    have h1:=(oS s.data.toList.length s.data.toList (aA _)).1;have h2:=congrArg tM HO.out;rw[aL] at h2;rw[HL.out] at h1;omega
   have hx:s.extract a s.size=mkS (s.data.toList.drop a):=by
    rw[nT,List.take_of_length_le (by rw[cI,HL.out];omega)]
   have hdl:(s.data.toList.drop a).length=s.size-a:=by rw[cI,HL.out]
   obtain⟨r,hr⟩:∃r,r=s.data.toList.drop a:=⟨_,rfl⟩;rw[<-hr] at hx hbd hstep hdl;have hcall:=fun W=>aKi (mkS r) W (by rw[cP];omega)
   obtain⟨n,hn⟩:∃n,n=dX r:=⟨_,rfl⟩;rw[fW,<-hn] at hcall;rw[<-hn] at hbd hstep;have hdrop:r.drop n=s.data.toList.drop (a+n):=by rw[hr,xM]
   have HSt:=hid hstep;have HD:=hid hdrop;have HR:=hid hr;clear hne hn hr hstep hdrop;have q1:a<=s.size:=ha;have q2:(a:Int)<=(s.size:Int):=by omega
   by_cases h4:n<4
   ·have t2:decide ((n:Int)<4)=true:=decide_eq_true (by omega);have m1:aI.wrap ((a:Int)+(n:Int))=((a+n:Nat):Int):=by rw[aM];omega
    have q3:a+n<=s.size:=by omega
    have q4:((a+n:Nat):Int)<=(s.size:Int):=by omega
    have q5:(a:Int)<=((a+n:Nat):Int):=by omega
    have q6:a<=a+n:=by omega
    have hx2:s.extract a (a+n)=mkS (mN r n):=by
     rw[nT,<-HR.out,show a+n-a=n by omega]
     congr 1
     unfold mN;rw[if_neg (by omega),eE,Nat.min_eq_left (by omega)]
    have hpl:(mN r n).length<=5:=by
     rw[TY r n (by omega)];split<;>omega
    obtain⟨p,hp⟩:∃p,p=mN r n:=⟨_,rfl⟩;rw[<-hp] at hx2 hpl;have HP:=hid hp;clear hp;obtain⟨c,hc⟩:∃c:Nat,c=a+n:=⟨_,rfl⟩;rw[<-hc] at m1 q3 q4 q5 q6 hx2;have hsum:mkS o++mkS p=mkS (o++p):=pM o p;have HC:=hid hc;clear hc;go_wp2_with fail;refine(hcall _).mono ?_;rintro e w1 ⟨rfl,hb1⟩;go_wp2_with fail;have hg:=HG.out;have hc:=HC.out;have hbs:=hbel.size
    go_roundg (s.size-c)
    case measure=>omega
    case rel=>exact⟨c,o++p,q3,rfl,by go_num,rfl,hid (by rw[HP.out,hc,<-HD.out];exact HSt.out),hbel.trans (hb1.mono hbs)⟩
   ·have t2:decide ((n:Int)<4)=false:=decide_eq_false (by omega);have m1:aI.wrap ((a:Int)+4)=((a+4:Nat):Int):=by rw[aM];omega
    have m2:aI.wrap ((a:Int)+(n:Int))=((a+n:Nat):Int):=by rw[aM];omega
    have m3:aI.wrap ((n:Int)-4)=((n-4:Nat):Int):=by rw[aM];omega
    have hx2:s.extract a (a+4)=mkS (r.take 4):=by
     rw[nT,<-HR.out,show a+4-a=4 by omega]
    obtain⟨d,hd⟩:∃d:Nat,d=n-4:=⟨_,rfl⟩;obtain⟨b,hb⟩:∃b:UInt8,b=UInt8.ofNat d:=⟨_,rfl⟩;have hb2:b.toNat=d:=by rw[hb,UInt8.toNat_ofNat'];omega
    have m4:IntKind.u8.wrap (d:Int)=(b.toNat:Int):=by rw[hb2,IntKind.wrap_u8];omega
    have hpp:r.take 4++[b]=mN r n:=by
     unfold mN;rw[if_pos (by omega),Nat.min_eq_right (by omega),hb,hd]
    rw[<-hd] at m3;obtain⟨e4,he4⟩:∃e4:Nat,e4=a+4:=⟨_,rfl⟩;obtain⟨c,hc⟩:∃c:Nat,c=a+n:=⟨_,rfl⟩;rw[<-he4] at m1 hx2;rw[<-hc] at m2;have q3:e4<=s.size:=by omega
    have q4:(e4:Int)<=(s.size:Int):=by omega
    have q5:(a:Int)<=(e4:Int):=by omega
    have q6:a<=e4:=by omega
    obtain⟨p,hp⟩:∃p,p=r.take 4:=⟨_,rfl⟩;have hpl:p.length<=4:=by rw[hp,List.length_take];omega
    rw[<-hp] at hx2 hpp;have hsum:mkS o++mkS p=mkS (o++p):=pM o p;have hsum2:mkS (o++p)++mkS [b]=mkS (o++p++[b]):=pM _ _;have HPP:=hid hpp;have HC:=hid hc;have q7:c<=s.size:=by omega
    have hcv:=aKj b;have q8:¬9223372036854775807<o.length+p.length:=by omega
    have q9:¬9223372036854775807<o.length+p.length+1:=by omega
    clear hb hb2 hd hp hpp he4 hc;go_wp2_with fail;refine(hcall _).mono ?_;rintro e w1 ⟨rfl,hb1⟩;go_wp2_with fail
    go_region
    all_goals
     go_wp2_with fail;have hg:=HG.out;have hc:=HC.out;have hbs:=hbel.size;have hb1s:=hb1.size
     go_roundg (s.size-c)
     case measure=>omega
     case rel=>exact⟨c,o++(p++[b]),q7,rfl,by go_num,rfl,hid (by rw[HPP.out,hc,<-HD.out];exact HSt.out),(hbel.trans (hb1.mono hbs)).trans (((aB _ w1).alloc (aA _) _).mono (by omega)).drew⟩
  ·have t1:decide ((a:Int)<(s.size:Int))=false:=decide_eq_false (by omega);have hfin:=HO.out;rw[List.drop_eq_nil_of_le (by rw[HL.out];omega),DL,eE] at hfin;have HF:=hid hfin;clear hfin;go_wp2_with fail;go_ret;exact⟨tY (by rw[HF.out]),hbel⟩
end
section
open Go.RowKit
theorem aL1 {l:List Int} (h0:∀x∈l,0<=x):cZ 0 l=dig (eY 0 l)++cZ 0 (l.drop (eY 0 l)):=by
 obtain⟨h1,h2⟩:=WO h0;rcases bT (eY 0 l) l.length with h|h
 ·have hx:=aN h;rw[h2 _ hx,oH h,cZ,if_neg (by have:=vY 0 l hx;omega),qF];simp
 ·have:=vX 0 l;rw[h1 (by omega),qY h];simp[cZ,qF]
theorem aL2 (v:Value) (l:List Int) (w:World) (hr:RdI w v l) (hne:0<l.length) (hlen:l.length<=100000) (hv:∀x∈l,0<=x/\x<=1000000):
  Calls Tryz.prog 100 #[v] w fun e w'=>∃v',e=.returned (.tuple #[v',.int .i64 0])/\OwI w' w.heap.size v' (cZ 0 l)/\Below w.heap.size w w':=by
 have HB:=hid (RJ v l w hr (fun x hx=>(hv x hx).1));obtain⟨a,ca,rfl,hca,hma,hA⟩:=hr.open;obtain⟨b0,o0,rfl,hb0,hc0⟩:=hA hne;unfold maxLen at hma;have HV:=hid hv;have HA:=hid hc0;clear hr hA hv hc0;go_enter Tryz.func100,Tryz.ntmps100;go_wp2_with fail;refine HB.out.mono ?_;rintro e w1 ⟨rfl,rfl⟩;clear HB;go_wp2_with fail
 go_loopg [4] l.length (fun gh s4 wr=>∃k:Nat,k<=l.length/\gh=l.length-k/\s4=.int .i64 k/\w1=wr)
 case atStart=>exact⟨0,aU _,rfl,rfl,rfl⟩
 case round=>
 obtain⟨k,hk,hg,rfl,rfl⟩:=hrel;have HG:=hid hg;clear hg
 by_cases hlt:k<l.length
 ·obtain⟨x,hx⟩:=dH hlt;have c1:=HA.out k x hx;have hxb:=HV.out x (cH hx);have t1:decide (1099511627776<x)=false:=decide_eq_false (by omega);clear hx;go_wp2_with fail;have hg:=HG.out
  go_roundg (l.length-(k+1))
  case measure=>omega
  case rel=>exact⟨k+1,by omega,rfl,by go_num,rfl⟩
 ·clear HG;go_wp2_with fail
  go_loopg [5,6,7] l.length (fun gh s5 s6 _s7 wq=>∃(i:Nat) (pre:List Int),i<=l.length/\gh=l.length-i/\s6=.int .i64 i/\OwI wq w1.heap.size s5 pre/\Hid (pre++cZ 0 (l.drop i)=cZ 0 l)/\pre.length<=i/\Below w1.heap.size w1 wq)
  case atStart=>exact⟨0,[],aU _,rfl,rfl,OwI.nil _ _,hid rfl,aU _,aB _ _⟩
  case round=>
  obtain⟨i,pre,hi,hg,rfl,hown,HP,hpl,hbel⟩:=hrel;have HG:=hid hg;clear hg
  by_cases hil:i<l.length
  ·obtain⟨m,hm⟩:∃m,m=eY 0 (l.drop i):=⟨_,rfl⟩;have hml:m<=l.length-i:=by rw[hm];have:=vX 0 (l.drop i);rwa[cI] at this
   have hz:=hid (show ∀j,j<m->∀x,l[i+j]? =some x->x=0 from fun j hj x hx=>by
    have hx':(l.drop i)[j]? =some x:=by rw[gR];exact hx
    have h1:=yM 0 (l.drop i) x (by rw[<-hm];exact cH (i:=j) (by rw[List.getElem?_take_of_lt hj];exact hx'));have h2:=(HV.out x (cH hx)).1;omega)
   have hnz:=hid (show ∀x,l[i+m]? =some x->0<x from fun x hx=>vY 0 (l.drop i) (by rw[<-hm,gR];exact hx));have hzl:=hid (show cZ 0 (l.drop i)=dig m++cZ 0 (l.drop (i+m)) by rw[aL1 (fun x hx=>(HV.out x (List.mem_of_mem_drop hx)).1),<-hm,xM]);have hdl:=(CA m).1;clear hm;obtain⟨wo,rfl⟩:∃wo:World,wo=wr:=⟨_,rfl⟩;have hcel:=hid (show ∀j x,l[j]? =some x->wo.cell? ⟨b0,o0+j,none⟩=some (.int .i64 x) from fun j x hx=>by rw[hbel.cell (p:=⟨b0,o0+j,none⟩) hb0];exact HA.out j x hx);go_wp2_with fail
   go_loopg [7] m (fun gh s7 wq=>∃n:Nat,n<=m/\gh=m-n/\s7=.int .i64 n/\wo=wq)
   case atStart=>exact⟨0,aU _,rfl,rfl,rfl⟩
   case round=>
   obtain⟨n,hn,hg,rfl,rfl⟩:=hrel;have HG2:=hid hg;clear hg
   by_cases hnm:n<m
   ·obtain⟨x,hx⟩:=dH (l:=l) (k:=i+n) (by omega);have c1:=hcel.out (i+n) x hx;have hx0:=hz.out n hnm x hx;have t1:(x==0)=true:=by rw[beq_iff_eq];exact hx0
    have t2:decide (i+n<l.length)=true:=decide_eq_true (by omega);clear hx hx0;go_wp2_with fail;have hg:=HG2.out
    go_roundg (m-(n+1))
    case measure=>omega
    case rel=>exact⟨n+1,by omega,rfl,by go_num,rfl⟩
   ·obtain rfl:m=n:=by omega
    clear hn hnm HG2;have hbs:=hbel.size;have hend:(i+m=l.length/\0<m)\/(i+m<l.length/\m=0)\/(i+m<l.length/\0<m):=by omega
    rcases hend with⟨h1,h2⟩|⟨h1,h2⟩|⟨h1,h2⟩
    ·have t2:decide (i+m<l.length)=false:=decide_eq_false (by omega);have t3:((m:Int)==0)=false:=by rw[beq_eq_false_iff_ne];omega
     have t4:l.length<=i+m:=by omega
     have H1:=hid h1;clear h1;go_wp2_with fail;refine(JJ m _ (by omega)).mono ?_;rintro e w2 ⟨dv,rfl,hdo,h2'⟩;have hsrc:=hdo.src;have hs2:=h2'.size;have hown2:=hown.below h2' (aA _);go_wp2_with (at_builtin;refine CO rfl _ _ rfl w1.heap.size _ _ rfl hown2 _ (dig m) rfl hsrc (by omega) (by omega) ?_;intro v' w3 hown' hB hgrow);have hg:=HG.out
     go_roundg (l.length-(i+m))
     case measure=>omega
     case rel=>
      refine⟨i+m,pre++dig m,by omega,rfl,by go_num,hown',hid ?_,by simp only[aL];omega,(bV hbel h2').trans hB⟩;rw[cF,<-hzl.out];exact HP.out
    ·subst h2;obtain⟨x,hx⟩:=dH (l:=l) (k:=i) (by omega);have c1:=hcel.out i x hx;have hx0:=hnz.out x hx;have hxb:=HV.out x (cH hx);have t1:(x==0)=false:=by rw[beq_eq_false_iff_ne];omega
     have t2:decide (i<l.length)=true:=decide_eq_true (by omega);have HX:=hid hx;have e2:=hid (show cZ 0 (l.drop i)=[x+1]++cZ 0 (l.drop (i+1)) by
      rw[oH (show i<l.length by omega),show l[i]=x from(List.getElem?_eq_some_iff.1 hx).2,cZ,if_neg (by omega),qF];simp)
     clear hx;go_wp2_with fail;refine(JJ 0 _ (by omega)).mono ?_;rintro e w2 ⟨dv,rfl,hdo,h2'⟩;have hsrc:=hdo.src;have hs2:=h2'.size;have hown2:=hown.below h2' (aA _);have c2:w2.cell? ⟨b0,o0+i,none⟩=some (.int .i64 x):=by
      rw[(bV hbel h2').cell (p:=⟨b0,o0+i,none⟩) hb0];exact HA.out i x HX.out
     go_wp2_with (first
      |(at_builtin;refine CO rfl _ _ rfl w1.heap.size _ _ rfl hown2 _ (dig 0) rfl hsrc (by simp only[qF,List.length_nil];omega) (by omega) ?_;intro v' w3 hown' hB hgrow;(rw[qF,eE] at hown');(have c3:=(hB.cell (p:=⟨b0,o0+i,none⟩) hb0).trans c2);(have hs3:=hB.size))
      |(at_builtin;refine eN rfl _ _ rfl w1.heap.size _ _ rfl (OwI.alloc hown' _) w3.heap.size (x+1) rfl ?_ ?_ ?_ ?_;(exact bS _ _ _);omega;(simp;omega);intro v4 w4 hown4 hB4 hgrow4))
     have hg:=HG.out
     go_roundg (l.length-(i+1))
     case measure=>omega
     case rel=>
      refine⟨i+1,pre++[x+1],by omega,rfl,by go_num,hown4,hid ?_,by simp only[aL,List.length_singleton];omega,(((bV hbel h2').trans hB).alloc (by omega) _).trans hB4⟩;rw[cF,<-e2.out];exact HP.out
    ·have t2:decide (i+m<l.length)=true:=decide_eq_true (by omega);obtain⟨x,hx⟩:=dH h1;have c1:=hcel.out (i+m) x hx;have hx0:=hnz.out x hx;have t1:(x==0)=false:=by rw[beq_eq_false_iff_ne];omega
     have t3:((m:Int)==0)=false:=by rw[beq_eq_false_iff_ne];omega
     clear hx;go_wp2_with fail;refine(JJ m _ (by omega)).mono ?_;rintro e w2 ⟨dv,rfl,hdo,h2'⟩;have hsrc:=hdo.src;have hs2:=h2'.size;have hown2:=hown.below h2' (aA _);go_wp2_with (at_builtin;refine CO rfl _ _ rfl w1.heap.size _ _ rfl hown2 _ (dig m) rfl hsrc (by omega) (by omega) ?_;intro v' w3 hown' hB hgrow);have hg:=HG.out
     go_roundg (l.length-(i+m))
     case measure=>omega
     case rel=>
      refine⟨i+m,pre++dig m,by omega,rfl,by go_num,hown',hid ?_,by simp only[aL];omega,(bV hbel h2').trans hB⟩;rw[cF,<-hzl.out];exact HP.out
  ·go_wp2_with fail
   go_ret2
   refine⟨_,rfl,?_,hbel⟩;have:=HP.out;rw[qY (by omega)] at this;simp only[cZ,qF,eE] at this;rw[<-this];exact hown
theorem wV (l:List Bool) (w:World) (hl:l.length<=1000000):
  Calls Tryz.prog 43 #[.agg #[.string (mkS (aD l)),.int .i64 (l.length:Int)]] w fun e w'=>∃v,e=.returned v/\RdI w' v (bI l)/\Below w.heap.size w w':=by
 go_enter Tryz.func43,Tryz.ntmps43;go_wp2_with fail;have hR:=Arr.new w 29 [.string (mkS (aD l)),.int .i64 (l.length:Int)];have hB0:Below w.heap.size w (w.alloc (.cells #[.string (mkS (aD l)),.int .i64 (l.length:Int)] 29)):=bD (aB _ _) _;change Arr (w.alloc (.cells #[.string (mkS (aD l)),.int .i64 (l.length:Int)] 29)) _ _ _ at hR;generalize w.alloc (.cells #[.string (mkS (aD l)),.int .i64 (l.length:Int)] 29)=w0 at*
 have hpl:(aD l).length<=125001:=by rw[gY];omega
 refine(aD7 (mkS (aD l)) _ (by rw[cP];omega)).mono ?_;rintro e w1 ⟨v,rfl,hown,h1⟩;rw[fW] at hown;obtain⟨a,c,rfl,hc1,hc2,_⟩:=hown.rd.open;have hR1:=hR.below h1 hR.lt;have c1:=hR1.cell (i:=1) rfl;have hblen:(bI (kW (aD l))).length=8*((l.length+7)/8):=by rw[cN,xZ,gY]
 have htk:(bI (kW (aD l))).take l.length=bI l:=by rw[aD5,aDl]
 have hrd:RdI w1 (.slice a l.length c) (bI l):=by
  have hlen:l.length=(bI l).length:=(cN l).symm;rw[<-htk];have h2:=hown.rd;obtain⟨a',c',e,k1,k2,k3⟩:=h2.open
  injection e with e1 e2 e3
  subst e1;subst e3;rcases Nat.eq_zero_or_pos l.length with q|q
  ·rw[q];exact⟨_,_,rfl,aU _,k2,.inl (by simp)⟩
  ·obtain⟨b,off,rfl,hb,hcell⟩:=k3 (by omega);have hl2:((bI (kW (aD l))).take l.length).length=l.length:=by rw[htk,cN]
   refine⟨_,_,by rw[hl2],by rw[hl2];omega,k2,.inr ⟨b,off,rfl,hb,fun j hj=>?_⟩⟩;rw[List.length_map,hl2] at hj;rw[hcell j _ (aN (by omega))];simp[List.getD,show j<(bI (kW (aD l))).length by omega,hj]
 have hB1:=bV hB0 h1;have z1:l.length<=c:=by omega
 have z2:(l.length:Int)<=(c:Int):=by omega
 clear htk hown;go_wp2_with fail;go_ret;exact⟨_,rfl,hrd,hB1⟩
end
end Go.Proofs.YtiifmcicleljjaaGreatDoor
