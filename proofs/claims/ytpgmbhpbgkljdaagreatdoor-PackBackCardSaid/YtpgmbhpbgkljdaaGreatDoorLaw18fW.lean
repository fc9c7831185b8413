/-
  The walk of the statement PackBack.
-/
import Derived.Test.YtpgmbhpbgkljdaaGreatDoorW6
import Derived.Test.YtpgmbhpbgkljdaaGreatDoorM18dW
set_option maxRecDepth 100000
set_option maxHeartbeats 12800000
set_option linter.unusedVariables false
set_option linter.unusedSimpArgs false
namespace Go.Proofs.YtpgmbhpbgkljdaaGreatDoor
open Go.RowKit Go Go.Shelf
theorem catT_strm {lv:Nat}:∀(l:List ByteArray) (i:Nat),(catT (allT (strmL lv i l))).data.toList=(catT l).data.toList
 |[],_=>rfl
 |t::l,i=>by
  have e:allT (strmL lv i (t::l))=pcT (lvN lv i) t++allT (strmL lv (i+1) l):=by
   show allT ([(lvN lv i,pcT (lvN lv i) t)]++strmL lv (i+1) l)=_;rw[allT_append,allT_one]
  rw[e,catT_append,catT_strm l,catT_pcT (by unfold lvN;omega)];have e2:=catT_append [t] l;rw[List.singleton_append] at e2;rw[e2]
  congr 1
  unfold catT;simp
theorem pcT_sum {lv:Nat} (h1:1<=lv) (s:ByteArray):((pcT lv s).map (fun t=>t.size)).sum=s.size:=by
 have h:=congrArg List.length (picL_flat (room:=40*lv) (by omega) s.data.toList);rw[List.length_flatten] at h;have hl:s.data.toList.length=s.size:=by simp
 have e:(pcT lv s).map (fun t=>t.size)=(picL (40*lv) s.data.toList).map List.length:=by
  unfold pcT;rw[List.map_map];refine List.map_congr_left (fun p _=>?_);exact cP p
 rw[e];omega
theorem arc_len {lv:Nat} {s:ByteArray} (o:okA [(lv,pcT lv s)]):(arcS [(lv,pcT lv s)]).size<=90*s.size+2780:=by
 obtain⟨h1,h9,h3⟩:=o _ (List.mem_singleton.2 rfl);have hb:=bodyW_len2 (r:=40*(lv:Int)) (by dsimp only at h9;omega) (pcT lv s) h3;have hl:=pcT_len (lv:=lv) h1 s;rw[pcT_sum h1] at hb;unfold arcS;rw[cP,<-arc_one,gY,strW_length];omega
theorem strm_size {lv:Nat} {a c:ByteArray} (o:okA (strmL lv 0 [a,⟨#[]⟩,c])):(arcS (strmL lv 0 [a,⟨#[]⟩,c])).size<=90*(a.size+c.size)+8340:=by
 have e:strmL lv 0 [a,⟨#[]⟩,c]=[(lvN lv 0,pcT (lvN lv 0) a)]++([(lvN lv 1,pcT (lvN lv 1) ⟨#[]⟩)]++[(lvN lv 2,pcT (lvN lv 2) c)]):=rfl;rw[e] at o ⊢;have k1:=arc_len (lv:=lvN lv 0) (s:=a) (fun p hp=>o p (List.mem_append_left _ hp));have k2:=arc_len (lv:=lvN lv 1) (s:=⟨#[]⟩) (fun p hp=>o p (List.mem_append_right _ (List.mem_append_left _ hp)));have k3:=arc_len (lv:=lvN lv 2) (s:=c) (fun p hp=>o p (List.mem_append_right _ (List.mem_append_right _ hp)));have z:(⟨#[]⟩:ByteArray).size=0:=rfl;rw[z] at k2;rw[<-arcS_join,<-arcS_join,ByteArray.size_append,ByteArray.size_append];omega
theorem lit3 (w:World) (a b c:ByteArray):RdT ((w.alloc (.cells #[.string a,.string b,.string c] 9)).drew) (.slice (some ⟨w.heap.size,0,none⟩) 3 3) [a,b,c]:=xY w 9 [.string a,.string b,.string c] 3 rfl (by decide)
theorem kpTA {w1 w0:World} {B:Nat} (h:Below B w0 w1/\B<=w1.heap.size) (o:Obj):Below B w0 (w1.alloc o)/\B<=(w1.alloc o).heap.size:=kpT h (bD (Below.refl _ _) o)
theorem kpTD (w:World) (o:Obj):Below w.heap.size w (w.alloc o).drew/\w.heap.size<=(w.alloc o).drew.heap.size:=⟨(bD (Below.refl _ _) o).drew,(bD (Below.refl w.heap.size w) o).size⟩
theorem packBack_any (s:ByteArray) (v:Value) (raw:List (Int×Int)) (level other pl:Int) (w:World) (hE:iF w) (_hs:s.size<=maxLen) (hr:RdP w v raw) (hwf:WfP raw) (hl1: -9223372036854775808<=level) (hl2:level<=9223372036854775807) (ho1: -9223372036854775808<=other) (ho2:other<=9223372036854775807) (hp1: -9223372036854775808<=pl) (hp2:pl<=9223372036854775807):
  Calls Tryz.prog 7 #[.string s,v,.int .i64 level,.int .i64 other,.int .i64 pl] w fun e w'=>e=.returned (.bool true)/\Below w.heap.size w w':=by
 obtain⟨qa,n,n1,n9,ma,ma',pka⟩:=lev18_any level hl1 hl2;obtain⟨qb,o,o1,o9,mb,mb',pkb⟩:=lev18_any other ho1 ho2;obtain⟨m,hmi,hm1,hm2⟩:=yI s.size 120 (by decide);have hmi2:min (s.size:Int) 120=(m:Int):=by rw[<-hmi,Int.min_def];split<;>split<;>omega
 obtain⟨X,hX⟩:∃X,X=s.extract 0 m:=⟨_,rfl⟩;have hXs:X.size<=120:=by rw[hX];simp;omega
 have hX':=hX.symm;have q1:(m:Int)<=(s.size:Int):=by omega
 clear hX;go_enter Tryz.func7,Tryz.ntmps7;go_wp2_with fail;refine(awake18_any _ hE).mono ?_;rintro e w1 ⟨rfl,h1⟩;have hr1:=hr.below h1;have hE1:=hE.below h1;clear hr hE;go_wp2_with fail;refine(text18_any X v raw 600 _ hr1 hwf (by omega) (by decide)).mono ?_;rintro e w2 ⟨Y,rfl,hY,h2⟩;have hE2:=hE1.below h2;have h02:=bV h1 h2;clear h1 h2 hr1 hwf hX' hmi hmi2 hm1 hm2 q1 hXs hE1;go_wp2_with fail;refine(pka _).mono ?_;rintro e w' ⟨rfl,rfl⟩;have hpk:=fun W=>pack18_any n Y W (by omega) n1 n9
 have hlY:=pcT_len n1 Y;go_wp2_with fail;refine(hpk _).mono ?_;rintro e w3 ⟨rfl,ok1,h3⟩;have hE3:=hE2.below h3;have h03:=bV h02 h3;have hrd1:=fun W h=>read18 n1 (s:=Y) (by omega) ok1 W h
 have hz1:=arc_len ok1;obtain⟨R,hR⟩:∃R,R=arcS [(n,pcT n Y)]:=⟨_,rfl⟩;rw[<-hR] at hrd1 hz1 ⊢;have hRs:R.size<=56780:=by omega
 have HR:=hid hR;clear hpk pka ma ma' hE2 h02 h3 hz1 hR;go_wp2_with fail;refine(hrd1 _ hE3).mono ?_;rintro e w4 ⟨rfl,h4⟩;have hE4:=hE3.below h4;have h04:=bV h03 h4;clear hrd1 hE3 h03 h4;obtain⟨p1,p2⟩:=vU pl ((Y.size:Int)+1) (by omega);obtain⟨S1,hS1⟩:∃S1,S1=Y.size+1:=⟨_,rfl⟩;have eS1:(Y.size:Int)+1=(S1:Int):=by omega
 rw[eS1] at p1 p2;have pkk:=fun W=>pick18_any pl (S1:Int) W hp1 hp2 (by omega) (by omega)
 obtain⟨k,hk⟩:∃k:Nat,gA pl (S1:Int)=(k:Int):=⟨_,(Int.toNat_of_nonneg p1).symm⟩;rw[hk] at p2 pkk;have hkY:k<=Y.size:=by omega
 clear hk p1 p2;obtain⟨Y0,hY0⟩:∃Y0,Y0=Y.extract 0 k:=⟨_,rfl⟩;obtain⟨Y1,hY1⟩:∃Y1,Y1=Y.extract k Y.size:=⟨_,rfl⟩;have hYl:Y.data.toList.length=Y.size:=by simp
 have d0:Y0.data.toList=Y.data.toList.take k:=by rw[hY0,extT18]
 have d1:Y1.data.toList=Y.data.toList.drop k:=by
  rw[hY1,nT,fW,List.take_of_length_le (by rw[List.length_drop];omega)]
 have s0:Y0.size=k:=by
  have:Y0.data.toList.length=Y0.size:=by simp
  rw[<-this,d0,List.length_take];omega
 have s1:Y1.size=Y.size-k:=by
  have:Y1.data.toList.length=Y1.size:=by simp
  rw[<-this,d1,List.length_drop];omega
 have hcat:(catT [Y0,⟨#[]⟩,Y1]).data.toList=Y.data.toList:=by
  unfold catT;rw[fW];show Y0.data.toList++([]++(Y1.data.toList++[]))=_;rw[List.append_nil,List.nil_append,d0,d1,List.take_append_drop]
 have hstr:=fun W v h=>streams_any o v [Y0,⟨#[]⟩,Y1] W h (Nat.succ_pos _) (by simp) (fun t ht=>by
  rcases List.mem_cons.1 ht with rfl|ht
  ·omega
  ·rcases List.mem_cons.1 ht with rfl|ht
   ·decide
   ·obtain rfl:=List.mem_singleton.1 ht;omega) o1 o9
 have hmid:=hid (fun h=>strm_size (lv:=o) (a:=Y0) (c:=Y1) h);have hcs:=catT_strm (lv:=o) [Y0,⟨#[]⟩,Y1] 0;rw[hcat] at hcs;have hsl:(strmL o 0 [Y0,⟨#[]⟩,Y1]).length=3:=rfl;obtain⟨SL,hSL⟩:∃SL,SL=strmL o 0 [Y0,⟨#[]⟩,Y1]:=⟨_,rfl⟩;rw[<-hSL] at hstr hcs hsl;rw[<-hSL] at hmid;clear hSL hcat;obtain⟨Bb,hB⟩:∃Bb,Bb=arcS SL:=⟨_,rfl⟩;obtain⟨OK,hOK⟩:∃OK:Prop,OK=okA SL:=⟨_,rfl⟩;rw[<-hB,<-hOK] at hstr;have HOK:=hid hOK;have HB:=hid hB;have HS0:=hid (show Y0.size+Y1.size=Y.size by omega);have hY0':=hY0.symm;have hY1':=hY1.symm;have q2:(k:Int)<=(Y.size:Int):=by omega
 have m1:IntKind.i64.wrap ((Y.size:Int)+1)=(S1:Int):=by rw[eS1];exact nat_wI S1 (by omega)
 have hb0:Below w4.heap.size w4 w4.drew/\w4.heap.size<=w4.drew.heap.size:=⟨(Below.refl w4.heap.size w4).drew,Nat.le_refl _⟩;clear hY0 hY1 d0 d1 s0 s1 hB hOK hYl hS1;go_wp2_with fail;clear m1 eS1;refine(pkk _).mono ?_;rintro e w' ⟨rfl,rfl⟩;clear pkk;go_wp2_with fail;have mrb:=nat_wI o (by omega)
 go_cut [19,20] (fun c19 c20 wx=>c19=.string Bb/\c20=.int .i64 0/\Hid OK/\Below w4.heap.size w4 wx/\w4.heap.size<=wx.heap.size)
 case first=>
  clear hcs hmid hsl HOK HB HS0 ok1 HR hRs hlY hE4 h04
  go_region_held3 (fun wx=>Below w4.heap.size w4 wx/\w4.heap.size<=wx.heap.size)
   (first
    |with_reducible assumption
    |with_reducible exact kpT (by assumption) (by assumption)
    |with_reducible exact kpTA (by assumption) _
    |with_reducible exact kpTD _ _)
   (first
    |(go_at_call 29;with_reducible refine(pkb _).mono ?_;rintro e w' ⟨rfl,rfl⟩)
    |(go_at_call 31;(first|refine(hstr _ _ (lit3 _ _ _ _)).mono ?_|refine(hstr _ _ (xY _ 9 [.string Y0,.string ⟨#[]⟩,.string Y1] 3 rfl (by decide))).mono ?_);rintro e w5 ⟨rfl,ok5,h5⟩))
  all_goals
   go_wp2_with fail;go_meet;exact⟨rfl,rfl,hid ok5,by assumption⟩
 case rest=>
 obtain⟨rfl,rfl,OKh,hbb⟩:=hcut;have hE5:=hE4.below hbb.1;have h05:=bV h04 hbb.1;have ok2:okA SL:=by rw[<-HOK.out];exact OKh.out
 have hz2:=hmid.out ok2;rw[<-HB.out] at hz2;have hS0:=HS0.out;have hBs:Bb.size<=62340:=by omega
 have hrd2:∀W,iF W->Calls Tryz.prog 19 #[.string Bb] W fun e w'=>e=.returned (.tuple #[.string Y,.int .i64 0])/\Below W.heap.size W w':=fun W h=>by
  have k:=read_arc (l:=SL) (fun q=>by rw[q] at hsl;simp at hsl) ok2 (by rw[<-HB.out];omega) W h;rw[<-HB.out,show catT (allT SL)=Y from ByteArray.ext (Array.toList_inj.1 hcs)] at k;exact k
 obtain⟨C,hC⟩:∃C,C=R++Bb:=⟨_,rfl⟩;obtain⟨YY,hYY⟩:∃YY,YY=Y++Y:=⟨_,rfl⟩;have hCs:C.size<=119500:=by rw[hC,ByteArray.size_append];omega
 have hrd3:∀W,iF W->Calls Tryz.prog 19 #[.string C] W fun e w'=>e=.returned (.tuple #[.string YY,.int .i64 0])/\Below W.heap.size W w':=fun W h=>by
  have e:C=arcS ([(n,pcT n Y)]++SL):=by rw[<-arcS_join,<-HR.out,<-HB.out,hC]
  have k:=read_arc (l:=[(n,pcT n Y)]++SL) (by simp) (okA_append ok1 ok2) (by rw[<-e];omega) W h;have e2:catT (allT ([(n,pcT n Y)]++SL))=YY:=ByteArray.ext (Array.toList_inj.1 (by
   rw[allT_append,allT_one,catT_append,catT_pcT n1,hcs,hYY,ByteArray.data_append,Array.toList_append]))
  rw[<-e,e2] at k;exact k
 have x1:¬9223372036854775807<R.size+Bb.size:=by omega
 have x2:¬9223372036854775807<Y.size+Y.size:=by omega
 have c1:=hC.symm;have c2:=hYY.symm;have yy1:(Y.toList==Y.toList)=true:=by simp
 have yy2:(YY.toList==YY.toList)=true:=by simp
 clear hC hYY hcs hmid hsl HR ok1 ok2 hz2 hS0 HS0 HB HOK OKh hbb hstr hE4 h04 hb0 pkb mb mb' mrb;go_wp2_with fail;refine(hrd2 _ hE5).mono ?_;rintro e w6 ⟨rfl,h6⟩;have hE6:=hE5.below h6;have h06:=bV h05 h6;clear hrd2 hE5 h05 h6;go_wp2_with fail;refine(hrd3 _ hE6).mono ?_;rintro e w7 ⟨rfl,h7⟩;go_wp2_with fail;go_ret;exact⟨rfl,bV h06 h7⟩
end Go.Proofs.YtpgmbhpbgkljdaaGreatDoor
