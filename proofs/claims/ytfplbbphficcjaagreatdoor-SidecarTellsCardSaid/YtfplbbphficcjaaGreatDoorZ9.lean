/-
  Texts put together (part 9): the walks and the plain laws on which the statement stands.
-/
import Derived.Test.YtfplbbphficcjaaGreatDoorZ2
import Derived.Test.YtfplbbphficcjaaGreatDoorZ4
set_option maxRecDepth 100000
set_option maxHeartbeats 12800000
set_option linter.unusedVariables false
set_option linter.unusedSimpArgs false
open Go.Proofs.Tryz
open Go.Proofs.Tryz renaming prog->pG
open Bool renaming or_eq_false_iff->DL
open Go.IntKind renaming i64->aJ,wrap_i64->aM
open Go.Lib renaming byteCells->pU
open Int renaming le_refl->lV
open List renaming append_nil->dI,drop_drop->kG,length_append->aL,length_cons->aU,length_nil->aV,length_pos_iff->gG,length_take->aQ,take_left'->rH
open Nat renaming le_refl->aD,mod_eq_of_lt->jT,mul_comm->pE,pow_succ->oP,zero_le->aO
open UInt8 renaming ofNat->eA
namespace Go.Proofs.YtfplbbphficcjaaGreatDoor
section
structure Ent where
 a:Int
 r:Int
 f:Int
 n:Int
 y:Int
def Ent.ok (d at':Int) (x:Ent):Prop:=x.f=d/\1<=x.n/\x.n<=18720/\40<=x.r/\x.r<=360/\x.r%40=0/\at'<x.a
instance okDec (fr at':Int) (x:Ent):Decidable (x.ok fr at'):=inferInstanceAs (Decidable (_/\_))
def oL:Int->Int->List Ent->Prop
 |_,_,[]=>True
 |d,at',x::l=>x.ok d at'/\oL (x.f+x.n) x.a l
instance rightDec:(fr at':Int)->(l:List Ent)->Decidable (oL fr at' l)
 |_,_,[]=>isTrue trivial
 |fr,at',x::l=>by
  unfold oL;have:=rightDec (x.f+x.n) x.a l;exact inferInstance
def jA (l:List Ent):Prop:=oL 0 31 l
instance rightLDec (l:List Ent):Decidable (jA l):=inferInstanceAs (Decidable (oL _ _ _))
def beL:Nat->Nat->List UInt8
 |0,_=>[]
 |k+1,v=>eA (v/256^k)::beL k v
def bP (s:List UInt8):Nat:=s.foldl (fun v b=>v*256+b.toNat) 0
theorem nT:∀(k v:Nat),(beL k v).length=k
 |0,_=>rfl
 |k+1,v=>by simp[beL,nT]
theorem VP:∀(s:List UInt8) (v:Nat),s.foldl (fun v b=>v*256+b.toNat) v=v*256^s.length+bP s
 |[],v=>by simp[bP]
 |b::s,v=>by
  have d:=VP s (v*256+b.toNat);have e:=VP s (0*256+b.toNat)
  grind [bP]
theorem NJ (b:UInt8) (s:List UInt8):bP (b::s)=b.toNat*256^s.length+bP s:=by grind [VP,bP]
theorem VQ:∀s:List UInt8,bP s<256^s.length
 |[]=>by simp[bP]
 |b::s=>by
  have d:=VQ s;have e:=b.toNat_lt;rw[NJ,aU,oP];have h:b.toNat*256^s.length+256^s.length<=256^s.length*256:=by
   rw[<-Nat.succ_mul,pE];exact Nat.mul_le_mul_left _ (by omega)
  omega
theorem AI:∀(k v:Nat),bP (beL k v)=v%256^k
 |0,v=>by simp[beL,bP,Nat.mod_one]
 |k+1,v=>by
  show bP (eA (v/256^k)::beL k v)=_;have e:(eA (v/256^k)).toNat=v/256^k%256:=by simp
  rw[NJ,nT,AI k v,e,oP,Nat.mod_mul,pE,Nat.add_comm]
def rV (x:Ent):List UInt8:=beL 8 x.a.toNat++(beL 2 x.r.toNat++(beL 8 x.f.toNat++(beL 4 x.n.toNat++beL 4 x.y.toNat)))
def qJ (s:List UInt8):Ent:=⟨bP (s.take 8),bP ((s.drop 8).take 2),bP ((s.drop 10).take 8),bP ((s.drop 18).take 4),bP ((s.drop 22).take 4)⟩
theorem aJ2 (x:Ent):(rV x).length=26:=by simp[rV,nT]
def Ent.fit (x:Ent):Prop:=0<=x.a/\x.a<9223372036854775808/\0<=x.r/\x.r<65536/\0<=x.f/\x.f<9223372036854775808/\0<=x.n/\x.n<4294967296/\0<=x.y/\x.y<4294967296
theorem GI {k:Nat} {v:Int} (e:0<=v) (d:v.toNat<256^k):((bP (beL k v.toNat):Nat):Int)=v:=by
 rw[AI,jT d];omega
theorem bD7 {x:Ent} (h:x.fit) (t:List UInt8):qJ (rV x++t)=x:=by
 obtain⟨H,h2,I,h4,J,h6,L,h8,M,a0⟩:=h;have G:=nT 8 x.a.toNat;have O:=nT 2 x.r.toNat;have T:=nT 8 x.f.toNat;have U:=nT 4 x.n.toNat;have V:=nT 4 x.y.toNat;have Y:=GI (k:=8) H (by omega);have Z:=GI (k:=2) I (by omega);have b3:=GI (k:=8) J (by omega);have b4:=GI (k:=4) L (by omega);have b5:=GI (k:=4) M (by omega);unfold qJ rV;generalize beL 8 x.a.toNat=D at*
 generalize beL 2 x.r.toNat=F at*
 generalize beL 8 x.f.toNat=A at*
 generalize beL 4 x.n.toNat=e at*
 generalize beL 4 x.y.toNat=d at*
 simp only[List.append_assoc];have g1:(D++(F++(A++(e++(d++t))))).take 8=D:=rH G;have d1:(D++(F++(A++(e++(d++t))))).drop 8=F++(A++(e++(d++t))):=List.drop_left' G;have d2:(D++(F++(A++(e++(d++t))))).drop 10=A++(e++(d++t)):=by grind
 have d3:(D++(F++(A++(e++(d++t))))).drop 18=e++(d++t):=by grind
 have d4:(D++(F++(A++(e++(d++t))))).drop 22=d++t:=by grind [kG,List.drop_left',qJ,rV]
 rw[g1,d1,d2,d3,d4,rH O,rH T,rH U,rH V,Y,Z,b3,b4,b5]
def jB (l:List Ent):List UInt8:=(l.map rV).flatten
def jC:Nat->List UInt8->List Ent
 |0,_=>[]
 |n+1,s=>qJ s::jC n (s.drop 26)
theorem aJ3 (x:Ent) (l:List Ent):jB (x::l)=rV x++jB l:=rfl
theorem VS:∀l:List Ent,(jB l).length=26*l.length
 |[]=>rfl
 |x::l=>by
  rw[aJ3,aL,aJ2,VS l,aU];omega
theorem VT:∀(n:Nat) (s:List UInt8),(jC n s).length=n
 |0,_=>rfl
 |n+1,s=>by simp[jC,VT]
theorem aJ4:∀(l:List Ent),(∀x∈l,x.fit)->jC l.length (jB l)=l
 |[],_=>rfl
 |x::l,h=>by
  rw[aJ3,aU];show qJ (rV x++jB l)::jC l.length ((rV x++jB l).drop 26)=_;rw[bD7 (h x (List.mem_cons_self ..)),List.drop_left' (aJ2 x),aJ4 l (fun y d=>h y (List.mem_cons_of_mem _ d))]
def oM (size sum:Nat) (l:List Ent):List UInt8:=[80,77,105,49]++(beL 8 size++(beL 4 sum++(beL 4 l.length++jB l)))
def dX (s:List UInt8):List Ent×Nat×Nat×Int:=
 if s.length<20 then([],0,0,2)
 else if s.take 4≠[80,77,105,49]\/9223372036854775808<=bP ((s.drop 4).take 8) then([],0,0,3)
 else if s.length<20+26*bP ((s.drop 16).take 4) then([],0,0,2)
 else if 20+26*bP ((s.drop 16).take 4)<s.length then([],0,0,3)
 else if ¬((∀x∈jC (bP ((s.drop 16).take 4)) (s.drop 20),x.a<9223372036854775808/\x.f<9223372036854775808)/\jA (jC (bP ((s.drop 16).take 4)) (s.drop 20))) then([],0,0,3)
 else(jC (bP ((s.drop 16).take 4)) (s.drop 20),bP ((s.drop 4).take 8),bP ((s.drop 12).take 4),0)
theorem VU (size sum:Nat) (l:List Ent):(oM size sum l).length=20+26*l.length:=by grind [oM,aL,nT,VS,aU,aV]
theorem VW (size sum:Nat) (l:List Ent) (t:List UInt8):
  (oM size sum l++t).take 4=[80,77,105,49]/\((oM size sum l++t).drop 4).take 8=beL 8 size/\((oM size sum l++t).drop 12).take 4=beL 4 sum/\((oM size sum l++t).drop 16).take 4=beL 4 l.length/\(oM size sum l++t).drop 20=jB l++t:=by simp[nT,oM,beL,jB]
theorem aJ6 {size sum:Nat} {l:List Ent} (O:size<9223372036854775808) (T:sum<4294967296) (U:l.length<4294967296) (d:∀x∈l,x.fit) (H:jA l):dX (oM size sum l)=(l,size,sum,0):=by
 obtain⟨h,A,D,F,e⟩:=VW size sum l [];rw[dI] at h A D F e;rw[dI] at e;have I:=VU size sum l;have J:bP (beL 8 size)=size:=by grind [AI,jA,dX,oM]
 have L:bP (beL 4 sum)=sum:=by grind [AI,jA,dX,oM]
 have M:bP (beL 4 l.length)=l.length:=by grind [AI,jA,dX,oM]
 unfold dX;rw[h,A,D,F,e,J,L,M,I,aJ4 l d,aA (by omega),aA (by grind),aA (by omega),aA (by omega),aA (fun k=>k ⟨fun x G=>⟨(d x G).2.1,(d x G).2.2.2.2.2.1⟩,H⟩)]
theorem bEa {size sum:Nat} {l:List Ent} (d:size<9223372036854775808) (e:l.length<4294967296) {m:List UInt8} (h:m≠[]):(dX (oM size sum l++m)).2.2.2=3:=by grind [VW,VU,gG,bP,beL,AI,jT,dX,aL,oM]
end
section
open Go.RowKit Go
abbrev kE:=Int×Int×Int
def GJ (x:kE) (p d:Int):Ent:=⟨p+cK x.1 300,40*(1+cK x.2.2 9),d,1+cK x.2.1 30,cK x.2.2 1000⟩
def pC:List kE->Int->Int->List Ent
 |[],_,_=>[]
 |x::l,p,d=>GJ x p d::pC l (p+cK x.1 300+1) (d+(1+cK x.2.1 30))
def tG:List kE->Int->Int
 |[],p=>p
 |x::l,p=>tG l (p+cK x.1 300+1)
def rB:List kE->Int->Int
 |[],d=>d
 |x::l,d=>rB l (d+(1+cK x.2.1 30))
theorem aKd (x:kE):∀(l:List kE) (p d:Int),pC (l++[x]) p d=pC l p d++[GJ x (tG l p) (rB l d)]
 |[],_,_=>rfl
 |y::l,p,d=>by simp[pC,aKd,kE,GJ,tG,rB]
theorem aKe (x:kE):∀(l:List kE) (p:Int),tG (l++[x]) p=tG l p+cK x.1 300+1
 |[],_=>rfl
 |y::l,p=>aKe x l _
theorem aKf (x:kE):∀(l:List kE) (d:Int),rB (l++[x]) d=rB l d+(1+cK x.2.1 30)
 |[],_=>rfl
 |y::l,d=>aKf x l _
theorem aKg:∀(l:List kE) (p:Int),p<=tG l p/\tG l p<=p+300*(l.length:Int)
 |[],p=>⟨lV _,by simp[tG]⟩
 |x::l,p=>by
  obtain⟨d,e⟩:=aKg l (p+cK x.1 300+1);obtain⟨h,A⟩:=lN x.1 300 (by decide);show p<=tG l (p+cK x.1 300+1)/\tG l (p+cK x.1 300+1)<=_
  grind
theorem VX:∀(l:List kE) (d:Int),d<=rB l d/\rB l d<=d+30*(l.length:Int)
 |[],p=>⟨lV _,by simp[rB]⟩
 |x::l,p=>by
  obtain⟨e,h⟩:=VX l (p+(1+cK x.2.1 30));obtain⟨A,D⟩:=lN x.2.1 30 (by decide);show p<=rB l (p+(1+cK x.2.1 30))/\rB l (p+(1+cK x.2.1 30))<=_
  grind
theorem VY:∀(l:List kE) (p d:Int),(pC l p d).length=l.length
 |[],_,_=>rfl
 |x::l,p,d=>by simp[pC,VY,kE]
def tY (d:List kE):List Ent:=pC (d.take 20) 32 0
theorem bG8 (d:List kE):(tY d).length<=20:=by unfold tY;rw[VY,aQ];omega
end
section
open Go
instance entDec:DecidableEq Ent:=fun x y=>
 if h:x.a=y.a/\x.r=y.r/\x.f=y.f/\x.n=y.n/\x.y=y.y then isTrue (by
  obtain⟨a,r,f,n,c⟩:=x;obtain⟨a',r',f',n',c'⟩:=y;obtain⟨h1,h2,h3,h4,h5⟩:=h;dsimp only at h1 h2 h3 h4 h5;rw[h1,h2,h3,h4,h5]) else isFalse (fun e=>h (by rw[e];exact⟨rfl,rfl,rfl,rfl,rfl⟩))
theorem BB:∀(l:List kE) (p d:Int),0<=p->p+300*(l.length:Int)<=1000000->0<=d->d+30*(l.length:Int)<=1000000->∀x∈pC l p d,x.fit
 |[],_,_,_,_,_,_,_,h=>nomatch h
 |x::l,p,d,F,A,G,D,y,e=>by
  obtain⟨H,I⟩:=lN x.1 300 (by decide);obtain⟨J,L⟩:=lN x.2.1 30 (by decide);obtain⟨M,O⟩:=lN x.2.2 9 (by decide);obtain⟨T,U⟩:=lN x.2.2 1000 (by decide);rw[aU] at A D;push_cast at A D;rcases List.mem_cons.1 e with rfl|e
  ·unfold Ent.fit GJ
   grind
  ·exact BB l (p+cK x.1 300+1) (d+(1+cK x.2.1 30)) (by omega) (by omega) (by omega) (by omega) y e
theorem EX (d:List kE):∀x∈tY d,x.fit:=by
 have h:((d.take 20).length:Int)<=20:=by grind
 exact BB _ _ _ (by decide) (by omega) (by decide) (by omega)
def AJ (s:List UInt8):Ent:=⟨aJ.wrap (bP (s.take 8):Int),bP ((s.drop 8).take 2),aJ.wrap (bP ((s.drop 10).take 8):Int),bP ((s.drop 18).take 4),bP ((s.drop 22).take 4)⟩
def wR (s:List UInt8):Bool:=decide (9223372036854775808<=bP (s.take 8))||decide (9223372036854775808<=bP ((s.drop 10).take 8))
def qK:Nat->List UInt8->List Ent
 |0,_=>[]
 |n+1,s=>AJ s::qK n (s.drop 26)
def rC:Nat->List UInt8->Bool
 |0,_=>false
 |n+1,s=>wR s||rC n (s.drop 26)
theorem DD {s:List UInt8} {k n:Nat} (h:s.length<=k) (d:256^k=n):bP s<n:=by
 have:=VQ s;have:=Nat.pow_le_pow_right (n:=256) (by decide) h;omega
theorem aKh:∀(n:Nat) (s:List UInt8),qK (n+1) s=qK n s++[AJ (s.drop (26*n))]
 |0,s=>by simp[qK]
 |n+1,s=>by
  show AJ s::qK (n+1) (s.drop 26)=AJ s::(qK n (s.drop 26)++_);rw[aKh n,kG,show 26+26*n=26*(n+1) by omega]
theorem aKi:∀(n:Nat) (s:List UInt8),rC (n+1) s=(rC n s||wR (s.drop (26*n)))
 |0,s=>by simp[rC]
 |n+1,s=>by
  show(wR s||rC (n+1) (s.drop 26))=(wR s||rC n (s.drop 26)||_);rw[aKi n,kG,Bool.or_assoc,show 26+26*n=26*(n+1) by omega]
theorem VZ:∀(n:Nat) (s:List UInt8),(qK n s).length=n
 |0,s=>rfl
 |n+1,s=>by simp[qK,VZ]
theorem aKj {s:List UInt8} (h:wR s=false):AJ s=qJ s/\(qJ s).a<9223372036854775808/\(qJ s).f<9223372036854775808:=by
 unfold wR at h;obtain⟨d,e⟩:=DL.1 h;have d:=of_decide_eq_false d;have e:=of_decide_eq_false e;have A:aJ.wrap (bP (s.take 8):Int)=(bP (s.take 8):Int):=by rw[aM];omega
 have D:aJ.wrap (bP ((s.drop 10).take 8):Int)=(bP ((s.drop 10).take 8):Int):=by rw[aM];omega
 grind [AJ,qJ,bP,wR]
theorem bEd (s:List UInt8):wR s=false↔(qJ s).a<9223372036854775808/\(qJ s).f<9223372036854775808:=by grind [aKj,bP,wR,qJ]
theorem aKk:∀(n:Nat) (s:List UInt8),rC n s=false->qK n s=jC n s
 |0,_,_=>rfl
 |n+1,s,h=>by
  obtain⟨d,e⟩:=DL.1 h;show AJ s::_=qJ s::_;rw[(aKj d).1,aKk n _ e]
theorem WA:∀(n:Nat) (s:List UInt8),rC n s=false↔∀x∈jC n s,x.a<9223372036854775808/\x.f<9223372036854775808
 |0,_=>⟨fun _ _ h=>(nomatch h),fun _=>rfl⟩
 |n+1,s=>by
  show(wR s||rC n (s.drop 26))=false↔∀x∈qJ s::jC n (s.drop 26),_;rw[DL,bEd,WA n,List.forall_mem_cons]
theorem bEe (s:List UInt8) (h:s.length<=1000000):(dX s).1.length<=1000000:=by grind [dX,jC,VT]
end
section
open Go.Shelf Go.RowKit
def FU:Go.Shelf.Ren:=⟨fun|166=>999983|167=>163|169=>164|170=>162|240=>187|276=>201|n=>n,fun|3=>3|4=>4|5=>5|9=>9|20=>20|37=>61|70=>237|72=>239|75=>68|80=>243|127=>276|164=>266|n=>n,fun|n=>n⟩
theorem bAj:Go.Proofs.Lays.n167 pG FU:={
 mixed:=by kernel_rfl
 f167:=func163.trans (congrArg some (by kernel_rfl))
 f240:=func187.trans (congrArg some (by kernel_rfl))
 f276:=func201.trans (congrArg some (by kernel_rfl))
 t0:=underlying0
 a0:=Tryz.isAgg0
 z0:=Tryz.sizeOf0
 v0:=Tryz.zeroValue0
 t4:=underlying4
 a4:=Tryz.isAgg4
 z4:=Tryz.sizeOf4
 v4:=Tryz.zeroValue4
 t5:=underlying5
 a5:=Tryz.isAgg5
 z5:=Tryz.sizeOf5
 v5:=Tryz.zeroValue5
 t9:=underlying9
 a9:=Tryz.isAgg9
 z9:=Tryz.sizeOf9
 v9:=Tryz.zeroValue9
 t20:=underlying20
 a20:=Tryz.isAgg20
 z20:=Tryz.sizeOf20
 v20:=Tryz.zeroValue20
 t37:=underlying61
 a37:=Tryz.isAgg61
 z37:=Tryz.sizeOf61
 v37:=Tryz.zeroValue61
 t70:=underlying237
 a70:=Tryz.isAgg237
 z70:=Tryz.sizeOf237
 v70:=Tryz.zeroValue237
 t72:=underlying239
 a72:=Tryz.isAgg239
 z72:=Tryz.sizeOf239
 v72:=Tryz.zeroValue239
 t75:=underlying68
 a75:=Tryz.isAgg68
 z75:=Tryz.sizeOf68
 v75:=Tryz.zeroValue68
 t164:=underlying266
 a164:=Tryz.isAgg266
 z164:=Tryz.sizeOf266
 v164:=Tryz.zeroValue266}
theorem bAk:Go.Proofs.Lays.n169 pG FU:={
 mixed:=by kernel_rfl
 f169:=func164.trans (congrArg some (by kernel_rfl))
 t0:=underlying0
 a0:=Tryz.isAgg0
 z0:=Tryz.sizeOf0
 v0:=Tryz.zeroValue0
 t3:=underlying3
 a3:=Tryz.isAgg3
 z3:=Tryz.sizeOf3
 v3:=Tryz.zeroValue3
 t9:=underlying9
 a9:=Tryz.isAgg9
 z9:=Tryz.sizeOf9
 v9:=Tryz.zeroValue9
 t37:=underlying61
 a37:=Tryz.isAgg61
 z37:=Tryz.sizeOf61
 v37:=Tryz.zeroValue61
 t70:=underlying237
 a70:=Tryz.isAgg237
 z70:=Tryz.sizeOf237
 v70:=Tryz.zeroValue237
 t72:=underlying239
 a72:=Tryz.isAgg239
 z72:=Tryz.sizeOf239
 v72:=Tryz.zeroValue239
 t127:=underlying276
 a127:=Tryz.isAgg276
 z127:=Tryz.sizeOf276
 v127:=Tryz.zeroValue276}
theorem bAl:Go.Proofs.Lays.n170 pG FU:={
 mixed:=by kernel_rfl
 f170:=func162.trans (congrArg some (by kernel_rfl))
 t0:=underlying0
 a0:=Tryz.isAgg0
 z0:=Tryz.sizeOf0
 v0:=Tryz.zeroValue0
 t3:=underlying3
 a3:=Tryz.isAgg3
 z3:=Tryz.sizeOf3
 v3:=Tryz.zeroValue3
 t37:=underlying61
 a37:=Tryz.isAgg61
 z37:=Tryz.sizeOf61
 v37:=Tryz.zeroValue61
 t70:=underlying237
 a70:=Tryz.isAgg237
 z70:=Tryz.sizeOf237
 v70:=Tryz.zeroValue237
 t72:=underlying239
 a72:=Tryz.isAgg239
 z72:=Tryz.sizeOf239
 v72:=Tryz.zeroValue239}
theorem UB:Builder.Extra pG FU:={
 sizeBuilder:=by kernel_rfl
 liesBuilder:=by kernel_rfl
 t5:=underlying5
 a5:=Tryz.isAgg5
 z5:=Tryz.sizeOf5
 v5:=Tryz.zeroValue5
 infoByte:=by kernel_rfl
 cellsByte:=by kernel_rfl
 sizeByte:=by kernel_rfl
 neB5:=by decide}
def Bld (w:World) (B b:Nat) (l:List UInt8):Prop:=Lib.IsBuilderF 239 5 B b (pU l) w
theorem aHi (B b:Nat) (l:List UInt8) (c:UInt8) (w:World) (h:Bld w B b l) (d:l.length+1<=140737488355328) (A:B<=w.heap.size):
  Calls pG 163 #[.pointer (some ⟨b,0,none⟩),.int .u8 (c.toNat:Int)] w fun e w'=>e=.returned .nilIface/\Bld w' B b (l++[c])/\Below B w w'/\Lib.OthersKept 5 (some b) w w':=by
 refine(Any.Builder_WriteByte_k bAj UB B b (pU l) (c.toNat:Int) w h (by simpa [pU] using d) A).mono ?_;rintro e w' ⟨rfl,D,F,G⟩;refine⟨rfl,.inr ?_,F,G⟩;have e:pU (l++[c])=pU l++[Value.int .u8 (c.toNat:Int)]:=by simp[pU]
 rw[e];exact D
theorem MP (B b:Nat) (l:List UInt8) (w:World) (h:Bld w B b l) (d:B<=w.heap.size):
  Calls pG 164 #[.pointer (some ⟨b,0,none⟩)] w fun e w'=>e=.returned (.string (mkS l))/\Bld w' B b l/\Below B w w'/\Lib.OthersKept 5 (some b) w w':=
 Any.Builder_String_any_k bAk UB B b l w h d
theorem MQ (B b:Nat) (l:List UInt8) (w:World) (h:Bld w B b l):
  Calls pG 162 #[.pointer (some ⟨b,0,none⟩)] w fun e w'=>e=.returned (.int .i64 (l.length:Int))/\w'=w:=by
 refine(Any.Builder_Len_f bAl B b (pU l) w h).mono ?_;rintro e w' ⟨rfl,rfl⟩;refine⟨?_,rfl⟩;simp[pU]
end
section
def ahd (a b:Int×Int):Prop:=a.1<b.1\/(a.1=b.1/\a.2<b.2)
instance (a b:Int×Int):Decidable (ahd a b):=inferInstanceAs (Decidable (_\/_))
def oG (l:List (Int×Int)):Prop:=∀j,0<j->j<l.length->¬ahd (l.getD j (0,0)) (l.getD ((j-1)/2) (0,0))
def pS (l:List (Int×Int)) (i:Nat):Prop:=(∀j,0<j->j<l.length->j≠i->¬ahd (l.getD j (0,0)) (l.getD ((j-1)/2) (0,0)))/\
 (0<i->∀j,0<j->j<l.length->(j-1)/2=i->¬ahd (l.getD j (0,0)) (l.getD ((i-1)/2) (0,0)))
theorem pS.top {l:List (Int×Int)} (h:pS l 0):oG l:=by grind [pS,oG]
def rT (r:cE):List (Int×Int):=r.map (fun p=>(p.1,(p.2.root:Int)))
def lnP (n:Nat):Nat:=if n<4 then n else 5
def lnL (s:List UInt8):Nat:=(bT s).length
theorem UQ:lnL []=0:=rfl
theorem UR {a b:Nat} (h:a<=b):lnP a<=lnP b:=by grind [lnP]
theorem MZ {s:List UInt8} (h:s≠[]):lnL s=lnP (bF s)+lnL (s.drop (bF s)):=by grind [mH,lnL,CB,RR,lnP,bF]
theorem bB2 {s:List UInt8} (h:s≠[]) {k:Nat} (e:1<=k) (A:k<=s.length):bF (s.take k)=min k (bF s):=by
 obtain⟨c,r,rfl⟩:=List.exists_cons_of_ne_nil h;have D:=mH (c::r) h;obtain⟨F,G⟩:=RU (s:=c::r) (c:=c) rfl;generalize H:bF (c::r)=n at*
 have I:∀j,j<n->(c::r)[j]? =some c:=fun j d=>by
  have:((c::r).take n)[j]? =some c:=by grind
  grind
 have J:((c::r).take k).length=k:=by grind
 have L:((c::r).take k)[0]? =some c:=by grind
 refine zL (by omega) (by omega) (fun j d=>?_) ?_
 ·grind
 grind [List.head?_drop,bF]
theorem AB {s:List UInt8} (h:s≠[]) {k:Nat} (d:k<=s.length):lnL (s.take k)=if k<=bF s then lnP k else lnP (bF s)+lnL ((s.drop (bF s)).take (k-bF s)):=by
 have G:=mH s h
 by_cases A:k=0
 ·subst A;rw[aB (aO _)];rfl
 ·have D:s.take k≠[]:=fun e=>by
   have:=congrArg List.length e;have:=gG.2 h;rw[aQ,aV] at*
   omega
  have F:=bB2 h (by omega) d;rw[MZ D,F];split
  ·grind [bF,UQ,lnL,lnP]
  grind [bF,List.drop_take,lnL,lnP]
theorem aIr:∀(n:Nat) (s:List UInt8),s.length<=n->∀k,k+1<=s.length->lnL (s.take k)<=lnL (s.take (k+1))
 |0,s,D,k,h=>by omega
 |n+1,s,D,k,h=>by
  have d:s≠[]:=fun e=>by grind
  have G:=mH s d;rw[AB d (by omega),AB d h]
  by_cases A:k+1<=bF s
  ·rw[aB (by omega),aB A];exact UR (by omega)
  ·rw[aA A]
   by_cases F:k<=bF s
   ·grind
   ·rw[aA F,show k+1-bF s=(k-bF s)+1 by omega];have:=aIr n (s.drop (bF s)) (by grind) (k-bF s) (by grind);omega
theorem AC (s:List UInt8) (k:Nat):∀d,k+d<=s.length->lnL (s.take k)<=lnL (s.take (k+d))
 |0,_=>aD _
 |d+1,h=>Nat.le_trans (AC s k d (by omega)) (aIr s.length s (aD _) (k+d) (by omega))
def AD:Nat->List UInt8->Nat->Nat
 |0,_,_=>0
 |f+1,s,room=>
  if s=[] then 0
  else if lnP (bF s)<=room then bF s+AD f (s.drop (bF s)) (room-lnP (bF s))
  else min (min room 3) (bF s)
def cJ (s:List UInt8) (room:Nat):Nat:=AD s.length s room
def FY (s:List UInt8) (room k:Nat):Prop:=k<=s.length/\lnL (s.take k)<=room/\(k<s.length->room<lnL (s.take (k+1)))
theorem US:∀(f:Nat) (s:List UInt8) (room:Nat),s.length<=f->FY s room (AD f s room)
 |0,s,room,d=>by
  have:s=[]:=List.length_eq_zero_iff.1 (by omega);subst this;exact⟨aD _,aO _,fun h=>absurd h (by simp)⟩
 |f+1,s,room,d=>by
  unfold AD
  by_cases h:s=[]
  ·subst h;exact⟨aD _,aO _,fun h=>absurd h (by simp)⟩
  rw[aA h];have D:=mH s h
  by_cases q:lnP (bF s)<=room
  ·rw[aB q];obtain⟨e,F,A⟩:=US f (s.drop (bF s)) (room-lnP (bF s)) (by grind);rw[List.length_drop] at e A;generalize AD f (s.drop (bF s)) (room-lnP (bF s))=k at*
   grind [AB,bF,FY,AD]
  ·rw[aA q];have G:lnP (bF s)=if bF s<4 then bF s else 5:=rfl
   grind [bF,AB,lnP,FY,AD]
theorem pT (s:List UInt8) (room:Nat):FY s room (cJ s room):=US _ s room (aD _)
theorem AE {s:List UInt8} {room:Nat} (h:s≠[]) (A:1<=room):1<=cJ s room:=by
 have d:=pT s room;have D:=gG.2 h;refine Nat.pos_of_ne_zero fun e=>?_
 have:=d.2.2 (by omega)
 grind [AB,mH,lnP,cJ]
end
end Go.Proofs.YtfplbbphficcjaaGreatDoor
