/-
  The index of two archives, one behind the other (chapter 19).
-/
import Derived.Test.YtihbnmlinkbnkaaGreatDoorM19tZ
import Derived.Test.YtihbnmlinkbnkaaGreatDoorZ46
set_option linter.unusedVariables false
set_option linter.unusedSimpArgs false
set_option maxRecDepth 100000
set_option maxHeartbeats 12800000
namespace Go.Proofs.YtihbnmlinkbnkaaGreatDoor
open Go.RowKit Go
theorem sumT_app (l m:List Prt):vE (l++m)=vE l+vE m:=by unfold vE;simp
theorem sumT_take_le (l:List Prt) (k:Nat):vE (l.take k)<=vE l:=by
 have h:=sumT_app (l.take k) (l.drop k);rw[List.take_append_drop] at h;omega
def shE (d f:Int) (x:Ent):Ent:=⟨x.a+d,x.r,x.f+f,x.n,x.y⟩
theorem scanE_up (d:Nat) (f:Int):∀(l:List Prt) (f0:Int),gU (f0+f) (l.map (Prt.up d))=(gU f0 l).map (shE (d:Int) f)
 |[],_=>rfl
 |p::l,f0=>by
  rw[List.map_cons];unfold gU;rw[List.map_cons,<-scanE_up d f l (f0+(p.t.size:Int)),show(Prt.up d p).t=p.t from rfl,show f0+f+(p.t.size:Int)=f0+(p.t.size:Int)+f by omega];rfl
theorem scan_join {a b:ByteArray} (ha:GQ a) (hb:GQ b):
  (cI (a++b).data.toList).2=0/\gU 0 (eY (a++b).data.toList)=gU 0 (eY a.data.toList)++(gU 0 (eY b.data.toList)).map (shE ((8*a.size:Nat):Int) (vE (eY a.data.toList):Int))/\
   lG (gU 0 (eY (a++b).data.toList))=lG (gU 0 (eY a.data.toList))+lG (gU 0 (eY b.data.toList))/\lG (gU 0 (eY a.data.toList))=(vE (eY a.data.toList):Int)/\lG (gU 0 (eY b.data.toList))=(vE (eY b.data.toList):Int):=by
 obtain⟨L,rfl,h1,h2,h3,h4⟩:=ha;obtain⟨M,rfl,k1,k2,k3,k4⟩:=hb;have hne:L++M≠[]:=fun q=>h1 (List.append_eq_nil_iff.1 q).1
 rw[AG];have ho:=NE h2 k2;obtain⟨r1,r2⟩:=GD hne ho;obtain⟨p1,p2⟩:=GD h1 h2;obtain⟨q1,q2⟩:=GD k1 k2;have hl:(dH L).length=8*(aZ L).size:=by
  unfold aZ;rw[cS,LP]
 have hj:kT 0 (L++M)=kT 0 L++(kT 0 M).map (Prt.up (8*(aZ L).size)):=by
  rw[aVm,Nat.zero_add,hl];have:=aVl (8*(aZ L).size) M 0;rw[Nat.zero_add] at this;rw[this]
 have tot:∀s:ByteArray,(cI s.data.toList).2=0->lG (gU 0 (eY s.data.toList))=(vE (eY s.data.toList):Int):=fun s h=>by
  have hr:eY s.data.toList=(cI s.data.toList).1:=by unfold eY;rw[aB h]
  unfold lG;rw[hr,aB (scan_ok h),scanE_sum]
 have t1:=tot _ r2;have t2:=tot _ p2;have t3:=tot _ q2;rw[r1] at t1 ⊢;rw[p1] at t2 ⊢;rw[q1] at t3 ⊢;refine⟨r2,?_,?_,t2,t3⟩
 ·rw[hj,aKo,<-scanE_up]
 ·rw[t1,t2,t3,hj];have e2:∀l:List Prt,vE (l.map (Prt.up (8*(aZ L).size)))=vE l:=fun l=>by
   unfold vE;rw[List.map_map];rfl
  rw[sumT_app,e2];omega
end Go.Proofs.YtihbnmlinkbnkaaGreatDoor
