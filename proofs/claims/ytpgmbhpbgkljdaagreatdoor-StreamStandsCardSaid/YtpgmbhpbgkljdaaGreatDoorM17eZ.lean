/-
  The mathematics of streams (chapter 17), more: what Write answers.
-/
import Derived.Test.YtpgmbhpbgkljdaaGreatDoorM17cZ
import Derived.Test.YtpgmbhpbgkljdaaGreatDoorZ24
set_option linter.unusedVariables false
set_option linter.unusedSimpArgs false
set_option maxRecDepth 100000
set_option maxHeartbeats 12800000
namespace Go.Proofs.YtpgmbhpbgkljdaaGreatDoor
open Go.RowKit Go Go.Shelf
theorem packL_bitsL (s:List UInt8):aD (kW s)=s:=by
 refine OU (by rw[gY,xZ];omega) (fun i hi=>?_);rw[gY,xZ] at hi;rw[sO,List.getD_eq_getElem?_getD,sP,if_pos (by omega)];rfl
def firstE (r:Int):List ByteArray->Int
 |[]=>0
 |t::l=>if eZ t r≠0 then eZ t r else firstE r l
def wrE (n:Int) (l:List ByteArray):Int:=if n<1\/9<n then 1 else firstE (40*n) l
theorem firstE_ok {r:Int}:∀{l:List ByteArray},firstE r l=0->∀t∈l,eZ t r=0
 |[],_,t,ht=>by simp at ht
 |x::l,h,t,ht=>by
  unfold firstE at h;split at h
  ·next q=>exact absurd h q
  ·next q=>
   rcases List.mem_cons.1 ht with rfl|ht
   ·exact Decidable.not_not.1 q
   ·exact firstE_ok h t ht
theorem firstE_of {r:Int}:∀{l:List ByteArray},(∀t∈l,eZ t r=0)->firstE r l=0
 |[],_=>rfl
 |x::l,h=>by
  unfold firstE;rw[if_neg (fun k=>k (h x (List.mem_cons_self ..)))];exact firstE_of (fun t ht=>h t (List.mem_cons_of_mem _ ht))
theorem firstE_take {r:Int}:∀{l:List ByteArray} {k:Nat},(∀t∈l.take k,eZ t r=0)->firstE r l=firstE r (l.drop k)
 |_,0,_=>rfl
 |[],_+1,_=>rfl
 |x::l,k+1,h=>by
  show firstE r (x::l)=firstE r (l.drop k)
  conv=>lhs;unfold firstE
  rw[if_neg (fun q=>q (h x (by simp)))];exact firstE_take (fun t ht=>h t (by rw[List.take_succ_cons];exact List.mem_cons_of_mem _ ht))
theorem okT_of {t:ByteArray} {r:Int} (h:eZ t r=0) (hO:fS (mkS (bC t.data.toList))):okT r t:=by
 obtain⟨h0,_,_,h3⟩:=aOu h;exact⟨h0,hO,by omega⟩
theorem bodyW_len {r:Int} (hr:r<=360):∀(l:List ByteArray),(∀t∈l,okT r t)->(bodyW l).length<=28000*l.length
 |[],_=>Nat.le_refl _
 |t::l,h=>by
  obtain⟨h0,h1,h2⟩:=h t (List.mem_cons_self ..);have ih:=bodyW_len hr l (fun x hx=>h x (List.mem_cons_of_mem _ hx));have:=(zR h0 (by omega) h1).1;rw[bodyW_cons,List.length_append,List.length_cons];omega
def catT (l:List ByteArray):ByteArray:=mkS (l.map (fun t=>t.data.toList)).flatten
theorem catT_append (x y:List ByteArray):(catT (x++y)).data.toList=(catT x).data.toList++(catT y).data.toList:=by
 unfold catT;rw[fW,fW,fW,List.map_append,List.flatten_append]
end Go.Proofs.YtpgmbhpbgkljdaaGreatDoor
