/- A part of the proof. -/
import Derived.Test.YtokaojbaacnngaaGreatX1X2X3
import Derived.Test.YtokaojbaacnngaaGreatX5X6
namespace Go.Proofs.YtokaojbaacnngaaGreat
set_option maxRecDepth 100000
open Go.SS

end Go.Proofs.YtokaojbaacnngaaGreat

namespace Go.Proofs.YtokaojbaacnngaaGreat
set_option maxRecDepth 100000
open Go.SS

theorem row2(a b:List UInt8):RowsEq 2 (fun k=>List.take 1 (List.drop (k*1) [T.str a,T.str b])) (strRow [a,b]):=fun i hi=>by
 match i,hi with
 |0,_=>rfl
 |1,_=>rfl
end Go.Proofs.YtokaojbaacnngaaGreat

namespace Go.Proofs.YtokaojbaacnngaaGreat
set_option maxRecDepth 100000
open Go.SS

def stl(sec:List (List UInt8))(C:List Pend)(Q:Nat->Bool):Nat->List (List UInt8)
 |0=>sec
 |i+1=>if Q i=true then(stl sec C Q i).set (C.getD i default).at_.toNat (C.getD i default).d else stl sec C Q i
theorem stl_len(sec:List (List UInt8))(C:List Pend)(Q:Nat->Bool):∀i,(stl sec C Q i).length=sec.length
 |0=>rfl
 |i+1=>by
  unfold stl;split
  ·rw[List.length_set,stl_len sec C Q i]
  ·exact stl_len sec C Q i
theorem stl_t{sec:List (List UInt8)}{C:List Pend}{Q:Nat->Bool}{i:Nat}(h:Q i=true):stl sec C Q (i+1)=(stl sec C Q i).set (C.getD i default).at_.toNat (C.getD i default).d:=by
 conv=>lhs;unfold stl
 rw[if_pos h]
theorem stl_f{sec:List (List UInt8)}{C:List Pend}{Q:Nat->Bool}{i:Nat}(h:Q i=false):stl sec C Q (i+1)=stl sec C Q i:=by
 conv=>lhs;unfold stl
 rw[if_neg (by rw[h];simp)]
def kp(K:List Int)(i:Nat):Bool:=decide (i<K.length)&&(K.getD i 0 !=0)
def Sto.sd(s:Sto)(d:Dsk):Sto:=⟨d,s.ep,s.log,s.sure,s.fr,s.hand⟩
def crD(d:Dsk)(K:List Int):Dsk:=⟨stl d.sec d.cache (kp K) d.cache.length,[],false,[]⟩
def PdB(d:Dsk):Prop:=∀i,i<d.cache.length->0<=(d.cache.getD i default).at_/\(d.cache.getD i default).at_<d.sec.length
theorem str_set{L:List (List UInt8)}{n:Nat}{t:List UInt8}(j:Nat)(hj:j<L.length):setRow (strRow L) n 0 [.str t] j=strRow (L.set n t) j:=by
 by_cases h:j=n
 ·subst h;rw[setRow_one (by simp[strRow])]
  simp[strRow,List.getElem?_set_self hj]
 ·rw[setRow_ne (by simp[strRow]) h]
  simp[strRow,List.getElem?_set_ne (Ne.symm h)]
theorem stl_set{sec:List (List UInt8)}{C:List Pend}{Q:Nat->Bool}{i:Nat}(h:Q i=true):RowsEq sec.length (setRow (strRow (stl sec C Q i)) (0+(C.getD i default).at_.toNat) 0 [.str (C.getD i default).d]) (strRow (stl sec C Q (i+1))):=fun j hj=>by
 rw[stl_t h,Nat.zero_add];exact str_set j (by rw[stl_len];exact hj)
def Sto.bxY(s:Sto)(v:Nat):Heap:=[stoBx (s.tn 1 6 7 4 5),strA s.d.sec,none,none,recA s.log,famA v s.fr s.fr.length,pendA s.d.cache,intA s.d.keep]
end Go.Proofs.YtokaojbaacnngaaGreat

namespace Go.Proofs.YtokaojbaacnngaaGreat
set_option maxRecDepth 100000
open Go.SS

end Go.Proofs.YtokaojbaacnngaaGreat

