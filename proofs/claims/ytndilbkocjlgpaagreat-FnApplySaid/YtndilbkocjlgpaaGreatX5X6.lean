/- A part of the proof. -/
import Derived.Test.YtndilbkocjlgpaaGreatX1X2X3
namespace Go.Proofs.YtndilbkocjlgpaaGreat
set_option maxRecDepth 100000
open Go.SS

theorem nb_f{a b:Nat}(h:a≠b):Nat.beq a b=false:=by
 cases hb:Nat.beq a b with
 |false=>rfl
 |true=>exact absurd (Nat.eq_of_beq_eq_true hb) h
theorem nb_t{a b:Nat}(h:a=b):Nat.beq a b=true:=by subst h;exact Nat.beq_refl a
theorem mk_at{α:Type}(f:Nat->α){n i:Nat}(h:i<n)(d:α):((List.range n).map f).getD i d=f i:=by
 rw[List.getD_eq_getElem?_getD,List.getElem?_map,List.getElem?_range h]
 rfl
end Go.Proofs.YtndilbkocjlgpaaGreat

namespace Go.Proofs.YtndilbkocjlgpaaGreat
set_option maxRecDepth 100000
open Go.SS

theorem setRow_ne{row:Nat->List T}{i j k:Nat}{cs:List T}(h:j+cs.length<=(row k).length)(hk:k≠i):setRow row i j cs k=row k:=by
 rw[setRow_eq h,nb_f hk]
theorem setRow_one{row:Nat->List T}{i j:Nat}{t:T}(h:j<(row i).length):setRow row i j [t] i=(row i).set j t:=by
 rw[setRow_eq (by simp;omega),nb_t rfl]
 rw[List.set_eq_take_append_cons_drop,if_pos h];simp
end Go.Proofs.YtndilbkocjlgpaaGreat

