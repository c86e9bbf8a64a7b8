import Derived.Test.YtecccbecflbcfaaSLWMore
import Derived.OpenShut
namespace Go.Proofs.Ytecccbecflbcfaa.Plain
open Go.RowKit Go.Proofs.YtecccbecflbcfaaW.PrintWords Go.Proofs.YtecccbecflbcfaaW.PrintLast Go.Proofs.YtecccbecflbcfaaW.PrintMore
theorem w64 {x : Int} (h0 : -9223372036854775808 ≤ x) (h1 : x ≤ 9223372036854775807) : wrap64 x = x := by unfold wrap64; omega
theorem wsucc {i : Nat} (h : i < 9223372036854775807) : wrap64 ((i : Int) + 1) = ((i + 1 : Nat) : Int) := by unfold wrap64; omega
theorem getD_lt {α : Type} (l : List α) (d : α) (i : Nat) (h : i < l.length) : l.getD i d = l[i] := by
  rw [List.getD_eq_getElem?_getD, List.getElem?_eq_getElem h]; rfl
theorem set_int {α : Type} (l : List α) (i : Nat) (v : α) : l.set ((i : Int)).toNat v = l.set i v := by simp
end Go.Proofs.Ytecccbecflbcfaa.Plain
