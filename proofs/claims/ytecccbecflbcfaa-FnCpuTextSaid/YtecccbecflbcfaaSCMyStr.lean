import Derived.Test.YtecccbecflbcfaaSCMyLoops
import Derived.Lib.Strings
namespace Go.Proofs.Ytecccbecflbcfaa.Str
open Go.RowKit Go.Proofs.Ytecccbecflbcfaa.Plain Go.Proofs.YtecccbecflbcfaaW.PrintWords Go.Proofs.YtecccbecflbcfaaW.PrintLast Go.Proofs.YtecccbecflbcfaaW.PrintMore
def S (l : List UInt8) : ByteArray := ⟨l.toArray⟩
theorem S_size (l : List UInt8) : (S l).size = l.length := by simp [S, ByteArray.size]
theorem S_append (a b : List UInt8) : S a ++ S b = S (a ++ b) := by
  apply ByteArray.ext
  simp [S]
theorem S_extract (l : List UInt8) (a b : Nat) : (S l).extract a b = S ((l.drop a).take (b - a)) := by
  apply ByteArray.ext
  simp [S, ByteArray.data_extract]
theorem bt_S (l : List UInt8) (i : Nat) (h : i < l.length) : bt (S l) (i : Int) = (l[i].toNat : Int) := by
  unfold bt
  have h' : ((i : Int)).toNat < (S l).size := by rw [S_size]; simpa using h
  rw [dif_pos h']
  rfl
end Go.Proofs.Ytecccbecflbcfaa.Str
