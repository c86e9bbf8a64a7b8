import Derived.Test.YtchakfdnmabkjaaDoorSRMyLoops
import Derived.Lib.Strings
namespace Go.Proofs.YtchakfdnmabkjaaDoor.Str
open Go.RowKit Go.Proofs.YtchakfdnmabkjaaDoor.Plain Go.Proofs.YtchakfdnmabkjaaDoorW.PrintWords Go.Proofs.YtchakfdnmabkjaaDoorW.PrintLast Go.Proofs.YtchakfdnmabkjaaDoorW.PrintMore
def S (l : List UInt8) : ByteArray := ⟨l.toArray⟩
theorem S_data (s : ByteArray) : S s.data.toList = s := by cases s; simp [S]
theorem S_size (l : List UInt8) : (S l).size = l.length := by simp [S, ByteArray.size]
theorem S_append (a b : List UInt8) : S a ++ S b = S (a ++ b) := by
  apply ByteArray.ext
  simp [S]
theorem S_toList (l : List UInt8) : (S l).toList = l := by
  rw [Lib.toList_data]; simp [S]
theorem S_extract (l : List UInt8) (a b : Nat) : (S l).extract a b = S ((l.drop a).take (b - a)) := by
  apply ByteArray.ext
  simp [S, ByteArray.data_extract]
theorem bt_S (l : List UInt8) (i : Nat) (h : i < l.length) : bt (S l) (i : Int) = (l[i].toNat : Int) := by
  unfold bt
  have h' : ((i : Int)).toNat < (S l).size := by rw [S_size]; simpa using h
  rw [dif_pos h']
  rfl
theorem S_inj {a b : List UInt8} (h : S a = S b) : a = b := by
  have := congrArg ByteArray.toList h
  rwa [S_toList, S_toList] at this
end Go.Proofs.YtchakfdnmabkjaaDoor.Str
