/- Library functions in plain words. No program in sight. -/
import Derived.Test.YtkkbkhlpbmhchaaGreatDoorPvEv
import Derived.Lib.SlTrimSet
import Derived.Lib.Bytealg
import Derived.Lib.ItoaNum
import Derived.Lib.Join
namespace Go.Proofs.YtkkbkhlpbmhchaaGreatDoor
set_option linter.unusedSimpArgs false
set_option linter.unusedVariables false
def F_strings_Trim (N : Nat) (x : ByteArray × ByteArray × Unit) : Option (ByteArray × Unit) :=
  bif (x.2.1.data.toList.all fun b => decide (b.toNat < 128)) && decide (x.2.1.size < 4294967281) then some (⟨(Lib.trimS x.1.data.toList x.2.1.data.toList).toArray⟩, ()) else none
def F_strings_IndexByte (N : Nat) (x : ByteArray × Int × Unit) : Option (Int × Unit) := some (Lib.indexByte x.1.data.toList x.2.1.toNat.toUInt8, ())
def F_strings_Join (N : Nat) (x : List ByteArray × ByteArray × Unit) : Option (ByteArray × Unit) :=
  bif decide (x.1.length ≤ 140737488355328) && decide ((Lib.join (x.1.map (·.data.toList)) x.2.1.data.toList).length ≤ 140737488355328) then some (⟨(Lib.join (x.1.map (·.data.toList)) x.2.1.data.toList).toArray⟩, ()) else none
def F_strconv_FormatInt (N : Nat) (x : Int × Int × Unit) : Option (ByteArray × Unit) :=
  bif decide (x.2.1 = 10) && decide ((Lib.itoa x.1).length ≤ 30) then some (⟨(Lib.itoa x.1).toArray⟩, ()) else none
end Go.Proofs.YtkkbkhlpbmhchaaGreatDoor
