/- Library functions in plain words. No program in sight. -/
import Derived.Test.YtbdokiecpmhjmaaGreatDoorPvEv
import Derived.Lib.SlTrimSet
import Derived.Lib.Bytealg
import Derived.Lib.ItoaNum
import Derived.Lib.Join
import Derived.Lib.Repeat
namespace Go.Proofs.YtbdokiecpmhjmaaGreatDoor
set_option linter.unusedSimpArgs false
set_option linter.unusedVariables false
/-- The words of a violation's kind, as the row lays them. -/
def Tab_kindWords : List ByteArray := [⟨#[]⟩, ⟨#[115, 101, 116, 117, 112]⟩, ⟨#[104, 111, 108, 100]⟩]
def F_strings_Trim (N : Nat) (x : ByteArray × ByteArray × Unit) : Option (ByteArray × Unit) :=
  bif (x.2.1.data.toList.all fun b => decide (b.toNat < 128)) && decide (x.2.1.size < 4294967281) then some (⟨(Lib.trimS x.1.data.toList x.2.1.data.toList).toArray⟩, ()) else none
def F_strings_IndexByte (N : Nat) (x : ByteArray × Int × Unit) : Option (Int × Unit) := some (Lib.indexByte x.1.data.toList x.2.1.toNat.toUInt8, ())
def F_strings_Join (N : Nat) (x : List ByteArray × ByteArray × Unit) : Option (ByteArray × Unit) :=
  bif decide (x.1.length ≤ 140737488355328) && decide ((Lib.join (x.1.map (·.data.toList)) x.2.1.data.toList).length ≤ 140737488355328) then some (⟨(Lib.join (x.1.map (·.data.toList)) x.2.1.data.toList).toArray⟩, ()) else none
def F_strings_Repeat (N : Nat) (x : ByteArray × Int × Unit) : Option (ByteArray × Unit) :=
  bif decide (0 ≤ x.2.1) && (decide (x.2.1 ≤ 9223372036854775807) && decide (x.1.size * x.2.1.toNat ≤ 140737488355328)) then some (⟨(Lib.repeatL x.1.data.toList x.2.1.toNat).toArray⟩, ()) else none
def F_strconv_FormatInt (N : Nat) (x : Int × Int × Unit) : Option (ByteArray × Unit) :=
  bif decide (x.2.1 = 10) && decide ((Lib.itoa x.1).length ≤ 30) then some (⟨(Lib.itoa x.1).toArray⟩, ()) else none
end Go.Proofs.YtbdokiecpmhjmaaGreatDoor
