/- strings.Cut at this program: its answer is the cut at the first place, and nothing but the draws has changed. Conditions: a string of fewer than 4294967281 bytes, and the variable MaxLen holds some whole number. -/
import Derived.Shelf.Strings.Cut
import Derived.Test.YtpdcghclcgbcfabProg
import Derived.Test.YtpdcghclcgbcfabVWords
namespace Go.Proofs
open Go.Shelf
def Ytpdcghclcgbcfab.X.layC_ren : Go.Shelf.Ren := ⟨fun | 145 => 43 | 220 => 53 | 219 => 63 | 217 => 67 | 225 => 68 | 224 => 69 | 267 => 70 | 266 => 72 | 314 => 73 | n => n, fun | 9 => 9 | 4 => 4 | 59 => 64 | 3 => 3 | 5 => 5 | 46 => 85 | 146 => 88 | 51 => 87 | n => n, fun | 1 => 0 | n => n⟩
theorem Ytpdcghclcgbcfab.X.layC : Go.Proofs.Lays.n145 Try.prog Ytpdcghclcgbcfab.X.layC_ren := {
  mixed := by kernel_rfl
  f145 := Try.func43.trans (congrArg some (by kernel_rfl))
  f217 := Try.func67.trans (congrArg some (by kernel_rfl))
  f219 := Try.func63.trans (congrArg some (by kernel_rfl))
  f220 := Try.func53.trans (congrArg some (by kernel_rfl))
  f224 := Try.func69.trans (congrArg some (by kernel_rfl))
  f225 := Try.func68.trans (congrArg some (by kernel_rfl))
  f266 := Try.func72.trans (congrArg some (by kernel_rfl))
  f267 := Try.func70.trans (congrArg some (by kernel_rfl))
  f314 := Try.func73.trans (congrArg some (by kernel_rfl))
  t3 := Try.underlying3
  a3 := Try.isAgg3
  z3 := Try.sizeOf3
  v3 := Try.zeroValue3
  t4 := Try.underlying4
  a4 := Try.isAgg4
  z4 := Try.sizeOf4
  v4 := Try.zeroValue4
  t5 := Try.underlying5
  a5 := Try.isAgg5
  z5 := Try.sizeOf5
  v5 := Try.zeroValue5
  t9 := Try.underlying9
  a9 := Try.isAgg9
  z9 := Try.sizeOf9
  v9 := Try.zeroValue9
  t46 := Try.underlying85
  a46 := Try.isAgg85
  z46 := Try.sizeOf85
  v46 := Try.zeroValue85
  t51 := Try.underlying87
  a51 := Try.isAgg87
  z51 := Try.sizeOf87
  v51 := Try.zeroValue87
  t59 := Try.underlying64
  a59 := Try.isAgg64
  z59 := Try.sizeOf64
  v59 := Try.zeroValue64
  t146 := Try.underlying88
  a146 := Try.isAgg88
  z146 := Try.sizeOf88
  v146 := Try.zeroValue88
  g1 := by kernel_rfl }
namespace Ytpdcghclcgbcfab.X
open Go.RowKit Go.Proofs.YtpdcghclcgbcfabW.PrintWords
def strings_Cut.a (s sep : ByteArray) : ByteArray := ⟨(Lib.cut s.data.toList sep.data.toList).1.toArray⟩
def strings_Cut.b (s sep : ByteArray) : ByteArray := ⟨(Lib.cut s.data.toList sep.data.toList).2.1.toArray⟩
def strings_Cut.ok (s sep : ByteArray) : Bool := (Lib.cut s.data.toList sep.data.toList).2.2
def strings_Cut.f (s sep : ByteArray) : Option (ByteArray × ByteArray × Bool) := if s.size < 4294967281 then some (strings_Cut.a s sep, strings_Cut.b s sep, strings_Cut.ok s sep) else none
theorem strings_Cut.calls (s sep r1 r2 : ByteArray) (r3 : Bool) (m : Int) (w : World) (hm : w.cell? ⟨0, 0, none⟩ = some (.int .i64 m)) (h : strings_Cut.f s sep = some (r1, r2, r3)) :
    Calls Try.prog 43 #[.string s, .string sep] w fun e w' => e = .returned (.tuple #[.string r1, .string r2, .bool r3]) ∧ Drawn0 w w' := by
  unfold strings_Cut.f at h
  split at h
  · rename_i hs
    simp only [Option.some.injEq, Prod.mk.injEq] at h
    obtain ⟨rfl, rfl, rfl⟩ := h
    exact (Any.strings_Cut layC s sep m w hs hm).mono fun _ _ h => ⟨h.1, ⟨h.2⟩⟩
  · cases h
end Ytpdcghclcgbcfab.X
end Go.Proofs
