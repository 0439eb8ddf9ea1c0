/- The types of the program as DL's table; each row is checked against the program by the kernel. No condition. -/
import Derived.Test.YtdadnjhfennenaaDB
import Derived.Test.YtdadnjhfennenaaProg
namespace Go.DL
def tabL : List TI := [
  TI.none,
  ⟨.func, false, 1, 8, [.raw .nilFunc], true⟩,
  ⟨.int .i64, false, 1, 8, [.int .i64 0], true⟩,
  ⟨.int .i64, false, 1, 8, [.int .i64 0], true⟩,
  ⟨.bool, false, 1, 1, [.bool false], true⟩,
  ⟨.int .u8, false, 1, 1, [.int .u8 0], true⟩,
  TI.none,
  TI.none,
  TI.none,
  ⟨.str, false, 1, 16, [.str ⟨#[]⟩], true⟩,
  TI.none,
  TI.none,
  ⟨.int .u64, false, 1, 8, [.int .u64 0], true⟩,
  TI.none,
  TI.none,
  TI.none,
  TI.none,
  TI.none,
  TI.none,
  TI.none,
  ⟨.iface, false, 1, 16, [.raw .nilIface], true⟩,
  ⟨.int .i32, false, 1, 4, [.int .i32 0], true⟩,
  ⟨.slice 61, false, 1, 24, [.sl 4 true []], true⟩,
  ⟨.struct [(3, 0), (3, 1)], true, 2, 16, [.int .i64 0, .int .i64 0], true⟩,
  ⟨.struct [(3, 0), (3, 1)], true, 2, 16, [.int .i64 0, .int .i64 0], true⟩,
  TI.none,
  ⟨.func, false, 1, 8, [.raw .nilFunc], true⟩,
  ⟨.func, false, 1, 8, [.raw .nilFunc], true⟩,
  ⟨.func, false, 1, 8, [.raw .nilFunc], true⟩,
  ⟨.func, false, 1, 8, [.raw .nilFunc], true⟩,
  ⟨.func, false, 1, 8, [.raw .nilFunc], true⟩,
  ⟨.func, false, 1, 8, [.raw .nilFunc], true⟩,
  ⟨.func, false, 1, 8, [.raw .nilFunc], true⟩,
  ⟨.func, false, 1, 8, [.raw .nilFunc], true⟩,
  ⟨.func, false, 1, 8, [.raw .nilFunc], true⟩,
  TI.none,
  ⟨.func, false, 1, 8, [.raw .nilFunc], true⟩,
  ⟨.func, false, 1, 8, [.raw .nilFunc], true⟩,
  ⟨.func, false, 1, 8, [.raw .nilFunc], true⟩,
  ⟨.func, false, 1, 8, [.raw .nilFunc], true⟩,
  ⟨.func, false, 1, 8, [.raw .nilFunc], true⟩,
  ⟨.func, false, 1, 8, [.raw .nilFunc], true⟩,
  ⟨.func, false, 1, 8, [.raw .nilFunc], true⟩,
  ⟨.slice 73, false, 1, 24, [.sl 3 true []], true⟩,
  ⟨.struct [(3, 0), (3, 1), (43, 2)], true, 3, 40, [.int .i64 0, .int .i64 0, .sl 3 true []], true⟩,
  ⟨.struct [(3, 0), (3, 1), (43, 2)], true, 3, 40, [.int .i64 0, .int .i64 0, .sl 3 true []], true⟩,
  ⟨.slice 9, false, 1, 24, [.sl 1 true []], true⟩,
  ⟨.func, false, 1, 8, [.raw .nilFunc], true⟩,
  ⟨.func, false, 1, 8, [.raw .nilFunc], true⟩,
  ⟨.func, false, 1, 8, [.raw .nilFunc], true⟩,
  ⟨.func, false, 1, 8, [.raw .nilFunc], true⟩,
  TI.none,
  ⟨.func, false, 1, 8, [.raw .nilFunc], true⟩,
  ⟨.func, false, 1, 8, [.raw .nilFunc], true⟩,
  ⟨.func, false, 1, 8, [.raw .nilFunc], true⟩,
  ⟨.func, false, 1, 8, [.raw .nilFunc], true⟩,
  ⟨.func, false, 1, 8, [.raw .nilFunc], true⟩,
  TI.none,
  ⟨.func, false, 1, 8, [.raw .nilFunc], true⟩,
  ⟨.func, false, 1, 8, [.raw .nilFunc], true⟩,
  ⟨.struct [(9, 0), (3, 1), (3, 2), (3, 3)], true, 4, 40, [.str ⟨#[]⟩, .int .i64 0, .int .i64 0, .int .i64 0], true⟩,
  ⟨.struct [(9, 0), (3, 1), (3, 2), (3, 3)], true, 4, 40, [.str ⟨#[]⟩, .int .i64 0, .int .i64 0, .int .i64 0], true⟩,
  ⟨.func, false, 1, 8, [.raw .nilFunc], true⟩,
  ⟨.func, false, 1, 8, [.raw .nilFunc], true⟩,
  ⟨.func, false, 1, 8, [.raw .nilFunc], true⟩,
  ⟨.func, false, 1, 8, [.raw .nilFunc], true⟩,
  ⟨.func, false, 1, 8, [.raw .nilFunc], true⟩,
  ⟨.func, false, 1, 8, [.raw .nilFunc], true⟩,
  ⟨.slice 3, false, 1, 24, [.sl 1 true []], true⟩,
  TI.none,
  ⟨.func, false, 1, 8, [.raw .nilFunc], true⟩,
  ⟨.func, false, 1, 8, [.raw .nilFunc], true⟩,
  ⟨.struct [(9, 0), (3, 1), (3, 2)], true, 3, 32, [.str ⟨#[]⟩, .int .i64 0, .int .i64 0], true⟩,
  ⟨.struct [(9, 0), (3, 1), (3, 2)], true, 3, 32, [.str ⟨#[]⟩, .int .i64 0, .int .i64 0], true⟩,
  ⟨.func, false, 1, 8, [.raw .nilFunc], true⟩,
  ⟨.slice 4, false, 1, 24, [.sl 1 true []], true⟩,
  ⟨.ptr 3, false, 1, 8, [.raw (.pointer none)], true⟩,
  ⟨.func, false, 1, 8, [.raw .nilFunc], true⟩,
  ⟨.func, false, 1, 8, [.raw .nilFunc], true⟩,
  ⟨.func, false, 1, 8, [.raw .nilFunc], true⟩,
  ⟨.ptr 73, false, 1, 8, [.raw (.pointer none)], true⟩,
  ⟨.func, false, 1, 8, [.raw .nilFunc], true⟩,
  ⟨.func, false, 1, 8, [.raw .nilFunc], true⟩,
  ⟨.func, false, 1, 8, [.raw .nilFunc], true⟩,
  ⟨.func, false, 1, 8, [.raw .nilFunc], true⟩,
  ⟨.func, false, 1, 8, [.raw .nilFunc], true⟩,
  ⟨.func, false, 1, 8, [.raw .nilFunc], true⟩,
  ⟨.func, false, 1, 8, [.raw .nilFunc], true⟩,
  ⟨.func, false, 1, 8, [.raw .nilFunc], true⟩,
  ⟨.func, false, 1, 8, [.raw .nilFunc], true⟩,
  ⟨.func, false, 1, 8, [.raw .nilFunc], true⟩,
  ⟨.func, false, 1, 8, [.raw .nilFunc], true⟩,
  ⟨.func, false, 1, 8, [.raw .nilFunc], true⟩,
  ⟨.func, false, 1, 8, [.raw .nilFunc], true⟩,
  ⟨.func, false, 1, 8, [.raw .nilFunc], true⟩,
  ⟨.func, false, 1, 8, [.raw .nilFunc], true⟩,
  ⟨.func, false, 1, 8, [.raw .nilFunc], true⟩,
  ⟨.func, false, 1, 8, [.raw .nilFunc], true⟩,
  ⟨.int .u64, false, 1, 8, [.int .u64 0], true⟩,
  ⟨.func, false, 1, 8, [.raw .nilFunc], true⟩,
  ⟨.func, false, 1, 8, [.raw .nilFunc], true⟩,
  ⟨.func, false, 1, 8, [.raw .nilFunc], true⟩,
  ⟨.func, false, 1, 8, [.raw .nilFunc], true⟩,
  ⟨.func, false, 1, 8, [.raw .nilFunc], true⟩,
  ⟨.func, false, 1, 8, [.raw .nilFunc], true⟩,
  TI.none,
  TI.none,
  TI.none,
  TI.none,
  TI.none,
  ⟨.func, false, 1, 8, [.raw .nilFunc], true⟩,
  ⟨.int .u32, false, 1, 4, [.int .u32 0], true⟩,
  TI.none,
  TI.none,
  ⟨.func, false, 1, 8, [.raw .nilFunc], true⟩,
  ⟨.ptr 5, false, 1, 8, [.raw (.pointer none)], true⟩,
  TI.none,
  TI.none,
  TI.none,
  TI.none,
  TI.none
]
theorem tab_ok1 : tabL.getD 1 TI.none = tiOf Go.Proofs.Try.prog 1 := by kernel_rfl
theorem tab_ok2 : tabL.getD 2 TI.none = tiOf Go.Proofs.Try.prog 2 := by kernel_rfl
theorem tab_ok3 : tabL.getD 3 TI.none = tiOf Go.Proofs.Try.prog 3 := by kernel_rfl
theorem tab_ok4 : tabL.getD 4 TI.none = tiOf Go.Proofs.Try.prog 4 := by kernel_rfl
theorem tab_ok5 : tabL.getD 5 TI.none = tiOf Go.Proofs.Try.prog 5 := by kernel_rfl
theorem tab_ok9 : tabL.getD 9 TI.none = tiOf Go.Proofs.Try.prog 9 := by kernel_rfl
theorem tab_ok12 : tabL.getD 12 TI.none = tiOf Go.Proofs.Try.prog 12 := by kernel_rfl
theorem tab_ok20 : tabL.getD 20 TI.none = tiOf Go.Proofs.Try.prog 20 := by kernel_rfl
theorem tab_ok21 : tabL.getD 21 TI.none = tiOf Go.Proofs.Try.prog 21 := by kernel_rfl
theorem tab_ok22 : tabL.getD 22 TI.none = tiOf Go.Proofs.Try.prog 22 := by kernel_rfl
theorem tab_ok23 : tabL.getD 23 TI.none = tiOf Go.Proofs.Try.prog 23 := by kernel_rfl
theorem tab_ok24 : tabL.getD 24 TI.none = tiOf Go.Proofs.Try.prog 24 := by kernel_rfl
theorem tab_ok26 : tabL.getD 26 TI.none = tiOf Go.Proofs.Try.prog 26 := by kernel_rfl
theorem tab_ok27 : tabL.getD 27 TI.none = tiOf Go.Proofs.Try.prog 27 := by kernel_rfl
theorem tab_ok28 : tabL.getD 28 TI.none = tiOf Go.Proofs.Try.prog 28 := by kernel_rfl
theorem tab_ok29 : tabL.getD 29 TI.none = tiOf Go.Proofs.Try.prog 29 := by kernel_rfl
theorem tab_ok30 : tabL.getD 30 TI.none = tiOf Go.Proofs.Try.prog 30 := by kernel_rfl
theorem tab_ok31 : tabL.getD 31 TI.none = tiOf Go.Proofs.Try.prog 31 := by kernel_rfl
theorem tab_ok32 : tabL.getD 32 TI.none = tiOf Go.Proofs.Try.prog 32 := by kernel_rfl
theorem tab_ok33 : tabL.getD 33 TI.none = tiOf Go.Proofs.Try.prog 33 := by kernel_rfl
theorem tab_ok34 : tabL.getD 34 TI.none = tiOf Go.Proofs.Try.prog 34 := by kernel_rfl
theorem tab_ok36 : tabL.getD 36 TI.none = tiOf Go.Proofs.Try.prog 36 := by kernel_rfl
theorem tab_ok37 : tabL.getD 37 TI.none = tiOf Go.Proofs.Try.prog 37 := by kernel_rfl
theorem tab_ok38 : tabL.getD 38 TI.none = tiOf Go.Proofs.Try.prog 38 := by kernel_rfl
theorem tab_ok39 : tabL.getD 39 TI.none = tiOf Go.Proofs.Try.prog 39 := by kernel_rfl
theorem tab_ok40 : tabL.getD 40 TI.none = tiOf Go.Proofs.Try.prog 40 := by kernel_rfl
theorem tab_ok41 : tabL.getD 41 TI.none = tiOf Go.Proofs.Try.prog 41 := by kernel_rfl
theorem tab_ok42 : tabL.getD 42 TI.none = tiOf Go.Proofs.Try.prog 42 := by kernel_rfl
theorem tab_ok43 : tabL.getD 43 TI.none = tiOf Go.Proofs.Try.prog 43 := by kernel_rfl
theorem tab_ok44 : tabL.getD 44 TI.none = tiOf Go.Proofs.Try.prog 44 := by kernel_rfl
theorem tab_ok45 : tabL.getD 45 TI.none = tiOf Go.Proofs.Try.prog 45 := by kernel_rfl
theorem tab_ok46 : tabL.getD 46 TI.none = tiOf Go.Proofs.Try.prog 46 := by kernel_rfl
theorem tab_ok47 : tabL.getD 47 TI.none = tiOf Go.Proofs.Try.prog 47 := by kernel_rfl
theorem tab_ok48 : tabL.getD 48 TI.none = tiOf Go.Proofs.Try.prog 48 := by kernel_rfl
theorem tab_ok49 : tabL.getD 49 TI.none = tiOf Go.Proofs.Try.prog 49 := by kernel_rfl
theorem tab_ok50 : tabL.getD 50 TI.none = tiOf Go.Proofs.Try.prog 50 := by kernel_rfl
theorem tab_ok52 : tabL.getD 52 TI.none = tiOf Go.Proofs.Try.prog 52 := by kernel_rfl
theorem tab_ok53 : tabL.getD 53 TI.none = tiOf Go.Proofs.Try.prog 53 := by kernel_rfl
theorem tab_ok54 : tabL.getD 54 TI.none = tiOf Go.Proofs.Try.prog 54 := by kernel_rfl
theorem tab_ok55 : tabL.getD 55 TI.none = tiOf Go.Proofs.Try.prog 55 := by kernel_rfl
theorem tab_ok56 : tabL.getD 56 TI.none = tiOf Go.Proofs.Try.prog 56 := by kernel_rfl
theorem tab_ok58 : tabL.getD 58 TI.none = tiOf Go.Proofs.Try.prog 58 := by kernel_rfl
theorem tab_ok59 : tabL.getD 59 TI.none = tiOf Go.Proofs.Try.prog 59 := by kernel_rfl
theorem tab_ok60 : tabL.getD 60 TI.none = tiOf Go.Proofs.Try.prog 60 := by kernel_rfl
theorem tab_ok61 : tabL.getD 61 TI.none = tiOf Go.Proofs.Try.prog 61 := by kernel_rfl
theorem tab_ok62 : tabL.getD 62 TI.none = tiOf Go.Proofs.Try.prog 62 := by kernel_rfl
theorem tab_ok63 : tabL.getD 63 TI.none = tiOf Go.Proofs.Try.prog 63 := by kernel_rfl
theorem tab_ok64 : tabL.getD 64 TI.none = tiOf Go.Proofs.Try.prog 64 := by kernel_rfl
theorem tab_ok65 : tabL.getD 65 TI.none = tiOf Go.Proofs.Try.prog 65 := by kernel_rfl
theorem tab_ok66 : tabL.getD 66 TI.none = tiOf Go.Proofs.Try.prog 66 := by kernel_rfl
theorem tab_ok67 : tabL.getD 67 TI.none = tiOf Go.Proofs.Try.prog 67 := by kernel_rfl
theorem tab_ok68 : tabL.getD 68 TI.none = tiOf Go.Proofs.Try.prog 68 := by kernel_rfl
theorem tab_ok70 : tabL.getD 70 TI.none = tiOf Go.Proofs.Try.prog 70 := by kernel_rfl
theorem tab_ok71 : tabL.getD 71 TI.none = tiOf Go.Proofs.Try.prog 71 := by kernel_rfl
theorem tab_ok72 : tabL.getD 72 TI.none = tiOf Go.Proofs.Try.prog 72 := by kernel_rfl
theorem tab_ok73 : tabL.getD 73 TI.none = tiOf Go.Proofs.Try.prog 73 := by kernel_rfl
theorem tab_ok74 : tabL.getD 74 TI.none = tiOf Go.Proofs.Try.prog 74 := by kernel_rfl
theorem tab_ok75 : tabL.getD 75 TI.none = tiOf Go.Proofs.Try.prog 75 := by kernel_rfl
theorem tab_ok76 : tabL.getD 76 TI.none = tiOf Go.Proofs.Try.prog 76 := by kernel_rfl
theorem tab_ok77 : tabL.getD 77 TI.none = tiOf Go.Proofs.Try.prog 77 := by kernel_rfl
theorem tab_ok78 : tabL.getD 78 TI.none = tiOf Go.Proofs.Try.prog 78 := by kernel_rfl
theorem tab_ok79 : tabL.getD 79 TI.none = tiOf Go.Proofs.Try.prog 79 := by kernel_rfl
theorem tab_ok80 : tabL.getD 80 TI.none = tiOf Go.Proofs.Try.prog 80 := by kernel_rfl
theorem tab_ok81 : tabL.getD 81 TI.none = tiOf Go.Proofs.Try.prog 81 := by kernel_rfl
theorem tab_ok82 : tabL.getD 82 TI.none = tiOf Go.Proofs.Try.prog 82 := by kernel_rfl
theorem tab_ok83 : tabL.getD 83 TI.none = tiOf Go.Proofs.Try.prog 83 := by kernel_rfl
theorem tab_ok84 : tabL.getD 84 TI.none = tiOf Go.Proofs.Try.prog 84 := by kernel_rfl
theorem tab_ok85 : tabL.getD 85 TI.none = tiOf Go.Proofs.Try.prog 85 := by kernel_rfl
theorem tab_ok86 : tabL.getD 86 TI.none = tiOf Go.Proofs.Try.prog 86 := by kernel_rfl
theorem tab_ok87 : tabL.getD 87 TI.none = tiOf Go.Proofs.Try.prog 87 := by kernel_rfl
theorem tab_ok88 : tabL.getD 88 TI.none = tiOf Go.Proofs.Try.prog 88 := by kernel_rfl
theorem tab_ok89 : tabL.getD 89 TI.none = tiOf Go.Proofs.Try.prog 89 := by kernel_rfl
theorem tab_ok90 : tabL.getD 90 TI.none = tiOf Go.Proofs.Try.prog 90 := by kernel_rfl
theorem tab_ok91 : tabL.getD 91 TI.none = tiOf Go.Proofs.Try.prog 91 := by kernel_rfl
theorem tab_ok92 : tabL.getD 92 TI.none = tiOf Go.Proofs.Try.prog 92 := by kernel_rfl
theorem tab_ok93 : tabL.getD 93 TI.none = tiOf Go.Proofs.Try.prog 93 := by kernel_rfl
theorem tab_ok94 : tabL.getD 94 TI.none = tiOf Go.Proofs.Try.prog 94 := by kernel_rfl
theorem tab_ok95 : tabL.getD 95 TI.none = tiOf Go.Proofs.Try.prog 95 := by kernel_rfl
theorem tab_ok96 : tabL.getD 96 TI.none = tiOf Go.Proofs.Try.prog 96 := by kernel_rfl
theorem tab_ok97 : tabL.getD 97 TI.none = tiOf Go.Proofs.Try.prog 97 := by kernel_rfl
theorem tab_ok98 : tabL.getD 98 TI.none = tiOf Go.Proofs.Try.prog 98 := by kernel_rfl
theorem tab_ok99 : tabL.getD 99 TI.none = tiOf Go.Proofs.Try.prog 99 := by kernel_rfl
theorem tab_ok100 : tabL.getD 100 TI.none = tiOf Go.Proofs.Try.prog 100 := by kernel_rfl
theorem tab_ok101 : tabL.getD 101 TI.none = tiOf Go.Proofs.Try.prog 101 := by kernel_rfl
theorem tab_ok102 : tabL.getD 102 TI.none = tiOf Go.Proofs.Try.prog 102 := by kernel_rfl
theorem tab_ok103 : tabL.getD 103 TI.none = tiOf Go.Proofs.Try.prog 103 := by kernel_rfl
theorem tab_ok104 : tabL.getD 104 TI.none = tiOf Go.Proofs.Try.prog 104 := by kernel_rfl
theorem tab_ok110 : tabL.getD 110 TI.none = tiOf Go.Proofs.Try.prog 110 := by kernel_rfl
theorem tab_ok111 : tabL.getD 111 TI.none = tiOf Go.Proofs.Try.prog 111 := by kernel_rfl
theorem tab_ok114 : tabL.getD 114 TI.none = tiOf Go.Proofs.Try.prog 114 := by kernel_rfl
theorem tab_ok115 : tabL.getD 115 TI.none = tiOf Go.Proofs.Try.prog 115 := by kernel_rfl
theorem tab_ok : ∀ t, tabL.getD t TI.none = tiOf Go.Proofs.Try.prog t ∨ tabL.getD t TI.none = TI.none
  | 0 => .inr rfl
  | 1 => .inl tab_ok1
  | 2 => .inl tab_ok2
  | 3 => .inl tab_ok3
  | 4 => .inl tab_ok4
  | 5 => .inl tab_ok5
  | 6 => .inr rfl
  | 7 => .inr rfl
  | 8 => .inr rfl
  | 9 => .inl tab_ok9
  | 10 => .inr rfl
  | 11 => .inr rfl
  | 12 => .inl tab_ok12
  | 13 => .inr rfl
  | 14 => .inr rfl
  | 15 => .inr rfl
  | 16 => .inr rfl
  | 17 => .inr rfl
  | 18 => .inr rfl
  | 19 => .inr rfl
  | 20 => .inl tab_ok20
  | 21 => .inl tab_ok21
  | 22 => .inl tab_ok22
  | 23 => .inl tab_ok23
  | 24 => .inl tab_ok24
  | 25 => .inr rfl
  | 26 => .inl tab_ok26
  | 27 => .inl tab_ok27
  | 28 => .inl tab_ok28
  | 29 => .inl tab_ok29
  | 30 => .inl tab_ok30
  | 31 => .inl tab_ok31
  | 32 => .inl tab_ok32
  | 33 => .inl tab_ok33
  | 34 => .inl tab_ok34
  | 35 => .inr rfl
  | 36 => .inl tab_ok36
  | 37 => .inl tab_ok37
  | 38 => .inl tab_ok38
  | 39 => .inl tab_ok39
  | 40 => .inl tab_ok40
  | 41 => .inl tab_ok41
  | 42 => .inl tab_ok42
  | 43 => .inl tab_ok43
  | 44 => .inl tab_ok44
  | 45 => .inl tab_ok45
  | 46 => .inl tab_ok46
  | 47 => .inl tab_ok47
  | 48 => .inl tab_ok48
  | 49 => .inl tab_ok49
  | 50 => .inl tab_ok50
  | 51 => .inr rfl
  | 52 => .inl tab_ok52
  | 53 => .inl tab_ok53
  | 54 => .inl tab_ok54
  | 55 => .inl tab_ok55
  | 56 => .inl tab_ok56
  | 57 => .inr rfl
  | 58 => .inl tab_ok58
  | 59 => .inl tab_ok59
  | 60 => .inl tab_ok60
  | 61 => .inl tab_ok61
  | 62 => .inl tab_ok62
  | 63 => .inl tab_ok63
  | 64 => .inl tab_ok64
  | 65 => .inl tab_ok65
  | 66 => .inl tab_ok66
  | 67 => .inl tab_ok67
  | 68 => .inl tab_ok68
  | 69 => .inr rfl
  | 70 => .inl tab_ok70
  | 71 => .inl tab_ok71
  | 72 => .inl tab_ok72
  | 73 => .inl tab_ok73
  | 74 => .inl tab_ok74
  | 75 => .inl tab_ok75
  | 76 => .inl tab_ok76
  | 77 => .inl tab_ok77
  | 78 => .inl tab_ok78
  | 79 => .inl tab_ok79
  | 80 => .inl tab_ok80
  | 81 => .inl tab_ok81
  | 82 => .inl tab_ok82
  | 83 => .inl tab_ok83
  | 84 => .inl tab_ok84
  | 85 => .inl tab_ok85
  | 86 => .inl tab_ok86
  | 87 => .inl tab_ok87
  | 88 => .inl tab_ok88
  | 89 => .inl tab_ok89
  | 90 => .inl tab_ok90
  | 91 => .inl tab_ok91
  | 92 => .inl tab_ok92
  | 93 => .inl tab_ok93
  | 94 => .inl tab_ok94
  | 95 => .inl tab_ok95
  | 96 => .inl tab_ok96
  | 97 => .inl tab_ok97
  | 98 => .inl tab_ok98
  | 99 => .inl tab_ok99
  | 100 => .inl tab_ok100
  | 101 => .inl tab_ok101
  | 102 => .inl tab_ok102
  | 103 => .inl tab_ok103
  | 104 => .inl tab_ok104
  | 105 => .inr rfl
  | 106 => .inr rfl
  | 107 => .inr rfl
  | 108 => .inr rfl
  | 109 => .inr rfl
  | 110 => .inl tab_ok110
  | 111 => .inl tab_ok111
  | 112 => .inr rfl
  | 113 => .inr rfl
  | 114 => .inl tab_ok114
  | 115 => .inl tab_ok115
  | 116 => .inr rfl
  | 117 => .inr rfl
  | 118 => .inr rfl
  | 119 => .inr rfl
  | 120 => .inr rfl
  | t + 121 => .inr (by rw [List.getD_eq_getElem?_getD, List.getElem?_eq_none (Nat.le_trans (Nat.le_of_ble_eq_true rfl : tabL.length ≤ 121) (Nat.le_add_left _ _))]; rfl)
theorem tab_mixed : Go.Proofs.Try.prog.follows .mixedOrders = true := by kernel_rfl
def tab : Tab Go.Proofs.Try.prog := ⟨fun t => tabL.getD t TI.none, tab_ok, tab_mixed, fun _ => none⟩
end Go.DL
