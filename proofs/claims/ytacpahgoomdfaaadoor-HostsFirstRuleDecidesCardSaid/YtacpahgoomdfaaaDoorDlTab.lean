/- The types of the program as DL's table; each row is checked against the program by the kernel. No condition. -/
import Derived.Test.YtacpahgoomdfaaaDoorDB
import Derived.Test.YtacpahgoomdfaaaDoorProg
namespace Go.DL
def tabL : List TI := [
  TI.none,
  ⟨.func, false, 1, 8, [.raw .nilFunc], true⟩,
  ⟨.int .i64, false, 1, 8, [.int .i64 0], true⟩,
  ⟨.int .i64, false, 1, 8, [.int .i64 0], true⟩,
  ⟨.bool, false, 1, 1, [.bool false], true⟩,
  ⟨.int .u8, false, 1, 1, [.int .u8 0], true⟩,
  TI.none,
  TI.none,
  TI.none,
  ⟨.str, false, 1, 16, [.str ⟨#[]⟩], true⟩,
  TI.none,
  TI.none,
  ⟨.int .u64, false, 1, 8, [.int .u64 0], true⟩,
  TI.none,
  TI.none,
  TI.none,
  TI.none,
  TI.none,
  TI.none,
  TI.none,
  ⟨.iface, false, 1, 16, [.raw .nilIface], true⟩,
  ⟨.int .i32, false, 1, 4, [.int .i32 0], true⟩,
  ⟨.slice 42, false, 1, 24, [.sl 3 true []], true⟩,
  ⟨.struct [(9, 0), (22, 1)], true, 2, 40, [.str ⟨#[]⟩, .sl 3 true []], true⟩,
  ⟨.struct [(9, 0), (22, 1)], true, 2, 40, [.str ⟨#[]⟩, .sl 3 true []], true⟩,
  ⟨.struct [(3, 0), (3, 1)], true, 2, 16, [.int .i64 0, .int .i64 0], true⟩,
  ⟨.struct [(3, 0), (3, 1)], true, 2, 16, [.int .i64 0, .int .i64 0], true⟩,
  TI.none,
  ⟨.func, false, 1, 8, [.raw .nilFunc], true⟩,
  ⟨.func, false, 1, 8, [.raw .nilFunc], true⟩,
  ⟨.func, false, 1, 8, [.raw .nilFunc], true⟩,
  ⟨.func, false, 1, 8, [.raw .nilFunc], true⟩,
  ⟨.slice 24, false, 1, 24, [.sl 2 true []], true⟩,
  TI.none,
  ⟨.func, false, 1, 8, [.raw .nilFunc], true⟩,
  ⟨.func, false, 1, 8, [.raw .nilFunc], true⟩,
  TI.none,
  ⟨.func, false, 1, 8, [.raw .nilFunc], true⟩,
  ⟨.func, false, 1, 8, [.raw .nilFunc], true⟩,
  ⟨.slice 9, false, 1, 24, [.sl 1 true []], true⟩,
  ⟨.func, false, 1, 8, [.raw .nilFunc], true⟩,
  ⟨.struct [(3, 0), (3, 1), (9, 2)], true, 3, 32, [.int .i64 0, .int .i64 0, .str ⟨#[]⟩], true⟩,
  ⟨.struct [(3, 0), (3, 1), (9, 2)], true, 3, 32, [.int .i64 0, .int .i64 0, .str ⟨#[]⟩], true⟩,
  ⟨.func, false, 1, 8, [.raw .nilFunc], true⟩,
  ⟨.func, false, 1, 8, [.raw .nilFunc], true⟩,
  TI.none,
  ⟨.func, false, 1, 8, [.raw .nilFunc], true⟩,
  ⟨.func, false, 1, 8, [.raw .nilFunc], true⟩,
  ⟨.func, false, 1, 8, [.raw .nilFunc], true⟩,
  ⟨.func, false, 1, 8, [.raw .nilFunc], true⟩,
  ⟨.func, false, 1, 8, [.raw .nilFunc], true⟩,
  ⟨.func, false, 1, 8, [.raw .nilFunc], true⟩,
  ⟨.func, false, 1, 8, [.raw .nilFunc], true⟩,
  TI.none,
  ⟨.func, false, 1, 8, [.raw .nilFunc], true⟩,
  ⟨.func, false, 1, 8, [.raw .nilFunc], true⟩,
  ⟨.func, false, 1, 8, [.raw .nilFunc], true⟩,
  ⟨.ptr 59, false, 1, 8, [.raw (.pointer none)], true⟩,
  ⟨.struct [(32, 0), (9, 1), (3, 2)], true, 3, 48, [.sl 2 true [], .str ⟨#[]⟩, .int .i64 0], true⟩,
  ⟨.struct [(32, 0), (9, 1), (3, 2)], true, 3, 48, [.sl 2 true [], .str ⟨#[]⟩, .int .i64 0], true⟩,
  ⟨.func, false, 1, 8, [.raw .nilFunc], true⟩,
  ⟨.array 5 9, true, 5, 80, [.str ⟨#[]⟩, .str ⟨#[]⟩, .str ⟨#[]⟩, .str ⟨#[]⟩, .str ⟨#[]⟩], true⟩,
  ⟨.func, false, 1, 8, [.raw .nilFunc], true⟩,
  ⟨.func, false, 1, 8, [.raw .nilFunc], true⟩,
  ⟨.func, false, 1, 8, [.raw .nilFunc], true⟩,
  ⟨.func, false, 1, 8, [.raw .nilFunc], true⟩,
  ⟨.func, false, 1, 8, [.raw .nilFunc], true⟩,
  ⟨.func, false, 1, 8, [.raw .nilFunc], true⟩,
  TI.none,
  ⟨.func, false, 1, 8, [.raw .nilFunc], true⟩,
  ⟨.func, false, 1, 8, [.raw .nilFunc], true⟩,
  ⟨.func, false, 1, 8, [.raw .nilFunc], true⟩,
  ⟨.func, false, 1, 8, [.raw .nilFunc], true⟩,
  ⟨.func, false, 1, 8, [.raw .nilFunc], true⟩,
  ⟨.func, false, 1, 8, [.raw .nilFunc], true⟩,
  ⟨.func, false, 1, 8, [.raw .nilFunc], true⟩,
  TI.none,
  ⟨.func, false, 1, 8, [.raw .nilFunc], true⟩,
  ⟨.func, false, 1, 8, [.raw .nilFunc], true⟩,
  ⟨.int .u64, false, 1, 8, [.int .u64 0], true⟩,
  ⟨.func, false, 1, 8, [.raw .nilFunc], true⟩,
  TI.none,
  ⟨.struct [(5, 0), (5, 1)], true, 2, 2, [.int .u8 0, .int .u8 0], true⟩,
  ⟨.struct [(5, 0), (5, 1)], true, 2, 2, [.int .u8 0, .int .u8 0], true⟩,
  TI.none,
  ⟨.int .u32, false, 1, 4, [.int .u32 0], true⟩,
  TI.none,
  ⟨.func, false, 1, 8, [.raw .nilFunc], true⟩,
  ⟨.func, false, 1, 8, [.raw .nilFunc], true⟩,
  TI.none,
  TI.none,
  TI.none,
  TI.none,
  TI.none,
  ⟨.func, false, 1, 8, [.raw .nilFunc], true⟩,
  TI.none,
  TI.none,
  ⟨.func, false, 1, 8, [.raw .nilFunc], true⟩,
  ⟨.ptr 5, false, 1, 8, [.raw (.pointer none)], true⟩,
  TI.none,
  TI.none,
  TI.none,
  TI.none,
  TI.none
]
theorem tab_ok1 : tabL.getD 1 TI.none = tiOf Go.Proofs.Tryd.prog 1 := by kernel_rfl
theorem tab_ok2 : tabL.getD 2 TI.none = tiOf Go.Proofs.Tryd.prog 2 := by kernel_rfl
theorem tab_ok3 : tabL.getD 3 TI.none = tiOf Go.Proofs.Tryd.prog 3 := by kernel_rfl
theorem tab_ok4 : tabL.getD 4 TI.none = tiOf Go.Proofs.Tryd.prog 4 := by kernel_rfl
theorem tab_ok5 : tabL.getD 5 TI.none = tiOf Go.Proofs.Tryd.prog 5 := by kernel_rfl
theorem tab_ok9 : tabL.getD 9 TI.none = tiOf Go.Proofs.Tryd.prog 9 := by kernel_rfl
theorem tab_ok12 : tabL.getD 12 TI.none = tiOf Go.Proofs.Tryd.prog 12 := by kernel_rfl
theorem tab_ok20 : tabL.getD 20 TI.none = tiOf Go.Proofs.Tryd.prog 20 := by kernel_rfl
theorem tab_ok21 : tabL.getD 21 TI.none = tiOf Go.Proofs.Tryd.prog 21 := by kernel_rfl
theorem tab_ok22 : tabL.getD 22 TI.none = tiOf Go.Proofs.Tryd.prog 22 := by kernel_rfl
theorem tab_ok23 : tabL.getD 23 TI.none = tiOf Go.Proofs.Tryd.prog 23 := by kernel_rfl
theorem tab_ok24 : tabL.getD 24 TI.none = tiOf Go.Proofs.Tryd.prog 24 := by kernel_rfl
theorem tab_ok25 : tabL.getD 25 TI.none = tiOf Go.Proofs.Tryd.prog 25 := by kernel_rfl
theorem tab_ok26 : tabL.getD 26 TI.none = tiOf Go.Proofs.Tryd.prog 26 := by kernel_rfl
theorem tab_ok28 : tabL.getD 28 TI.none = tiOf Go.Proofs.Tryd.prog 28 := by kernel_rfl
theorem tab_ok29 : tabL.getD 29 TI.none = tiOf Go.Proofs.Tryd.prog 29 := by kernel_rfl
theorem tab_ok30 : tabL.getD 30 TI.none = tiOf Go.Proofs.Tryd.prog 30 := by kernel_rfl
theorem tab_ok31 : tabL.getD 31 TI.none = tiOf Go.Proofs.Tryd.prog 31 := by kernel_rfl
theorem tab_ok32 : tabL.getD 32 TI.none = tiOf Go.Proofs.Tryd.prog 32 := by kernel_rfl
theorem tab_ok34 : tabL.getD 34 TI.none = tiOf Go.Proofs.Tryd.prog 34 := by kernel_rfl
theorem tab_ok35 : tabL.getD 35 TI.none = tiOf Go.Proofs.Tryd.prog 35 := by kernel_rfl
theorem tab_ok37 : tabL.getD 37 TI.none = tiOf Go.Proofs.Tryd.prog 37 := by kernel_rfl
theorem tab_ok38 : tabL.getD 38 TI.none = tiOf Go.Proofs.Tryd.prog 38 := by kernel_rfl
theorem tab_ok39 : tabL.getD 39 TI.none = tiOf Go.Proofs.Tryd.prog 39 := by kernel_rfl
theorem tab_ok40 : tabL.getD 40 TI.none = tiOf Go.Proofs.Tryd.prog 40 := by kernel_rfl
theorem tab_ok41 : tabL.getD 41 TI.none = tiOf Go.Proofs.Tryd.prog 41 := by kernel_rfl
theorem tab_ok42 : tabL.getD 42 TI.none = tiOf Go.Proofs.Tryd.prog 42 := by kernel_rfl
theorem tab_ok43 : tabL.getD 43 TI.none = tiOf Go.Proofs.Tryd.prog 43 := by kernel_rfl
theorem tab_ok44 : tabL.getD 44 TI.none = tiOf Go.Proofs.Tryd.prog 44 := by kernel_rfl
theorem tab_ok46 : tabL.getD 46 TI.none = tiOf Go.Proofs.Tryd.prog 46 := by kernel_rfl
theorem tab_ok47 : tabL.getD 47 TI.none = tiOf Go.Proofs.Tryd.prog 47 := by kernel_rfl
theorem tab_ok48 : tabL.getD 48 TI.none = tiOf Go.Proofs.Tryd.prog 48 := by kernel_rfl
theorem tab_ok49 : tabL.getD 49 TI.none = tiOf Go.Proofs.Tryd.prog 49 := by kernel_rfl
theorem tab_ok50 : tabL.getD 50 TI.none = tiOf Go.Proofs.Tryd.prog 50 := by kernel_rfl
theorem tab_ok51 : tabL.getD 51 TI.none = tiOf Go.Proofs.Tryd.prog 51 := by kernel_rfl
theorem tab_ok52 : tabL.getD 52 TI.none = tiOf Go.Proofs.Tryd.prog 52 := by kernel_rfl
theorem tab_ok54 : tabL.getD 54 TI.none = tiOf Go.Proofs.Tryd.prog 54 := by kernel_rfl
theorem tab_ok55 : tabL.getD 55 TI.none = tiOf Go.Proofs.Tryd.prog 55 := by kernel_rfl
theorem tab_ok56 : tabL.getD 56 TI.none = tiOf Go.Proofs.Tryd.prog 56 := by kernel_rfl
theorem tab_ok57 : tabL.getD 57 TI.none = tiOf Go.Proofs.Tryd.prog 57 := by kernel_rfl
theorem tab_ok58 : tabL.getD 58 TI.none = tiOf Go.Proofs.Tryd.prog 58 := by kernel_rfl
theorem tab_ok59 : tabL.getD 59 TI.none = tiOf Go.Proofs.Tryd.prog 59 := by kernel_rfl
theorem tab_ok60 : tabL.getD 60 TI.none = tiOf Go.Proofs.Tryd.prog 60 := by kernel_rfl
theorem tab_ok61 : tabL.getD 61 TI.none = tiOf Go.Proofs.Tryd.prog 61 := by kernel_rfl
theorem tab_ok62 : tabL.getD 62 TI.none = tiOf Go.Proofs.Tryd.prog 62 := by kernel_rfl
theorem tab_ok63 : tabL.getD 63 TI.none = tiOf Go.Proofs.Tryd.prog 63 := by kernel_rfl
theorem tab_ok64 : tabL.getD 64 TI.none = tiOf Go.Proofs.Tryd.prog 64 := by kernel_rfl
theorem tab_ok65 : tabL.getD 65 TI.none = tiOf Go.Proofs.Tryd.prog 65 := by kernel_rfl
theorem tab_ok66 : tabL.getD 66 TI.none = tiOf Go.Proofs.Tryd.prog 66 := by kernel_rfl
theorem tab_ok67 : tabL.getD 67 TI.none = tiOf Go.Proofs.Tryd.prog 67 := by kernel_rfl
theorem tab_ok69 : tabL.getD 69 TI.none = tiOf Go.Proofs.Tryd.prog 69 := by kernel_rfl
theorem tab_ok70 : tabL.getD 70 TI.none = tiOf Go.Proofs.Tryd.prog 70 := by kernel_rfl
theorem tab_ok71 : tabL.getD 71 TI.none = tiOf Go.Proofs.Tryd.prog 71 := by kernel_rfl
theorem tab_ok72 : tabL.getD 72 TI.none = tiOf Go.Proofs.Tryd.prog 72 := by kernel_rfl
theorem tab_ok73 : tabL.getD 73 TI.none = tiOf Go.Proofs.Tryd.prog 73 := by kernel_rfl
theorem tab_ok74 : tabL.getD 74 TI.none = tiOf Go.Proofs.Tryd.prog 74 := by kernel_rfl
theorem tab_ok75 : tabL.getD 75 TI.none = tiOf Go.Proofs.Tryd.prog 75 := by kernel_rfl
theorem tab_ok77 : tabL.getD 77 TI.none = tiOf Go.Proofs.Tryd.prog 77 := by kernel_rfl
theorem tab_ok78 : tabL.getD 78 TI.none = tiOf Go.Proofs.Tryd.prog 78 := by kernel_rfl
theorem tab_ok79 : tabL.getD 79 TI.none = tiOf Go.Proofs.Tryd.prog 79 := by kernel_rfl
theorem tab_ok80 : tabL.getD 80 TI.none = tiOf Go.Proofs.Tryd.prog 80 := by kernel_rfl
theorem tab_ok82 : tabL.getD 82 TI.none = tiOf Go.Proofs.Tryd.prog 82 := by kernel_rfl
theorem tab_ok83 : tabL.getD 83 TI.none = tiOf Go.Proofs.Tryd.prog 83 := by kernel_rfl
theorem tab_ok85 : tabL.getD 85 TI.none = tiOf Go.Proofs.Tryd.prog 85 := by kernel_rfl
theorem tab_ok87 : tabL.getD 87 TI.none = tiOf Go.Proofs.Tryd.prog 87 := by kernel_rfl
theorem tab_ok88 : tabL.getD 88 TI.none = tiOf Go.Proofs.Tryd.prog 88 := by kernel_rfl
theorem tab_ok94 : tabL.getD 94 TI.none = tiOf Go.Proofs.Tryd.prog 94 := by kernel_rfl
theorem tab_ok97 : tabL.getD 97 TI.none = tiOf Go.Proofs.Tryd.prog 97 := by kernel_rfl
theorem tab_ok98 : tabL.getD 98 TI.none = tiOf Go.Proofs.Tryd.prog 98 := by kernel_rfl
theorem tab_ok : ∀ t, tabL.getD t TI.none = tiOf Go.Proofs.Tryd.prog t ∨ tabL.getD t TI.none = TI.none
  | 0 => .inr rfl
  | 1 => .inl tab_ok1
  | 2 => .inl tab_ok2
  | 3 => .inl tab_ok3
  | 4 => .inl tab_ok4
  | 5 => .inl tab_ok5
  | 6 => .inr rfl
  | 7 => .inr rfl
  | 8 => .inr rfl
  | 9 => .inl tab_ok9
  | 10 => .inr rfl
  | 11 => .inr rfl
  | 12 => .inl tab_ok12
  | 13 => .inr rfl
  | 14 => .inr rfl
  | 15 => .inr rfl
  | 16 => .inr rfl
  | 17 => .inr rfl
  | 18 => .inr rfl
  | 19 => .inr rfl
  | 20 => .inl tab_ok20
  | 21 => .inl tab_ok21
  | 22 => .inl tab_ok22
  | 23 => .inl tab_ok23
  | 24 => .inl tab_ok24
  | 25 => .inl tab_ok25
  | 26 => .inl tab_ok26
  | 27 => .inr rfl
  | 28 => .inl tab_ok28
  | 29 => .inl tab_ok29
  | 30 => .inl tab_ok30
  | 31 => .inl tab_ok31
  | 32 => .inl tab_ok32
  | 33 => .inr rfl
  | 34 => .inl tab_ok34
  | 35 => .inl tab_ok35
  | 36 => .inr rfl
  | 37 => .inl tab_ok37
  | 38 => .inl tab_ok38
  | 39 => .inl tab_ok39
  | 40 => .inl tab_ok40
  | 41 => .inl tab_ok41
  | 42 => .inl tab_ok42
  | 43 => .inl tab_ok43
  | 44 => .inl tab_ok44
  | 45 => .inr rfl
  | 46 => .inl tab_ok46
  | 47 => .inl tab_ok47
  | 48 => .inl tab_ok48
  | 49 => .inl tab_ok49
  | 50 => .inl tab_ok50
  | 51 => .inl tab_ok51
  | 52 => .inl tab_ok52
  | 53 => .inr rfl
  | 54 => .inl tab_ok54
  | 55 => .inl tab_ok55
  | 56 => .inl tab_ok56
  | 57 => .inl tab_ok57
  | 58 => .inl tab_ok58
  | 59 => .inl tab_ok59
  | 60 => .inl tab_ok60
  | 61 => .inl tab_ok61
  | 62 => .inl tab_ok62
  | 63 => .inl tab_ok63
  | 64 => .inl tab_ok64
  | 65 => .inl tab_ok65
  | 66 => .inl tab_ok66
  | 67 => .inl tab_ok67
  | 68 => .inr rfl
  | 69 => .inl tab_ok69
  | 70 => .inl tab_ok70
  | 71 => .inl tab_ok71
  | 72 => .inl tab_ok72
  | 73 => .inl tab_ok73
  | 74 => .inl tab_ok74
  | 75 => .inl tab_ok75
  | 76 => .inr rfl
  | 77 => .inl tab_ok77
  | 78 => .inl tab_ok78
  | 79 => .inl tab_ok79
  | 80 => .inl tab_ok80
  | 81 => .inr rfl
  | 82 => .inl tab_ok82
  | 83 => .inl tab_ok83
  | 84 => .inr rfl
  | 85 => .inl tab_ok85
  | 86 => .inr rfl
  | 87 => .inl tab_ok87
  | 88 => .inl tab_ok88
  | 89 => .inr rfl
  | 90 => .inr rfl
  | 91 => .inr rfl
  | 92 => .inr rfl
  | 93 => .inr rfl
  | 94 => .inl tab_ok94
  | 95 => .inr rfl
  | 96 => .inr rfl
  | 97 => .inl tab_ok97
  | 98 => .inl tab_ok98
  | 99 => .inr rfl
  | 100 => .inr rfl
  | 101 => .inr rfl
  | 102 => .inr rfl
  | 103 => .inr rfl
  | t + 104 => .inr (by rw [List.getD_eq_getElem?_getD, List.getElem?_eq_none (Nat.le_trans (Nat.le_of_ble_eq_true rfl : tabL.length ≤ 104) (Nat.le_add_left _ _))]; rfl)
theorem tab_mixed : Go.Proofs.Tryd.prog.follows .mixedOrders = true := by kernel_rfl
def tab : Tab Go.Proofs.Tryd.prog := ⟨fun t => tabL.getD t TI.none, tab_ok, tab_mixed, fun g => match g with | 0 => some [.str ⟨#[]⟩, .str ⟨#[97, 108, 108]⟩, .str ⟨#[105, 115, 58]⟩, .str ⟨#[117, 110, 100, 101, 114, 58]⟩, .str ⟨#[105, 110, 99, 108, 117, 100, 101, 58]⟩] | _ => none⟩
end Go.DL
