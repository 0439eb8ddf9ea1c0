/-
  No cell of these rows narrows 'for every input' (looked for: loops, veiled, ifaces, maps, wideKeys, modest, calm, conditions, laid).
  DERIVED. THE GIVEN ROWS OF THIS SEAT. 10 by the template 'for every input the law returns true; each argument reads behind the call as it read before'; 0 by the template 'total and deterministic' (their statements: YtdadnjhfennenaaTotals.lean).
  GIVEN WITH THE SEED: the statements are not yours to turn. If you find one false, say at which input.
  Laid BY PROGRAM, IN A SANDBOX (cutbox-rows.mjs): the forced cells as the released guide's own fill.sh prints them over the translation b1fc8f575696984e… (all of the seat's roots in one cut). By AI agents, Wed Nov 11 2026. No macro, syntax, notation, axiom, sorry.
-/
import Derived.Test.YtdadnjhfennenaaChecked
import GoSem.Claim
import GoSem.ClaimJoined
import GoSem.ClaimMapViews
import Derived.JoinedTies
import Derived.KernelRfl
namespace Go.Proofs.Ytdadnjhfennenaa
/- THE CELL 'sum', in the pinned program and in every row, IS THE sha256 OF THE DUMP (.gsa) THAT YtdadnjhfennenaaProg.lean LOADS. Nothing in Lean hashes anything: it is a label: what it is worth is what the hold of that sum in a sandbox is worth. -/
noncomputable def Try.pinned : Pinned := { name := "ytdadnjhfennenaa", sum := "b1fc8f575696984ef7b34c785017f7cec3f061110d3ec7bafc4c06019545fd82", checked := Try.checked }
namespace Rows
def none {H : Type} : Left H := { results := [], args := [] }

/-- 'posthouselaw5.ReputationNoteMatchesSpec': WHATEVER THE INPUT: true; the input reads as it did. -/
def reputationNoteMatchesSpecSpec : ChangeSpec := { name := "reputationNoteMatchesSpec", fn := fun _ => fun
  | [d1, d2, d3, d4] => { results := [.lit (.bool true)], args := [d1, d2, d3, d4] }
  | _ => none }
def reputationNoteMatchesSpecRow : OpenClaim := { program := "ytdadnjhfennenaa", sum := "b1fc8f575696984ef7b34c785017f7cec3f061110d3ec7bafc4c06019545fd82", func := "posthouse/posthouselaw5.ReputationNoteMatchesSpec", spec := "reputationNoteMatchesSpec", inPlace := ["internal/bytealg.abigen_runtime_cmpstring", "slices.overlaps[posthouse/api.Sender]"], unfollowed := true, recurses := true, apart := false }
def ReputationNoteMatchesSpecSaid : Prop := reputationNoteMatchesSpecRow.holds Try.pinned (OpenSpec.ofChange reputationNoteMatchesSpecSpec)

/-- ITS FALSE NEIGHBOUR: 'it returns false'. Refute it at one input. -/
def reputationNoteMatchesSpecWrong : ChangeSpec := { name := "reputationNoteMatchesSpec", fn := fun _ => fun
  | [d1, d2, d3, d4] => { results := [.lit (.bool false)], args := [d1, d2, d3, d4] }
  | _ => none }
def ReputationNoteMatchesSpecWrongFalsely : Prop := reputationNoteMatchesSpecRow.holds Try.pinned (OpenSpec.ofChange reputationNoteMatchesSpecWrong)

/-- 'posthouselaw5.ReputationScoreMatchesSpec': WHATEVER THE INPUT: true; the input reads as it did. -/
def reputationScoreMatchesSpecSpec : ChangeSpec := { name := "reputationScoreMatchesSpec", fn := fun _ => fun
  | [d1, d2, d3] => { results := [.lit (.bool true)], args := [d1, d2, d3] }
  | _ => none }
def reputationScoreMatchesSpecRow : OpenClaim := { program := "ytdadnjhfennenaa", sum := "b1fc8f575696984ef7b34c785017f7cec3f061110d3ec7bafc4c06019545fd82", func := "posthouse/posthouselaw5.ReputationScoreMatchesSpec", spec := "reputationScoreMatchesSpec", inPlace := ["internal/bytealg.abigen_runtime_cmpstring", "slices.overlaps[posthouse/api.Sender]"], unfollowed := true, recurses := true, apart := false }
def ReputationScoreMatchesSpecSaid : Prop := reputationScoreMatchesSpecRow.holds Try.pinned (OpenSpec.ofChange reputationScoreMatchesSpecSpec)

/-- ITS FALSE NEIGHBOUR: 'it returns false'. Refute it at one input. -/
def reputationScoreMatchesSpecWrong : ChangeSpec := { name := "reputationScoreMatchesSpec", fn := fun _ => fun
  | [d1, d2, d3] => { results := [.lit (.bool false)], args := [d1, d2, d3] }
  | _ => none }
def ReputationScoreMatchesSpecWrongFalsely : Prop := reputationScoreMatchesSpecRow.holds Try.pinned (OpenSpec.ofChange reputationScoreMatchesSpecWrong)

/-- 'posthouselaw5.ReputationOrderOfADay': WHATEVER THE INPUT: true; the input reads as it did. -/
def reputationOrderOfADaySpec : ChangeSpec := { name := "reputationOrderOfADay", fn := fun _ => fun
  | [d1, d2, d3, d4, d5, d6] => { results := [.lit (.bool true)], args := [d1, d2, d3, d4, d5, d6] }
  | _ => none }
def reputationOrderOfADayRow : OpenClaim := { program := "ytdadnjhfennenaa", sum := "b1fc8f575696984ef7b34c785017f7cec3f061110d3ec7bafc4c06019545fd82", func := "posthouse/posthouselaw5.ReputationOrderOfADay", spec := "reputationOrderOfADay", inPlace := ["internal/bytealg.abigen_runtime_cmpstring", "slices.overlaps[posthouse/api.Sender]"], unfollowed := true, recurses := true, apart := false }
def ReputationOrderOfADaySaid : Prop := reputationOrderOfADayRow.holds Try.pinned (OpenSpec.ofChange reputationOrderOfADaySpec)

/-- ITS FALSE NEIGHBOUR: 'it returns false'. Refute it at one input. -/
def reputationOrderOfADayWrong : ChangeSpec := { name := "reputationOrderOfADay", fn := fun _ => fun
  | [d1, d2, d3, d4, d5, d6] => { results := [.lit (.bool false)], args := [d1, d2, d3, d4, d5, d6] }
  | _ => none }
def ReputationOrderOfADayWrongFalsely : Prop := reputationOrderOfADayRow.holds Try.pinned (OpenSpec.ofChange reputationOrderOfADayWrong)

/-- 'posthouselaw5.ReputationMovesTheScore': WHATEVER THE INPUT: true; the input reads as it did. -/
def reputationMovesTheScoreSpec : ChangeSpec := { name := "reputationMovesTheScore", fn := fun _ => fun
  | [d1, d2, d3, d4, d5] => { results := [.lit (.bool true)], args := [d1, d2, d3, d4, d5] }
  | _ => none }
def reputationMovesTheScoreRow : OpenClaim := { program := "ytdadnjhfennenaa", sum := "b1fc8f575696984ef7b34c785017f7cec3f061110d3ec7bafc4c06019545fd82", func := "posthouse/posthouselaw5.ReputationMovesTheScore", spec := "reputationMovesTheScore", inPlace := ["internal/bytealg.abigen_runtime_cmpstring", "slices.overlaps[posthouse/api.Sender]"], unfollowed := true, recurses := true, apart := false }
def ReputationMovesTheScoreSaid : Prop := reputationMovesTheScoreRow.holds Try.pinned (OpenSpec.ofChange reputationMovesTheScoreSpec)

/-- ITS FALSE NEIGHBOUR: 'it returns false'. Refute it at one input. -/
def reputationMovesTheScoreWrong : ChangeSpec := { name := "reputationMovesTheScore", fn := fun _ => fun
  | [d1, d2, d3, d4, d5] => { results := [.lit (.bool false)], args := [d1, d2, d3, d4, d5] }
  | _ => none }
def ReputationMovesTheScoreWrongFalsely : Prop := reputationMovesTheScoreRow.holds Try.pinned (OpenSpec.ofChange reputationMovesTheScoreWrong)

/-- 'posthouselaw5.ReputationFades': WHATEVER THE INPUT: true; the input reads as it did. -/
def reputationFadesSpec : ChangeSpec := { name := "reputationFades", fn := fun _ => fun
  | [d1, d2, d3, d4] => { results := [.lit (.bool true)], args := [d1, d2, d3, d4] }
  | _ => none }
def reputationFadesRow : OpenClaim := { program := "ytdadnjhfennenaa", sum := "b1fc8f575696984ef7b34c785017f7cec3f061110d3ec7bafc4c06019545fd82", func := "posthouse/posthouselaw5.ReputationFades", spec := "reputationFades", inPlace := ["internal/bytealg.abigen_runtime_cmpstring", "slices.overlaps[posthouse/api.Sender]"], unfollowed := true, recurses := true, apart := false }
def ReputationFadesSaid : Prop := reputationFadesRow.holds Try.pinned (OpenSpec.ofChange reputationFadesSpec)

/-- ITS FALSE NEIGHBOUR: 'it returns false'. Refute it at one input. -/
def reputationFadesWrong : ChangeSpec := { name := "reputationFades", fn := fun _ => fun
  | [d1, d2, d3, d4] => { results := [.lit (.bool false)], args := [d1, d2, d3, d4] }
  | _ => none }
def ReputationFadesWrongFalsely : Prop := reputationFadesRow.holds Try.pinned (OpenSpec.ofChange reputationFadesWrong)

/-- 'posthouselaw5.ClassifyScoreMatchesSpec': WHATEVER THE INPUT: true; the input reads as it did. -/
def classifyScoreMatchesSpecSpec : ChangeSpec := { name := "classifyScoreMatchesSpec", fn := fun _ => fun
  | [d1, d2] => { results := [.lit (.bool true)], args := [d1, d2] }
  | _ => none }
def classifyScoreMatchesSpecRow : OpenClaim := { program := "ytdadnjhfennenaa", sum := "b1fc8f575696984ef7b34c785017f7cec3f061110d3ec7bafc4c06019545fd82", func := "posthouse/posthouselaw5.ClassifyScoreMatchesSpec", spec := "classifyScoreMatchesSpec", inPlace := ["internal/bytealg.abigen_runtime_cmpstring", "slices.overlaps[posthouse/api.Token]"], unfollowed := true, recurses := true, apart := false }
def ClassifyScoreMatchesSpecSaid : Prop := classifyScoreMatchesSpecRow.holds Try.pinned (OpenSpec.ofChange classifyScoreMatchesSpecSpec)

/-- ITS FALSE NEIGHBOUR: 'it returns false'. Refute it at one input. -/
def classifyScoreMatchesSpecWrong : ChangeSpec := { name := "classifyScoreMatchesSpec", fn := fun _ => fun
  | [d1, d2] => { results := [.lit (.bool false)], args := [d1, d2] }
  | _ => none }
def ClassifyScoreMatchesSpecWrongFalsely : Prop := classifyScoreMatchesSpecRow.holds Try.pinned (OpenSpec.ofChange classifyScoreMatchesSpecWrong)

/-- 'posthouselaw5.ClassifyInAnyOrder': WHATEVER THE INPUT: true; the input reads as it did. -/
def classifyInAnyOrderSpec : ChangeSpec := { name := "classifyInAnyOrder", fn := fun _ => fun
  | [d1, d2, d3, d4, d5] => { results := [.lit (.bool true)], args := [d1, d2, d3, d4, d5] }
  | _ => none }
def classifyInAnyOrderRow : OpenClaim := { program := "ytdadnjhfennenaa", sum := "b1fc8f575696984ef7b34c785017f7cec3f061110d3ec7bafc4c06019545fd82", func := "posthouse/posthouselaw5.ClassifyInAnyOrder", spec := "classifyInAnyOrder", inPlace := ["internal/bytealg.abigen_runtime_cmpstring", "slices.overlaps[posthouse/api.Token]"], unfollowed := true, recurses := true, apart := false }
def ClassifyInAnyOrderSaid : Prop := classifyInAnyOrderRow.holds Try.pinned (OpenSpec.ofChange classifyInAnyOrderSpec)

/-- ITS FALSE NEIGHBOUR: 'it returns false'. Refute it at one input. -/
def classifyInAnyOrderWrong : ChangeSpec := { name := "classifyInAnyOrder", fn := fun _ => fun
  | [d1, d2, d3, d4, d5] => { results := [.lit (.bool false)], args := [d1, d2, d3, d4, d5] }
  | _ => none }
def ClassifyInAnyOrderWrongFalsely : Prop := classifyInAnyOrderRow.holds Try.pinned (OpenSpec.ofChange classifyInAnyOrderWrong)

/-- 'posthouselaw5.ClassifyLearnsTheSide': WHATEVER THE INPUT: true; the input reads as it did. -/
def classifyLearnsTheSideSpec : ChangeSpec := { name := "classifyLearnsTheSide", fn := fun _ => fun
  | [d1, d2] => { results := [.lit (.bool true)], args := [d1, d2] }
  | _ => none }
def classifyLearnsTheSideRow : OpenClaim := { program := "ytdadnjhfennenaa", sum := "b1fc8f575696984ef7b34c785017f7cec3f061110d3ec7bafc4c06019545fd82", func := "posthouse/posthouselaw5.ClassifyLearnsTheSide", spec := "classifyLearnsTheSide", inPlace := ["internal/bytealg.abigen_runtime_cmpstring", "slices.overlaps[posthouse/api.Token]"], unfollowed := true, recurses := true, apart := false }
def ClassifyLearnsTheSideSaid : Prop := classifyLearnsTheSideRow.holds Try.pinned (OpenSpec.ofChange classifyLearnsTheSideSpec)

/-- ITS FALSE NEIGHBOUR: 'it returns false'. Refute it at one input. -/
def classifyLearnsTheSideWrong : ChangeSpec := { name := "classifyLearnsTheSide", fn := fun _ => fun
  | [d1, d2] => { results := [.lit (.bool false)], args := [d1, d2] }
  | _ => none }
def ClassifyLearnsTheSideWrongFalsely : Prop := classifyLearnsTheSideRow.holds Try.pinned (OpenSpec.ofChange classifyLearnsTheSideWrong)

/-- 'posthouselaw5.ClassifyMatchesSpec': WHATEVER THE INPUT: true; the input reads as it did. -/
def classifyMatchesSpecSpec : ChangeSpec := { name := "classifyMatchesSpec", fn := fun _ => fun
  | [d1, d2, d3] => { results := [.lit (.bool true)], args := [d1, d2, d3] }
  | _ => none }
def classifyMatchesSpecRow : OpenClaim := { program := "ytdadnjhfennenaa", sum := "b1fc8f575696984ef7b34c785017f7cec3f061110d3ec7bafc4c06019545fd82", func := "posthouse/posthouselaw5.ClassifyMatchesSpec", spec := "classifyMatchesSpec", inPlace := ["internal/bytealg.abigen_runtime_cmpstring", "slices.overlaps[posthouse/api.Token]"], unfollowed := true, recurses := true, apart := false }
def ClassifyMatchesSpecSaid : Prop := classifyMatchesSpecRow.holds Try.pinned (OpenSpec.ofChange classifyMatchesSpecSpec)

/-- ITS FALSE NEIGHBOUR: 'it returns false'. Refute it at one input. -/
def classifyMatchesSpecWrong : ChangeSpec := { name := "classifyMatchesSpec", fn := fun _ => fun
  | [d1, d2, d3] => { results := [.lit (.bool false)], args := [d1, d2, d3] }
  | _ => none }
def ClassifyMatchesSpecWrongFalsely : Prop := classifyMatchesSpecRow.holds Try.pinned (OpenSpec.ofChange classifyMatchesSpecWrong)

/-- 'posthouselaw5.ClassifyForgets': WHATEVER THE INPUT: true; the input reads as it did. -/
def classifyForgetsSpec : ChangeSpec := { name := "classifyForgets", fn := fun _ => fun
  | [d1, d2, d3] => { results := [.lit (.bool true)], args := [d1, d2, d3] }
  | _ => none }
def classifyForgetsRow : OpenClaim := { program := "ytdadnjhfennenaa", sum := "b1fc8f575696984ef7b34c785017f7cec3f061110d3ec7bafc4c06019545fd82", func := "posthouse/posthouselaw5.ClassifyForgets", spec := "classifyForgets", inPlace := ["internal/bytealg.abigen_runtime_cmpstring", "slices.overlaps[posthouse/api.Token]"], unfollowed := true, recurses := true, apart := false }
def ClassifyForgetsSaid : Prop := classifyForgetsRow.holds Try.pinned (OpenSpec.ofChange classifyForgetsSpec)

/-- ITS FALSE NEIGHBOUR: 'it returns false'. Refute it at one input. -/
def classifyForgetsWrong : ChangeSpec := { name := "classifyForgets", fn := fun _ => fun
  | [d1, d2, d3] => { results := [.lit (.bool false)], args := [d1, d2, d3] }
  | _ => none }
def ClassifyForgetsWrongFalsely : Prop := classifyForgetsRow.holds Try.pinned (OpenSpec.ofChange classifyForgetsWrong)

/- THE SECOND FORM. 'bulk': how many values and letters a reading holds, each counted each time it is reached (what is shared counts as often as it is met; a slice's spare places count too). A statement '..UptoSaid' is the law's where the arguments, and the package variables that the reading takes, are together of bulk at most 1048576: NARROWER than '..Said'. Prove '..Said' where nothing that the law and all that it calls make is longer than what came in: it says more and counts as full. Else prove '..UptoSaid'. A law counts once. -/
mutual
def uptoBulk {H : Type} : DataW H → Nat
  | .lit (.string bytes) => bytes.length + 1
  | .lit _ => 1
  | .nil => 1
  | .ptr d => uptoBulk d + 1
  | .slice elems spare => uptoBulkAll elems + uptoBulkAll spare + 1
  | .agg parts => uptoBulkAll parts + 1
  | .iface _ d => uptoBulk d + 1
  | .map entries => uptoBulkEntries entries + 1
  | .held _ => 1
def uptoBulkAll {H : Type} : List (DataW H) → Nat
  | [] => 0
  | d :: r => uptoBulk d + uptoBulkAll r
def uptoBulkEntries {H : Type} : List (Lit × DataW H) → Nat
  | [] => 0
  | x :: r => uptoBulkEntry x + uptoBulkEntries r
def uptoBulkEntry {H : Type} : Lit × DataW H → Nat
  | (.string bytes, d) => bytes.length + uptoBulk d + 1
  | (_, d) => uptoBulk d + 1
 end
def uptoSmall : (H : Type) → List (DataW H) → Bool := fun _ ds => decide (uptoBulkAll ds ≤ 1048576)
def OpenSpec.upto (s : _root_.Go.ChangeSpec) : _root_.Go.OpenSpec := { _root_.Go.OpenSpec.ofChange s with cond := some uptoSmall }

/-- 'posthouselaw5.ReputationNoteMatchesSpec', WHERE WHAT IT READS IS OF BULK AT MOST 1048576: true; the input reads as it did. -/
def reputationNoteMatchesSpecUptoRow : OpenClaim := { program := "ytdadnjhfennenaa", sum := "b1fc8f575696984ef7b34c785017f7cec3f061110d3ec7bafc4c06019545fd82", func := "posthouse/posthouselaw5.ReputationNoteMatchesSpec", spec := "reputationNoteMatchesSpec", inPlace := ["internal/bytealg.abigen_runtime_cmpstring", "slices.overlaps[posthouse/api.Sender]"], unfollowed := true, recurses := true, apart := false, narrowed := true }
def ReputationNoteMatchesSpecUptoSaid : Prop := reputationNoteMatchesSpecUptoRow.holds Try.pinned (OpenSpec.upto reputationNoteMatchesSpecSpec)

/-- 'posthouselaw5.ReputationScoreMatchesSpec', WHERE WHAT IT READS IS OF BULK AT MOST 1048576: true; the input reads as it did. -/
def reputationScoreMatchesSpecUptoRow : OpenClaim := { program := "ytdadnjhfennenaa", sum := "b1fc8f575696984ef7b34c785017f7cec3f061110d3ec7bafc4c06019545fd82", func := "posthouse/posthouselaw5.ReputationScoreMatchesSpec", spec := "reputationScoreMatchesSpec", inPlace := ["internal/bytealg.abigen_runtime_cmpstring", "slices.overlaps[posthouse/api.Sender]"], unfollowed := true, recurses := true, apart := false, narrowed := true }
def ReputationScoreMatchesSpecUptoSaid : Prop := reputationScoreMatchesSpecUptoRow.holds Try.pinned (OpenSpec.upto reputationScoreMatchesSpecSpec)

/-- 'posthouselaw5.ReputationOrderOfADay', WHERE WHAT IT READS IS OF BULK AT MOST 1048576: true; the input reads as it did. -/
def reputationOrderOfADayUptoRow : OpenClaim := { program := "ytdadnjhfennenaa", sum := "b1fc8f575696984ef7b34c785017f7cec3f061110d3ec7bafc4c06019545fd82", func := "posthouse/posthouselaw5.ReputationOrderOfADay", spec := "reputationOrderOfADay", inPlace := ["internal/bytealg.abigen_runtime_cmpstring", "slices.overlaps[posthouse/api.Sender]"], unfollowed := true, recurses := true, apart := false, narrowed := true }
def ReputationOrderOfADayUptoSaid : Prop := reputationOrderOfADayUptoRow.holds Try.pinned (OpenSpec.upto reputationOrderOfADaySpec)

/-- 'posthouselaw5.ReputationMovesTheScore', WHERE WHAT IT READS IS OF BULK AT MOST 1048576: true; the input reads as it did. -/
def reputationMovesTheScoreUptoRow : OpenClaim := { program := "ytdadnjhfennenaa", sum := "b1fc8f575696984ef7b34c785017f7cec3f061110d3ec7bafc4c06019545fd82", func := "posthouse/posthouselaw5.ReputationMovesTheScore", spec := "reputationMovesTheScore", inPlace := ["internal/bytealg.abigen_runtime_cmpstring", "slices.overlaps[posthouse/api.Sender]"], unfollowed := true, recurses := true, apart := false, narrowed := true }
def ReputationMovesTheScoreUptoSaid : Prop := reputationMovesTheScoreUptoRow.holds Try.pinned (OpenSpec.upto reputationMovesTheScoreSpec)

/-- 'posthouselaw5.ReputationFades', WHERE WHAT IT READS IS OF BULK AT MOST 1048576: true; the input reads as it did. -/
def reputationFadesUptoRow : OpenClaim := { program := "ytdadnjhfennenaa", sum := "b1fc8f575696984ef7b34c785017f7cec3f061110d3ec7bafc4c06019545fd82", func := "posthouse/posthouselaw5.ReputationFades", spec := "reputationFades", inPlace := ["internal/bytealg.abigen_runtime_cmpstring", "slices.overlaps[posthouse/api.Sender]"], unfollowed := true, recurses := true, apart := false, narrowed := true }
def ReputationFadesUptoSaid : Prop := reputationFadesUptoRow.holds Try.pinned (OpenSpec.upto reputationFadesSpec)

/-- 'posthouselaw5.ClassifyScoreMatchesSpec', WHERE WHAT IT READS IS OF BULK AT MOST 1048576: true; the input reads as it did. -/
def classifyScoreMatchesSpecUptoRow : OpenClaim := { program := "ytdadnjhfennenaa", sum := "b1fc8f575696984ef7b34c785017f7cec3f061110d3ec7bafc4c06019545fd82", func := "posthouse/posthouselaw5.ClassifyScoreMatchesSpec", spec := "classifyScoreMatchesSpec", inPlace := ["internal/bytealg.abigen_runtime_cmpstring", "slices.overlaps[posthouse/api.Token]"], unfollowed := true, recurses := true, apart := false, narrowed := true }
def ClassifyScoreMatchesSpecUptoSaid : Prop := classifyScoreMatchesSpecUptoRow.holds Try.pinned (OpenSpec.upto classifyScoreMatchesSpecSpec)

/-- 'posthouselaw5.ClassifyInAnyOrder', WHERE WHAT IT READS IS OF BULK AT MOST 1048576: true; the input reads as it did. -/
def classifyInAnyOrderUptoRow : OpenClaim := { program := "ytdadnjhfennenaa", sum := "b1fc8f575696984ef7b34c785017f7cec3f061110d3ec7bafc4c06019545fd82", func := "posthouse/posthouselaw5.ClassifyInAnyOrder", spec := "classifyInAnyOrder", inPlace := ["internal/bytealg.abigen_runtime_cmpstring", "slices.overlaps[posthouse/api.Token]"], unfollowed := true, recurses := true, apart := false, narrowed := true }
def ClassifyInAnyOrderUptoSaid : Prop := classifyInAnyOrderUptoRow.holds Try.pinned (OpenSpec.upto classifyInAnyOrderSpec)

/-- 'posthouselaw5.ClassifyLearnsTheSide', WHERE WHAT IT READS IS OF BULK AT MOST 1048576: true; the input reads as it did. -/
def classifyLearnsTheSideUptoRow : OpenClaim := { program := "ytdadnjhfennenaa", sum := "b1fc8f575696984ef7b34c785017f7cec3f061110d3ec7bafc4c06019545fd82", func := "posthouse/posthouselaw5.ClassifyLearnsTheSide", spec := "classifyLearnsTheSide", inPlace := ["internal/bytealg.abigen_runtime_cmpstring", "slices.overlaps[posthouse/api.Token]"], unfollowed := true, recurses := true, apart := false, narrowed := true }
def ClassifyLearnsTheSideUptoSaid : Prop := classifyLearnsTheSideUptoRow.holds Try.pinned (OpenSpec.upto classifyLearnsTheSideSpec)

/-- 'posthouselaw5.ClassifyMatchesSpec', WHERE WHAT IT READS IS OF BULK AT MOST 1048576: true; the input reads as it did. -/
def classifyMatchesSpecUptoRow : OpenClaim := { program := "ytdadnjhfennenaa", sum := "b1fc8f575696984ef7b34c785017f7cec3f061110d3ec7bafc4c06019545fd82", func := "posthouse/posthouselaw5.ClassifyMatchesSpec", spec := "classifyMatchesSpec", inPlace := ["internal/bytealg.abigen_runtime_cmpstring", "slices.overlaps[posthouse/api.Token]"], unfollowed := true, recurses := true, apart := false, narrowed := true }
def ClassifyMatchesSpecUptoSaid : Prop := classifyMatchesSpecUptoRow.holds Try.pinned (OpenSpec.upto classifyMatchesSpecSpec)

/-- 'posthouselaw5.ClassifyForgets', WHERE WHAT IT READS IS OF BULK AT MOST 1048576: true; the input reads as it did. -/
def classifyForgetsUptoRow : OpenClaim := { program := "ytdadnjhfennenaa", sum := "b1fc8f575696984ef7b34c785017f7cec3f061110d3ec7bafc4c06019545fd82", func := "posthouse/posthouselaw5.ClassifyForgets", spec := "classifyForgets", inPlace := ["internal/bytealg.abigen_runtime_cmpstring", "slices.overlaps[posthouse/api.Token]"], unfollowed := true, recurses := true, apart := false, narrowed := true }
def ClassifyForgetsUptoSaid : Prop := classifyForgetsUptoRow.holds Try.pinned (OpenSpec.upto classifyForgetsSpec)

end Rows
end Go.Proofs.Ytdadnjhfennenaa
