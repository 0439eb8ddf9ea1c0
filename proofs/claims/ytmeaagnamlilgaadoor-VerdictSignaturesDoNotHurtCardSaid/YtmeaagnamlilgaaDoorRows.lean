/-
  NARROWER THAN 'FOR EVERY INPUT', by the rows' own cells (each row's printed sentence says how): VerdictMatchesSpec: laid · VerdictIsMonotone: laid · VerdictReasonsAddUp: laid · VerdictSignaturesDoNotHurt: laid.
  DERIVED. THE GIVEN ROWS OF THIS SEAT. 4 by the template 'for every input the law returns true; each argument reads behind the call as it read before'; 0 by the template 'total and deterministic' (their statements: YtmeaagnamlilgaaDoorTotals.lean).
  GIVEN WITH THE SEED: the statements are not yours to turn. If you find one false, say at which input.
  Laid BY PROGRAM, IN A SANDBOX (cutbox-rows.mjs): the forced cells as the released guide's own fill.sh prints them over the translation 367d75e0275a8544… (all of the seat's roots in one cut). By AI agents, Wed Nov 11 2026. No macro, syntax, notation, axiom, sorry.
-/
import Derived.Test.YtmeaagnamlilgaaDoorChecked
import GoSem.Claim
import GoSem.ClaimJoined
import GoSem.ClaimMapViews
import Derived.JoinedTies
import Derived.KernelRfl
namespace Go.Proofs.YtmeaagnamlilgaaDoor
/- THE CELL 'sum', in the pinned program and in every row, IS THE sha256 OF THE DUMP (.gsa) THAT YtmeaagnamlilgaaDoorProg.lean LOADS. Nothing in Lean hashes anything: it is a label: what it is worth is what the hold of that sum in a sandbox is worth. -/
noncomputable def Tryd.pinned : Pinned := { name := "ytmeaagnamlilgaadoor", sum := "367d75e0275a8544281bbcd950eea7e00838fc307c0fd407ad9efb2cec6a96aa", checked := Tryd.checked }
namespace Rows
def none {H : Type} : Left H := { results := [], args := [] }

/- WHAT THE LISTED PACKAGE-LEVEL VARIABLES READ AS WHEN THE CALL BEGINS. Each datum BY PROGRAM (the guide's laid-datum.mjs) off the statement by which the dump's own 'gosem.cut.vars' lays the variable. In a bare row this is a premise. The card (YtmeaagnamlilgaaDoorCards.lean) ties it to the program's text. -/
def laid_posthouse_verdict_hosts {H : Type} : DataW H := .agg [.lit (.int .i64 5), .lit (.int .i64 0), .lit (.int .i64 40), .lit (.int .i64 20), .lit (.int .i64 5), .lit (.int .i64 10)]

/-- 'posthouselaw5.VerdictMatchesSpec': WHATEVER THE INPUT: true; the input reads as it did. -/
def verdictMatchesSpecSpec : ChangeSpec := { name := "verdictMatchesSpec", fn := fun _ => fun
  | [d] => { results := [.lit (.bool true)], args := [d] }
  | _ => none }
def verdictMatchesSpecRow : OpenClaim := { program := "ytmeaagnamlilgaadoor", sum := "367d75e0275a8544281bbcd950eea7e00838fc307c0fd407ad9efb2cec6a96aa", func := "posthouse/posthouselaw5.VerdictMatchesSpec", spec := "verdictMatchesSpec", unfollowed := true, recurses := true, named := ["posthouse/verdict.hosts"], apart := false, laid := [("posthouse/verdict.hosts", laid_posthouse_verdict_hosts)] }
def VerdictMatchesSpecSaid : Prop := verdictMatchesSpecRow.holds Tryd.pinned (OpenSpec.ofChange verdictMatchesSpecSpec)

/-- ITS FALSE NEIGHBOUR: 'it returns false'. Refute it at one input. -/
def verdictMatchesSpecWrong : ChangeSpec := { name := "verdictMatchesSpec", fn := fun _ => fun
  | [d] => { results := [.lit (.bool false)], args := [d] }
  | _ => none }
def VerdictMatchesSpecWrongFalsely : Prop := verdictMatchesSpecRow.holds Tryd.pinned (OpenSpec.ofChange verdictMatchesSpecWrong)

/-- 'posthouselaw5.VerdictIsMonotone': WHATEVER THE INPUT: true; the input reads as it did. -/
def verdictIsMonotoneSpec : ChangeSpec := { name := "verdictIsMonotone", fn := fun _ => fun
  | [d1, d2] => { results := [.lit (.bool true)], args := [d1, d2] }
  | _ => none }
def verdictIsMonotoneRow : OpenClaim := { program := "ytmeaagnamlilgaadoor", sum := "367d75e0275a8544281bbcd950eea7e00838fc307c0fd407ad9efb2cec6a96aa", func := "posthouse/posthouselaw5.VerdictIsMonotone", spec := "verdictIsMonotone", unfollowed := true, recurses := true, named := ["posthouse/verdict.hosts"], apart := false, laid := [("posthouse/verdict.hosts", laid_posthouse_verdict_hosts)] }
def VerdictIsMonotoneSaid : Prop := verdictIsMonotoneRow.holds Tryd.pinned (OpenSpec.ofChange verdictIsMonotoneSpec)

/-- ITS FALSE NEIGHBOUR: 'it returns false'. Refute it at one input. -/
def verdictIsMonotoneWrong : ChangeSpec := { name := "verdictIsMonotone", fn := fun _ => fun
  | [d1, d2] => { results := [.lit (.bool false)], args := [d1, d2] }
  | _ => none }
def VerdictIsMonotoneWrongFalsely : Prop := verdictIsMonotoneRow.holds Tryd.pinned (OpenSpec.ofChange verdictIsMonotoneWrong)

/-- 'posthouselaw5.VerdictReasonsAddUp': WHATEVER THE INPUT: true; the input reads as it did. -/
def verdictReasonsAddUpSpec : ChangeSpec := { name := "verdictReasonsAddUp", fn := fun _ => fun
  | [d] => { results := [.lit (.bool true)], args := [d] }
  | _ => none }
def verdictReasonsAddUpRow : OpenClaim := { program := "ytmeaagnamlilgaadoor", sum := "367d75e0275a8544281bbcd950eea7e00838fc307c0fd407ad9efb2cec6a96aa", func := "posthouse/posthouselaw5.VerdictReasonsAddUp", spec := "verdictReasonsAddUp", unfollowed := true, recurses := true, named := ["posthouse/verdict.hosts"], apart := false, laid := [("posthouse/verdict.hosts", laid_posthouse_verdict_hosts)] }
def VerdictReasonsAddUpSaid : Prop := verdictReasonsAddUpRow.holds Tryd.pinned (OpenSpec.ofChange verdictReasonsAddUpSpec)

/-- ITS FALSE NEIGHBOUR: 'it returns false'. Refute it at one input. -/
def verdictReasonsAddUpWrong : ChangeSpec := { name := "verdictReasonsAddUp", fn := fun _ => fun
  | [d] => { results := [.lit (.bool false)], args := [d] }
  | _ => none }
def VerdictReasonsAddUpWrongFalsely : Prop := verdictReasonsAddUpRow.holds Tryd.pinned (OpenSpec.ofChange verdictReasonsAddUpWrong)

/-- 'posthouselaw5.VerdictSignaturesDoNotHurt': WHATEVER THE INPUT: true; the input reads as it did. -/
def verdictSignaturesDoNotHurtSpec : ChangeSpec := { name := "verdictSignaturesDoNotHurt", fn := fun _ => fun
  | [d1, d2] => { results := [.lit (.bool true)], args := [d1, d2] }
  | _ => none }
def verdictSignaturesDoNotHurtRow : OpenClaim := { program := "ytmeaagnamlilgaadoor", sum := "367d75e0275a8544281bbcd950eea7e00838fc307c0fd407ad9efb2cec6a96aa", func := "posthouse/posthouselaw5.VerdictSignaturesDoNotHurt", spec := "verdictSignaturesDoNotHurt", unfollowed := true, recurses := true, named := ["posthouse/verdict.hosts"], apart := false, laid := [("posthouse/verdict.hosts", laid_posthouse_verdict_hosts)] }
def VerdictSignaturesDoNotHurtSaid : Prop := verdictSignaturesDoNotHurtRow.holds Tryd.pinned (OpenSpec.ofChange verdictSignaturesDoNotHurtSpec)

/-- ITS FALSE NEIGHBOUR: 'it returns false'. Refute it at one input. -/
def verdictSignaturesDoNotHurtWrong : ChangeSpec := { name := "verdictSignaturesDoNotHurt", fn := fun _ => fun
  | [d1, d2] => { results := [.lit (.bool false)], args := [d1, d2] }
  | _ => none }
def VerdictSignaturesDoNotHurtWrongFalsely : Prop := verdictSignaturesDoNotHurtRow.holds Tryd.pinned (OpenSpec.ofChange verdictSignaturesDoNotHurtWrong)

/- THE SECOND FORM. 'bulk': how many values and letters a reading holds, each counted each time it is reached (what is shared counts as often as it is met; a slice's spare places count too). A statement '..UptoSaid' is the law's where the arguments, and the package variables that the reading takes, are together of bulk at most 1048576: NARROWER than '..Said'. Prove '..Said' where nothing that the law and all that it calls make is longer than what came in: it says more and counts as full. Else prove '..UptoSaid'. A law counts once. -/
mutual
def uptoBulk {H : Type} : DataW H → Nat
  | .lit (.string bytes) => bytes.length + 1
  | .lit _ => 1
  | .nil => 1
  | .ptr d => uptoBulk d + 1
  | .slice elems spare => uptoBulkAll elems + uptoBulkAll spare + 1
  | .agg parts => uptoBulkAll parts + 1
  | .iface _ d => uptoBulk d + 1
  | .map entries => uptoBulkEntries entries + 1
  | .held _ => 1
def uptoBulkAll {H : Type} : List (DataW H) → Nat
  | [] => 0
  | d :: r => uptoBulk d + uptoBulkAll r
def uptoBulkEntries {H : Type} : List (Lit × DataW H) → Nat
  | [] => 0
  | x :: r => uptoBulkEntry x + uptoBulkEntries r
def uptoBulkEntry {H : Type} : Lit × DataW H → Nat
  | (.string bytes, d) => bytes.length + uptoBulk d + 1
  | (_, d) => uptoBulk d + 1
 end
def uptoSmall : (H : Type) → List (DataW H) → Bool := fun _ ds => decide (uptoBulkAll ds ≤ 1048576)
def OpenSpec.upto (s : _root_.Go.ChangeSpec) : _root_.Go.OpenSpec := { _root_.Go.OpenSpec.ofChange s with cond := some uptoSmall }

/-- 'posthouselaw5.VerdictMatchesSpec', WHERE WHAT IT READS IS OF BULK AT MOST 1048576: true; the input reads as it did. -/
def verdictMatchesSpecUptoRow : OpenClaim := { program := "ytmeaagnamlilgaadoor", sum := "367d75e0275a8544281bbcd950eea7e00838fc307c0fd407ad9efb2cec6a96aa", func := "posthouse/posthouselaw5.VerdictMatchesSpec", spec := "verdictMatchesSpec", unfollowed := true, recurses := true, named := ["posthouse/verdict.hosts"], apart := false, laid := [("posthouse/verdict.hosts", laid_posthouse_verdict_hosts)], narrowed := true }
def VerdictMatchesSpecUptoSaid : Prop := verdictMatchesSpecUptoRow.holds Tryd.pinned (OpenSpec.upto verdictMatchesSpecSpec)

/-- 'posthouselaw5.VerdictIsMonotone', WHERE WHAT IT READS IS OF BULK AT MOST 1048576: true; the input reads as it did. -/
def verdictIsMonotoneUptoRow : OpenClaim := { program := "ytmeaagnamlilgaadoor", sum := "367d75e0275a8544281bbcd950eea7e00838fc307c0fd407ad9efb2cec6a96aa", func := "posthouse/posthouselaw5.VerdictIsMonotone", spec := "verdictIsMonotone", unfollowed := true, recurses := true, named := ["posthouse/verdict.hosts"], apart := false, laid := [("posthouse/verdict.hosts", laid_posthouse_verdict_hosts)], narrowed := true }
def VerdictIsMonotoneUptoSaid : Prop := verdictIsMonotoneUptoRow.holds Tryd.pinned (OpenSpec.upto verdictIsMonotoneSpec)

/-- 'posthouselaw5.VerdictReasonsAddUp', WHERE WHAT IT READS IS OF BULK AT MOST 1048576: true; the input reads as it did. -/
def verdictReasonsAddUpUptoRow : OpenClaim := { program := "ytmeaagnamlilgaadoor", sum := "367d75e0275a8544281bbcd950eea7e00838fc307c0fd407ad9efb2cec6a96aa", func := "posthouse/posthouselaw5.VerdictReasonsAddUp", spec := "verdictReasonsAddUp", unfollowed := true, recurses := true, named := ["posthouse/verdict.hosts"], apart := false, laid := [("posthouse/verdict.hosts", laid_posthouse_verdict_hosts)], narrowed := true }
def VerdictReasonsAddUpUptoSaid : Prop := verdictReasonsAddUpUptoRow.holds Tryd.pinned (OpenSpec.upto verdictReasonsAddUpSpec)

/-- 'posthouselaw5.VerdictSignaturesDoNotHurt', WHERE WHAT IT READS IS OF BULK AT MOST 1048576: true; the input reads as it did. -/
def verdictSignaturesDoNotHurtUptoRow : OpenClaim := { program := "ytmeaagnamlilgaadoor", sum := "367d75e0275a8544281bbcd950eea7e00838fc307c0fd407ad9efb2cec6a96aa", func := "posthouse/posthouselaw5.VerdictSignaturesDoNotHurt", spec := "verdictSignaturesDoNotHurt", unfollowed := true, recurses := true, named := ["posthouse/verdict.hosts"], apart := false, laid := [("posthouse/verdict.hosts", laid_posthouse_verdict_hosts)], narrowed := true }
def VerdictSignaturesDoNotHurtUptoSaid : Prop := verdictSignaturesDoNotHurtUptoRow.holds Tryd.pinned (OpenSpec.upto verdictSignaturesDoNotHurtSpec)

end Rows
end Go.Proofs.YtmeaagnamlilgaaDoor
