/- Hosts: the laws of Parse, Print and Check for what comes in from a row. No condition. -/
import Derived.Test.YtacpahgoomdfaaaDoorH19
import Derived.Test.YtacpahgoomdfaaaDoorH20
set_option linter.unusedVariables false
set_option linter.unusedSimpArgs false
namespace Go.DL
open Go.Proofs Go.RowKit

theorem c_law4r (l : PlsB) (dom host : ByteArray) (hd : dom.size ≤ maxLen) (hh : host.size ≤ maxLen) : CallV tab 4 [pls false l.l, .str dom, .str host] (· = .bool true) :=
  c_law4 false l.l dom host l.b (Nat.le_trans hd maxLen_le) (Nat.le_trans hh maxLen_le)
theorem c_law7r (p : PlB) : CallV tab 7 [.agg p.p.row] (· = .bool true) := c_law7 p.p p.b
end Go.DL
