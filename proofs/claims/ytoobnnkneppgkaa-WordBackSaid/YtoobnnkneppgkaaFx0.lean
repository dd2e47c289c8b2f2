-- Written by this session's px.sh, a turned copy of the print, out of the translation. Lean checks it.
import Derived.Test.YtoobnnkneppgkaaProg
import Derived.Shelf.Spec.BitsCarry
import Derived.Deep.RegionHeld3
import Derived.Laws.BytesArg
import Derived.LoopTactic
import Derived.Below
import Derived.Deep.Draws
import Derived.Deep.AppendLies
import Derived.Maps.AppendAt
import Derived.OwnWalk
import Derived.Laws.BytesArg
import Derived.Laws.MakeOwn
import Derived.Laws.OwnMore
import Derived.Deep.OwnRows
import Derived.Tactics
import Derived.Lib.ConvBytes
import Derived.Laws.Slices
import Derived.WalkKit
import Derived.KernelRfl
import Derived.RowKit3
import Derived.Deep.LoopGhost
import Derived.Deep.QuietTactic
import Derived.BigQuiet
import Derived.WideLaws
import Derived.Deep.DeepCutAuto
import Derived.Deep.CutBlock
import Derived.Deep.RegionHeld3
import Derived.Laws.Rows
import Derived.Lib.AppendStr
import Derived.ArgAppend
import Derived.Laws.IdiomCopy
import Derived.OrdersHeld
import Derived.Laws.BitsLemmas
import Derived.RowKit
import Derived.Test.YtoobnnkneppgkaaWWords
import Derived.Test.YtoobnnkneppgkaaWLast
import Derived.Test.YtoobnnkneppgkaaWTab
import Derived.Test.YtoobnnkneppgkaaWFour
import Derived.Test.YtoobnnkneppgkaaWQPut
import Derived.Test.YtoobnnkneppgkaaWApart
import Derived.Test.YtoobnnkneppgkaaWArr
import Derived.Test.YtoobnnkneppgkaaWZeros
import Derived.Test.YtoobnnkneppgkaaWFoot
import Derived.Test.YtoobnnkneppgkaaWKept
import Derived.Test.YtoobnnkneppgkaaWShare
import Derived.Test.YtoobnnkneppgkaaWN
import Derived.Test.YtoobnnkneppgkaaWFootNe
import Derived.Test.YtoobnnkneppgkaaWAt
import Derived.Test.YtoobnnkneppgkaaWEqStruct
import Derived.Test.YtoobnnkneppgkaaWRepsOne
import Derived.Test.YtoobnnkneppgkaaWInv
import Derived.Test.YtoobnnkneppgkaaWInvWords
import Derived.Test.YtoobnnkneppgkaaWGuard
import Derived.Test.YtoobnnkneppgkaaWNEv
import Derived.Test.YtoobnnkneppgkaaWMore
import Derived.Test.YtoobnnkneppgkaaWMine
namespace Go.Proofs.Ytoobnnkneppgkaa.F
open Go.RowKit Go.Proofs.YtoobnnkneppgkaaW.PrintWords Go.Proofs.YtoobnnkneppgkaaW.PrintLast Go.Proofs.YtoobnnkneppgkaaW.PrintMore
attribute [local go_sem] max2_int min2_int max_two min_two max_three min_three max_four min_four   -- for this text's walks alone
set_option linter.unusedVariables false
set_option linter.unusedSimpArgs false



def errW : Option Int → Value
  | none => .nilIface
  | some c => .iface 0 (.int .i64 c)
theorem errW_none : errW none = .nilIface := rfl
theorem errW_some (c : Int) : errW (some c) = .iface 0 (.int .i64 c) := rfl

theorem info5 : (Try.prog.info? 5).map (fun i => (i.zero, i.size, i.bytes)) = some (some (.int .u8 0), 1, 1) := by kernel_rfl
-- the values' own types

end Go.Proofs.Ytoobnnkneppgkaa.F
