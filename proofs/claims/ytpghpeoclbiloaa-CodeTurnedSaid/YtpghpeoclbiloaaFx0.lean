-- Written by this session's px.sh, a turned copy of the print, out of the translation. Lean checks it.
import Derived.Test.YtpghpeoclbiloaaProg
import Derived.Below
import Derived.Deep.Draws
import Derived.Deep.AppendLies
import Derived.Maps.AppendAt
import Derived.OwnWalk
import Derived.Laws.BytesArg
import Derived.Laws.MakeOwn
import Derived.Laws.OwnMore
import Derived.Deep.OwnRows
import Derived.Tactics
import Derived.Lib.ConvBytes
import Derived.Laws.Slices
import Derived.WalkKit
import Derived.KernelRfl
import Derived.RowKit3
import Derived.Deep.LoopGhost
import Derived.Deep.QuietTactic
import Derived.BigQuiet
import Derived.WideLaws
import Derived.Deep.DeepCutAuto
import Derived.Deep.CutBlock
import Derived.Deep.RegionHeld3
import Derived.Laws.Rows
import Derived.Lib.AppendStr
import Derived.ArgAppend
import Derived.Laws.IdiomCopy
import Derived.OrdersHeld
import Derived.Laws.BitsLemmas
import Derived.RowKit
import Derived.Test.YtpghpeoclbiloaaWWords
import Derived.Test.YtpghpeoclbiloaaWLast
import Derived.Test.YtpghpeoclbiloaaWTab
import Derived.Test.YtpghpeoclbiloaaWFour
import Derived.Test.YtpghpeoclbiloaaWQPut
import Derived.Test.YtpghpeoclbiloaaWApart
import Derived.Test.YtpghpeoclbiloaaWArr
import Derived.Test.YtpghpeoclbiloaaWZeros
import Derived.Test.YtpghpeoclbiloaaWFoot
import Derived.Test.YtpghpeoclbiloaaWKept
import Derived.Test.YtpghpeoclbiloaaWShare
import Derived.Test.YtpghpeoclbiloaaWN
import Derived.Test.YtpghpeoclbiloaaWFootNe
import Derived.Test.YtpghpeoclbiloaaWAt
import Derived.Test.YtpghpeoclbiloaaWEqStruct
import Derived.Test.YtpghpeoclbiloaaWRepsOne
import Derived.Test.YtpghpeoclbiloaaWInv
import Derived.Test.YtpghpeoclbiloaaWInvWords
import Derived.Test.YtpghpeoclbiloaaWGuard
import Derived.Test.YtpghpeoclbiloaaWNEv
import Derived.Test.YtpghpeoclbiloaaWMore
import Derived.Test.YtpghpeoclbiloaaWMine
namespace Go.Proofs.Ytpghpeoclbiloaa.F
open Go.RowKit Go.Proofs.YtpghpeoclbiloaaW.PrintWords Go.Proofs.YtpghpeoclbiloaaW.PrintLast Go.Proofs.YtpghpeoclbiloaaW.PrintMore
attribute [local go_sem] max2_int min2_int max_two min_two max_three min_three max_four min_four   -- for this text's walks alone
set_option linter.unusedVariables false
set_option linter.unusedSimpArgs false



def errW : Option Int → Value
  | none => .nilIface
  | some c => .iface 0 (.int .i64 c)
theorem errW_none : errW none = .nilIface := rfl
theorem errW_some (c : Int) : errW (some c) = .iface 0 (.int .i64 c) := rfl

theorem info5 : (Try.prog.info? 5).map (fun i => (i.zero, i.size, i.bytes)) = some (some (.int .u8 0), 1, 1) := by kernel_rfl
theorem info44 : (Try.prog.info? 44).map (fun i => (i.zero, i.size, i.bytes)) = some (some (.int .u32 0), 1, 4) := by kernel_rfl
-- the values' own types

end Go.Proofs.Ytpghpeoclbiloaa.F
