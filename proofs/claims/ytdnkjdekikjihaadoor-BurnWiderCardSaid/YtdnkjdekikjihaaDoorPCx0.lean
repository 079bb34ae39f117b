-- written for this claim by a program, over contracts proved by hand
import Derived.Test.YtdnkjdekikjihaaDoorProg
import Derived.Below
import Derived.Deep.Draws
import Derived.Deep.AppendLies
import Derived.Maps.AppendAt
import Derived.OwnWalk
import Derived.Laws.BytesArg
import Derived.Laws.MakeOwn
import Derived.Laws.OwnMore
import Derived.Deep.OwnRows
import Derived.Tactics
import Derived.Lib.ConvBytes
import Derived.Laws.Slices
import Derived.WalkKit
import Derived.KernelRfl
import Derived.RowKit3
import Derived.Deep.LoopGhost
import Derived.Deep.QuietTactic
import Derived.BigQuiet
import Derived.WideLaws
import Derived.Deep.DeepCutAuto
import Derived.Deep.CutBlock
import Derived.Deep.RegionHeld3
import Derived.Laws.Rows
import Derived.Lib.AppendStr
import Derived.ArgAppend
import Derived.Laws.IdiomCopy
import Derived.OrdersHeld
import Derived.Laws.BitsLemmas
import Derived.RowKit
import Derived.Test.YtdnkjdekikjihaaDoorGp
import Derived.Test.YtdnkjdekikjihaaDoorGq
import Derived.Test.YtdnkjdekikjihaaDoorWWords
import Derived.Test.YtdnkjdekikjihaaDoorWLast
import Derived.Test.YtdnkjdekikjihaaDoorWTab
import Derived.Test.YtdnkjdekikjihaaDoorWFour
import Derived.Test.YtdnkjdekikjihaaDoorWQPut
import Derived.Test.YtdnkjdekikjihaaDoorWApart
import Derived.Test.YtdnkjdekikjihaaDoorWArr
import Derived.Test.YtdnkjdekikjihaaDoorWFoot
import Derived.Test.YtdnkjdekikjihaaDoorWKept
import Derived.Test.YtdnkjdekikjihaaDoorWShare
import Derived.Test.YtdnkjdekikjihaaDoorWN
import Derived.Test.YtdnkjdekikjihaaDoorWAt
import Derived.Test.YtdnkjdekikjihaaDoorWEqStruct
import Derived.Test.YtdnkjdekikjihaaDoorWRepsOne
import Derived.Test.YtdnkjdekikjihaaDoorWGuard
import Derived.Test.YtdnkjdekikjihaaDoorWMore
namespace Go.Proofs.YtdnkjdekikjihaaDoor.PC
open Go.Proofs.YtdnkjdekikjihaaDoor.G Go.Proofs.YtdnkjdekikjihaaDoor.PA Go.Proofs.YtdnkjdekikjihaaDoor.PB
open Go.RowKit Go.Proofs.YtdnkjdekikjihaaDoorW.PrintWords Go.Proofs.YtdnkjdekikjihaaDoorW.PrintLast Go.Proofs.YtdnkjdekikjihaaDoorW.PrintMore
attribute [local go_sem] max2_int min2_int max_two min_two max_three min_three max_four min_four   -- for this text's walks alone
set_option linter.unusedVariables false
set_option linter.unusedSimpArgs false



def errW : Option Int → Value
  | none => .nilIface
  | some c => .iface 0 (.int .i64 c)
theorem errW_none : errW none = .nilIface := rfl
theorem errW_some (c : Int) : errW (some c) = .iface 0 (.int .i64 c) := rfl

theorem info3 : (Tryd.prog.info? 3).map (fun i => (i.zero, i.size, i.bytes)) = some (some (.int .i64 0), 1, 8) := by kernel_rfl
-- the values' own types

end Go.Proofs.YtdnkjdekikjihaaDoor.PC
