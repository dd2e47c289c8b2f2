/-
  No cell of these rows narrows 'for every input' (looked for: loops, veiled, ifaces, maps, wideKeys, modest, calm, conditions, laid).
  DERIVED. THE GIVEN ROWS OF THIS SEAT. 7 by the template 'for every input the law returns true; each argument reads behind the call as it read before'; 0 by the template 'total and deterministic' (their statements: YtkblieonpncacaaTotals.lean).
  GIVEN WITH THE SEED: the statements are not yours to turn. If you find one false, say at which input.
  Laid BY PROGRAM, IN A SANDBOX (cutbox-rows.mjs): the forced cells as the released guide's own fill.sh prints them over the translation eff19e9d108fedec… (all of the seat's roots in one cut). By AI agents, Wed Nov 11 2026. No macro, syntax, notation, axiom, sorry.
-/
import Derived.Test.YtkblieonpncacaaChecked
import GoSem.Claim
import GoSem.ClaimJoined
import GoSem.ClaimMapViews
import Derived.JoinedTies
import Derived.KernelRfl
namespace Go.Proofs.Ytkblieonpncacaa
/- THE CELL 'sum', in the pinned program and in every row, IS THE sha256 OF THE DUMP (.gsa) THAT YtkblieonpncacaaProg.lean LOADS. Nothing in Lean hashes anything: it is a label: what it is worth is what the hold of that sum in a sandbox is worth. -/
noncomputable def Try.pinned : Pinned := { name := "ytkblieonpncacaa", sum := "eff19e9d108fedecafc6995f4e43a23238f4f9b18a19cdd9ede2692b0c54ae68", checked := Try.checked }
namespace Rows
def none {H : Type} : Left H := { results := [], args := [] }

/-- 'turnpikelaw17.ImagePacks': WHATEVER THE INPUT: true; the input reads as it did. -/
def imagePacksSpec : ChangeSpec := { name := "imagePacks", fn := fun _ => fun
  | [d1, d2] => { results := [.lit (.bool true)], args := [d1, d2] }
  | _ => none }
def imagePacksRow : OpenClaim := { program := "ytkblieonpncacaa", sum := "eff19e9d108fedecafc6995f4e43a23238f4f9b18a19cdd9ede2692b0c54ae68", func := "turnpike/turnpikelaw17.ImagePacks", spec := "imagePacks", apart := false }
def ImagePacksSaid : Prop := imagePacksRow.holds Try.pinned (OpenSpec.ofChange imagePacksSpec)

/-- ITS FALSE NEIGHBOUR: 'it returns false'. Refute it at one input. -/
def imagePacksWrong : ChangeSpec := { name := "imagePacks", fn := fun _ => fun
  | [d1, d2] => { results := [.lit (.bool false)], args := [d1, d2] }
  | _ => none }
def ImagePacksWrongFalsely : Prop := imagePacksRow.holds Try.pinned (OpenSpec.ofChange imagePacksWrong)

/-- 'turnpikelaw17.ImageOpens': WHATEVER THE INPUT: true; the input reads as it did. -/
def imageOpensSpec : ChangeSpec := { name := "imageOpens", fn := fun _ => fun
  | [d1, d2] => { results := [.lit (.bool true)], args := [d1, d2] }
  | _ => none }
def imageOpensRow : OpenClaim := { program := "ytkblieonpncacaa", sum := "eff19e9d108fedecafc6995f4e43a23238f4f9b18a19cdd9ede2692b0c54ae68", func := "turnpike/turnpikelaw17.ImageOpens", spec := "imageOpens", apart := false }
def ImageOpensSaid : Prop := imageOpensRow.holds Try.pinned (OpenSpec.ofChange imageOpensSpec)

/-- ITS FALSE NEIGHBOUR: 'it returns false'. Refute it at one input. -/
def imageOpensWrong : ChangeSpec := { name := "imageOpens", fn := fun _ => fun
  | [d1, d2] => { results := [.lit (.bool false)], args := [d1, d2] }
  | _ => none }
def ImageOpensWrongFalsely : Prop := imageOpensRow.holds Try.pinned (OpenSpec.ofChange imageOpensWrong)

/-- 'turnpikelaw17.ImageTurned': WHATEVER THE INPUT: true; the input reads as it did. -/
def imageTurnedSpec : ChangeSpec := { name := "imageTurned", fn := fun _ => fun
  | [d1, d2, d3, d4, d5] => { results := [.lit (.bool true)], args := [d1, d2, d3, d4, d5] }
  | _ => none }
def imageTurnedRow : OpenClaim := { program := "ytkblieonpncacaa", sum := "eff19e9d108fedecafc6995f4e43a23238f4f9b18a19cdd9ede2692b0c54ae68", func := "turnpike/turnpikelaw17.ImageTurned", spec := "imageTurned", apart := false }
def ImageTurnedSaid : Prop := imageTurnedRow.holds Try.pinned (OpenSpec.ofChange imageTurnedSpec)

/-- ITS FALSE NEIGHBOUR: 'it returns false'. Refute it at one input. -/
def imageTurnedWrong : ChangeSpec := { name := "imageTurned", fn := fun _ => fun
  | [d1, d2, d3, d4, d5] => { results := [.lit (.bool false)], args := [d1, d2, d3, d4, d5] }
  | _ => none }
def ImageTurnedWrongFalsely : Prop := imageTurnedRow.holds Try.pinned (OpenSpec.ofChange imageTurnedWrong)

/-- 'turnpikelaw17.ImageAgain': WHATEVER THE INPUT: true; the input reads as it did. -/
def imageAgainSpec : ChangeSpec := { name := "imageAgain", fn := fun _ => fun
  | [d1, d2] => { results := [.lit (.bool true)], args := [d1, d2] }
  | _ => none }
def imageAgainRow : OpenClaim := { program := "ytkblieonpncacaa", sum := "eff19e9d108fedecafc6995f4e43a23238f4f9b18a19cdd9ede2692b0c54ae68", func := "turnpike/turnpikelaw17.ImageAgain", spec := "imageAgain", apart := false }
def ImageAgainSaid : Prop := imageAgainRow.holds Try.pinned (OpenSpec.ofChange imageAgainSpec)

/-- ITS FALSE NEIGHBOUR: 'it returns false'. Refute it at one input. -/
def imageAgainWrong : ChangeSpec := { name := "imageAgain", fn := fun _ => fun
  | [d1, d2] => { results := [.lit (.bool false)], args := [d1, d2] }
  | _ => none }
def ImageAgainWrongFalsely : Prop := imageAgainRow.holds Try.pinned (OpenSpec.ofChange imageAgainWrong)

/-- 'turnpikelaw17.ImageOwn': WHATEVER THE INPUT: true; the input reads as it did. -/
def imageOwnSpec : ChangeSpec := { name := "imageOwn", fn := fun _ => fun
  | [d] => { results := [.lit (.bool true)], args := [d] }
  | _ => none }
def imageOwnRow : OpenClaim := { program := "ytkblieonpncacaa", sum := "eff19e9d108fedecafc6995f4e43a23238f4f9b18a19cdd9ede2692b0c54ae68", func := "turnpike/turnpikelaw17.ImageOwn", spec := "imageOwn", apart := false }
def ImageOwnSaid : Prop := imageOwnRow.holds Try.pinned (OpenSpec.ofChange imageOwnSpec)

/-- ITS FALSE NEIGHBOUR: 'it returns false'. Refute it at one input. -/
def imageOwnWrong : ChangeSpec := { name := "imageOwn", fn := fun _ => fun
  | [d] => { results := [.lit (.bool false)], args := [d] }
  | _ => none }
def ImageOwnWrongFalsely : Prop := imageOwnRow.holds Try.pinned (OpenSpec.ofChange imageOwnWrong)

/-- 'turnpikelaw17.ImageFinds': WHATEVER THE INPUT: true; the input reads as it did. -/
def imageFindsSpec : ChangeSpec := { name := "imageFinds", fn := fun _ => fun
  | [d] => { results := [.lit (.bool true)], args := [d] }
  | _ => none }
def imageFindsRow : OpenClaim := { program := "ytkblieonpncacaa", sum := "eff19e9d108fedecafc6995f4e43a23238f4f9b18a19cdd9ede2692b0c54ae68", func := "turnpike/turnpikelaw17.ImageFinds", spec := "imageFinds", inPlace := ["internal/bytealg.IndexByte", "internal/bytealg.Index"], named := ["internal/bytealg.MaxLen"], apart := false }
def ImageFindsSaid : Prop := imageFindsRow.holds Try.pinned (OpenSpec.ofChange imageFindsSpec)

/-- ITS FALSE NEIGHBOUR: 'it returns false'. Refute it at one input. -/
def imageFindsWrong : ChangeSpec := { name := "imageFinds", fn := fun _ => fun
  | [d] => { results := [.lit (.bool false)], args := [d] }
  | _ => none }
def ImageFindsWrongFalsely : Prop := imageFindsRow.holds Try.pinned (OpenSpec.ofChange imageFindsWrong)

/-- 'turnpikelaw17.ImageBack': WHATEVER THE INPUT: true; the input reads as it did. -/
def imageBackSpec : ChangeSpec := { name := "imageBack", fn := fun _ => fun
  | [d1, d2, d3, d4, d5] => { results := [.lit (.bool true)], args := [d1, d2, d3, d4, d5] }
  | _ => none }
def imageBackRow : OpenClaim := { program := "ytkblieonpncacaa", sum := "eff19e9d108fedecafc6995f4e43a23238f4f9b18a19cdd9ede2692b0c54ae68", func := "turnpike/turnpikelaw17.ImageBack", spec := "imageBack", inPlace := ["internal/bytealg.IndexByte", "internal/bytealg.Index"], named := ["internal/bytealg.MaxLen"], apart := false }
def ImageBackSaid : Prop := imageBackRow.holds Try.pinned (OpenSpec.ofChange imageBackSpec)

/-- ITS FALSE NEIGHBOUR: 'it returns false'. Refute it at one input. -/
def imageBackWrong : ChangeSpec := { name := "imageBack", fn := fun _ => fun
  | [d1, d2, d3, d4, d5] => { results := [.lit (.bool false)], args := [d1, d2, d3, d4, d5] }
  | _ => none }
def ImageBackWrongFalsely : Prop := imageBackRow.holds Try.pinned (OpenSpec.ofChange imageBackWrong)

/- THE SECOND FORM. 'bulk': how many values and letters a reading holds, each counted each time it is reached (what is shared counts as often as it is met; a slice's spare places count too). A statement '..UptoSaid' is the law's where the arguments, and the package variables that the reading takes, are together of bulk at most 1048576: NARROWER than '..Said'. Prove '..Said' where nothing that the law and all that it calls make is longer than what came in: it says more and counts as full. Else prove '..UptoSaid'. A law counts once. -/
mutual
def uptoBulk {H : Type} : DataW H → Nat
  | .lit (.string bytes) => bytes.length + 1
  | .lit _ => 1
  | .nil => 1
  | .ptr d => uptoBulk d + 1
  | .slice elems spare => uptoBulkAll elems + uptoBulkAll spare + 1
  | .agg parts => uptoBulkAll parts + 1
  | .iface _ d => uptoBulk d + 1
  | .map entries => uptoBulkEntries entries + 1
  | .held _ => 1
def uptoBulkAll {H : Type} : List (DataW H) → Nat
  | [] => 0
  | d :: r => uptoBulk d + uptoBulkAll r
def uptoBulkEntries {H : Type} : List (Lit × DataW H) → Nat
  | [] => 0
  | x :: r => uptoBulkEntry x + uptoBulkEntries r
def uptoBulkEntry {H : Type} : Lit × DataW H → Nat
  | (.string bytes, d) => bytes.length + uptoBulk d + 1
  | (_, d) => uptoBulk d + 1
 end
def uptoSmall : (H : Type) → List (DataW H) → Bool := fun _ ds => decide (uptoBulkAll ds ≤ 1048576)
def OpenSpec.upto (s : _root_.Go.ChangeSpec) : _root_.Go.OpenSpec := { _root_.Go.OpenSpec.ofChange s with cond := some uptoSmall }

/-- 'turnpikelaw17.ImagePacks', WHERE WHAT IT READS IS OF BULK AT MOST 1048576: true; the input reads as it did. -/
def imagePacksUptoRow : OpenClaim := { program := "ytkblieonpncacaa", sum := "eff19e9d108fedecafc6995f4e43a23238f4f9b18a19cdd9ede2692b0c54ae68", func := "turnpike/turnpikelaw17.ImagePacks", spec := "imagePacks", apart := false, narrowed := true }
def ImagePacksUptoSaid : Prop := imagePacksUptoRow.holds Try.pinned (OpenSpec.upto imagePacksSpec)

/-- 'turnpikelaw17.ImageOpens', WHERE WHAT IT READS IS OF BULK AT MOST 1048576: true; the input reads as it did. -/
def imageOpensUptoRow : OpenClaim := { program := "ytkblieonpncacaa", sum := "eff19e9d108fedecafc6995f4e43a23238f4f9b18a19cdd9ede2692b0c54ae68", func := "turnpike/turnpikelaw17.ImageOpens", spec := "imageOpens", apart := false, narrowed := true }
def ImageOpensUptoSaid : Prop := imageOpensUptoRow.holds Try.pinned (OpenSpec.upto imageOpensSpec)

/-- 'turnpikelaw17.ImageTurned', WHERE WHAT IT READS IS OF BULK AT MOST 1048576: true; the input reads as it did. -/
def imageTurnedUptoRow : OpenClaim := { program := "ytkblieonpncacaa", sum := "eff19e9d108fedecafc6995f4e43a23238f4f9b18a19cdd9ede2692b0c54ae68", func := "turnpike/turnpikelaw17.ImageTurned", spec := "imageTurned", apart := false, narrowed := true }
def ImageTurnedUptoSaid : Prop := imageTurnedUptoRow.holds Try.pinned (OpenSpec.upto imageTurnedSpec)

/-- 'turnpikelaw17.ImageAgain', WHERE WHAT IT READS IS OF BULK AT MOST 1048576: true; the input reads as it did. -/
def imageAgainUptoRow : OpenClaim := { program := "ytkblieonpncacaa", sum := "eff19e9d108fedecafc6995f4e43a23238f4f9b18a19cdd9ede2692b0c54ae68", func := "turnpike/turnpikelaw17.ImageAgain", spec := "imageAgain", apart := false, narrowed := true }
def ImageAgainUptoSaid : Prop := imageAgainUptoRow.holds Try.pinned (OpenSpec.upto imageAgainSpec)

/-- 'turnpikelaw17.ImageOwn', WHERE WHAT IT READS IS OF BULK AT MOST 1048576: true; the input reads as it did. -/
def imageOwnUptoRow : OpenClaim := { program := "ytkblieonpncacaa", sum := "eff19e9d108fedecafc6995f4e43a23238f4f9b18a19cdd9ede2692b0c54ae68", func := "turnpike/turnpikelaw17.ImageOwn", spec := "imageOwn", apart := false, narrowed := true }
def ImageOwnUptoSaid : Prop := imageOwnUptoRow.holds Try.pinned (OpenSpec.upto imageOwnSpec)

/-- 'turnpikelaw17.ImageFinds', WHERE WHAT IT READS IS OF BULK AT MOST 1048576: true; the input reads as it did. -/
def imageFindsUptoRow : OpenClaim := { program := "ytkblieonpncacaa", sum := "eff19e9d108fedecafc6995f4e43a23238f4f9b18a19cdd9ede2692b0c54ae68", func := "turnpike/turnpikelaw17.ImageFinds", spec := "imageFinds", inPlace := ["internal/bytealg.IndexByte", "internal/bytealg.Index"], named := ["internal/bytealg.MaxLen"], apart := false, narrowed := true }
def ImageFindsUptoSaid : Prop := imageFindsUptoRow.holds Try.pinned (OpenSpec.upto imageFindsSpec)

/-- 'turnpikelaw17.ImageBack', WHERE WHAT IT READS IS OF BULK AT MOST 1048576: true; the input reads as it did. -/
def imageBackUptoRow : OpenClaim := { program := "ytkblieonpncacaa", sum := "eff19e9d108fedecafc6995f4e43a23238f4f9b18a19cdd9ede2692b0c54ae68", func := "turnpike/turnpikelaw17.ImageBack", spec := "imageBack", inPlace := ["internal/bytealg.IndexByte", "internal/bytealg.Index"], named := ["internal/bytealg.MaxLen"], apart := false, narrowed := true }
def ImageBackUptoSaid : Prop := imageBackUptoRow.holds Try.pinned (OpenSpec.upto imageBackSpec)

end Rows
end Go.Proofs.Ytkblieonpncacaa
