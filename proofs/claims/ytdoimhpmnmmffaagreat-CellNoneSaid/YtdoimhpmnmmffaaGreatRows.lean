/-
  No cell of these rows narrows 'for every input' (looked for: loops, veiled, ifaces, maps, wideKeys, modest, calm, conditions, laid).
  DERIVED. THE GIVEN ROWS OF THIS SEAT. 5 by the template 'for every input the law returns true; each argument reads behind the call as it read before'; 0 by the template 'total and deterministic' (their statements: YtdoimhpmnmmffaaGreatTotals.lean).
  GIVEN WITH THE SEED: the statements are not yours to turn. If you find one false, say at which input.
  Laid BY PROGRAM, IN A SANDBOX (cutbox-rows.mjs): the forced cells as the released guide's own fill.sh prints them over the translation 5ef3c69f56e74017… (all of the seat's roots in one cut). By AI agents, Wed Nov 11 2026. No macro, syntax, notation, axiom, sorry.
-/
import Derived.Test.YtdoimhpmnmmffaaGreatChecked
import GoSem.Claim
import GoSem.ClaimJoined
import GoSem.ClaimMapViews
import Derived.JoinedTies
import Derived.KernelRfl
namespace Go.Proofs.YtdoimhpmnmmffaaGreat
/- THE CELL 'sum', in the pinned program and in every row, IS THE sha256 OF THE DUMP (.gsa) THAT YtdoimhpmnmmffaaGreatProg.lean LOADS. Nothing in Lean hashes anything: it is a label: what it is worth is what the hold of that sum in a sandbox is worth. -/
noncomputable def Tryz.pinned : Pinned := { name := "ytdoimhpmnmmffaagreat", sum := "5ef3c69f56e74017b48e9a15dd8ca30265670575c636df5e36422a5e64f5aa38", checked := Tryz.checked }
namespace Rows
def none {H : Type} : Left H := { results := [], args := [] }

/-- 'cloisterlaw21.CellDo': WHATEVER THE INPUT: true; the input reads as it did. -/
def cellDoSpec : ChangeSpec := { name := "cellDo", fn := fun _ => fun
  | [d1, d2] => { results := [.lit (.bool true)], args := [d1, d2] }
  | _ => none }
def cellDoRow : OpenClaim := { program := "ytdoimhpmnmmffaagreat", sum := "5ef3c69f56e74017b48e9a15dd8ca30265670575c636df5e36422a5e64f5aa38", func := "cloister/cloisterlaw21.CellDo", spec := "cellDo", unfollowed := true, recurses := true, apart := false }
def CellDoSaid : Prop := cellDoRow.holds Tryz.pinned (OpenSpec.ofChange cellDoSpec)

/-- ITS FALSE NEIGHBOUR: 'it returns false'. Refute it at one input. -/
def cellDoWrong : ChangeSpec := { name := "cellDo", fn := fun _ => fun
  | [d1, d2] => { results := [.lit (.bool false)], args := [d1, d2] }
  | _ => none }
def CellDoWrongFalsely : Prop := cellDoRow.holds Tryz.pinned (OpenSpec.ofChange cellDoWrong)

/-- 'cloisterlaw21.CellCounts': WHATEVER THE INPUT: true; the input reads as it did. -/
def cellCountsSpec : ChangeSpec := { name := "cellCounts", fn := fun _ => fun
  | [d1, d2] => { results := [.lit (.bool true)], args := [d1, d2] }
  | _ => none }
def cellCountsRow : OpenClaim := { program := "ytdoimhpmnmmffaagreat", sum := "5ef3c69f56e74017b48e9a15dd8ca30265670575c636df5e36422a5e64f5aa38", func := "cloister/cloisterlaw21.CellCounts", spec := "cellCounts", unfollowed := true, recurses := true, apart := false }
def CellCountsSaid : Prop := cellCountsRow.holds Tryz.pinned (OpenSpec.ofChange cellCountsSpec)

/-- ITS FALSE NEIGHBOUR: 'it returns false'. Refute it at one input. -/
def cellCountsWrong : ChangeSpec := { name := "cellCounts", fn := fun _ => fun
  | [d1, d2] => { results := [.lit (.bool false)], args := [d1, d2] }
  | _ => none }
def CellCountsWrongFalsely : Prop := cellCountsRow.holds Tryz.pinned (OpenSpec.ofChange cellCountsWrong)

/-- 'cloisterlaw21.CellNone': WHATEVER THE INPUT: true; the input reads as it did. -/
def cellNoneSpec : ChangeSpec := { name := "cellNone", fn := fun _ => fun
  | [] => { results := [.lit (.bool true)], args := [] }
  | _ => none }
def cellNoneRow : OpenClaim := { program := "ytdoimhpmnmmffaagreat", sum := "5ef3c69f56e74017b48e9a15dd8ca30265670575c636df5e36422a5e64f5aa38", func := "cloister/cloisterlaw21.CellNone", spec := "cellNone", unfollowed := true, recurses := true, apart := false }
def CellNoneSaid : Prop := cellNoneRow.holds Tryz.pinned (OpenSpec.ofChange cellNoneSpec)

/-- ITS FALSE NEIGHBOUR: 'it returns false'. Refute it at one input. -/
def cellNoneWrong : ChangeSpec := { name := "cellNone", fn := fun _ => fun
  | [] => { results := [.lit (.bool false)], args := [] }
  | _ => none }
def CellNoneWrongFalsely : Prop := cellNoneRow.holds Tryz.pinned (OpenSpec.ofChange cellNoneWrong)

/-- 'cloisterlaw21.CellAgain': WHATEVER THE INPUT: true; the input reads as it did. -/
def cellAgainSpec : ChangeSpec := { name := "cellAgain", fn := fun _ => fun
  | [d1, d2] => { results := [.lit (.bool true)], args := [d1, d2] }
  | _ => none }
def cellAgainRow : OpenClaim := { program := "ytdoimhpmnmmffaagreat", sum := "5ef3c69f56e74017b48e9a15dd8ca30265670575c636df5e36422a5e64f5aa38", func := "cloister/cloisterlaw21.CellAgain", spec := "cellAgain", unfollowed := true, recurses := true, apart := false }
def CellAgainSaid : Prop := cellAgainRow.holds Tryz.pinned (OpenSpec.ofChange cellAgainSpec)

/-- ITS FALSE NEIGHBOUR: 'it returns false'. Refute it at one input. -/
def cellAgainWrong : ChangeSpec := { name := "cellAgain", fn := fun _ => fun
  | [d1, d2] => { results := [.lit (.bool false)], args := [d1, d2] }
  | _ => none }
def CellAgainWrongFalsely : Prop := cellAgainRow.holds Tryz.pinned (OpenSpec.ofChange cellAgainWrong)

/-- 'cloisterlaw21.CellStruck': WHATEVER THE INPUT: true; the input reads as it did. -/
def cellStruckSpec : ChangeSpec := { name := "cellStruck", fn := fun _ => fun
  | [d1, d2] => { results := [.lit (.bool true)], args := [d1, d2] }
  | _ => none }
def cellStruckRow : OpenClaim := { program := "ytdoimhpmnmmffaagreat", sum := "5ef3c69f56e74017b48e9a15dd8ca30265670575c636df5e36422a5e64f5aa38", func := "cloister/cloisterlaw21.CellStruck", spec := "cellStruck", unfollowed := true, recurses := true, apart := false }
def CellStruckSaid : Prop := cellStruckRow.holds Tryz.pinned (OpenSpec.ofChange cellStruckSpec)

/-- ITS FALSE NEIGHBOUR: 'it returns false'. Refute it at one input. -/
def cellStruckWrong : ChangeSpec := { name := "cellStruck", fn := fun _ => fun
  | [d1, d2] => { results := [.lit (.bool false)], args := [d1, d2] }
  | _ => none }
def CellStruckWrongFalsely : Prop := cellStruckRow.holds Tryz.pinned (OpenSpec.ofChange cellStruckWrong)

/- THE SECOND FORM. 'bulk': how many values and letters a reading holds, each counted each time it is reached (what is shared counts as often as it is met; a slice's spare places count too). A statement '..UptoSaid' is the law's where the arguments, and the package variables that the reading takes, are together of bulk at most 1048576: NARROWER than '..Said'. Prove '..Said' where nothing that the law and all that it calls make is longer than what came in: it says more and counts as full. Else prove '..UptoSaid'. A law counts once. -/
mutual
def uptoBulk {H : Type} : DataW H → Nat
  | .lit (.string bytes) => bytes.length + 1
  | .lit _ => 1
  | .nil => 1
  | .ptr d => uptoBulk d + 1
  | .slice elems spare => uptoBulkAll elems + uptoBulkAll spare + 1
  | .agg parts => uptoBulkAll parts + 1
  | .iface _ d => uptoBulk d + 1
  | .map entries => uptoBulkEntries entries + 1
  | .held _ => 1
def uptoBulkAll {H : Type} : List (DataW H) → Nat
  | [] => 0
  | d :: r => uptoBulk d + uptoBulkAll r
def uptoBulkEntries {H : Type} : List (Lit × DataW H) → Nat
  | [] => 0
  | x :: r => uptoBulkEntry x + uptoBulkEntries r
def uptoBulkEntry {H : Type} : Lit × DataW H → Nat
  | (.string bytes, d) => bytes.length + uptoBulk d + 1
  | (_, d) => uptoBulk d + 1
 end
def uptoSmall : (H : Type) → List (DataW H) → Bool := fun _ ds => decide (uptoBulkAll ds ≤ 1048576)
def OpenSpec.upto (s : _root_.Go.ChangeSpec) : _root_.Go.OpenSpec := { _root_.Go.OpenSpec.ofChange s with cond := some uptoSmall }

/-- 'cloisterlaw21.CellDo', WHERE WHAT IT READS IS OF BULK AT MOST 1048576: true; the input reads as it did. -/
def cellDoUptoRow : OpenClaim := { program := "ytdoimhpmnmmffaagreat", sum := "5ef3c69f56e74017b48e9a15dd8ca30265670575c636df5e36422a5e64f5aa38", func := "cloister/cloisterlaw21.CellDo", spec := "cellDo", unfollowed := true, recurses := true, apart := false, narrowed := true }
def CellDoUptoSaid : Prop := cellDoUptoRow.holds Tryz.pinned (OpenSpec.upto cellDoSpec)

/-- 'cloisterlaw21.CellCounts', WHERE WHAT IT READS IS OF BULK AT MOST 1048576: true; the input reads as it did. -/
def cellCountsUptoRow : OpenClaim := { program := "ytdoimhpmnmmffaagreat", sum := "5ef3c69f56e74017b48e9a15dd8ca30265670575c636df5e36422a5e64f5aa38", func := "cloister/cloisterlaw21.CellCounts", spec := "cellCounts", unfollowed := true, recurses := true, apart := false, narrowed := true }
def CellCountsUptoSaid : Prop := cellCountsUptoRow.holds Tryz.pinned (OpenSpec.upto cellCountsSpec)

/-- 'cloisterlaw21.CellNone', WHERE WHAT IT READS IS OF BULK AT MOST 1048576: true; the input reads as it did. -/
def cellNoneUptoRow : OpenClaim := { program := "ytdoimhpmnmmffaagreat", sum := "5ef3c69f56e74017b48e9a15dd8ca30265670575c636df5e36422a5e64f5aa38", func := "cloister/cloisterlaw21.CellNone", spec := "cellNone", unfollowed := true, recurses := true, apart := false, narrowed := true }
def CellNoneUptoSaid : Prop := cellNoneUptoRow.holds Tryz.pinned (OpenSpec.upto cellNoneSpec)

/-- 'cloisterlaw21.CellAgain', WHERE WHAT IT READS IS OF BULK AT MOST 1048576: true; the input reads as it did. -/
def cellAgainUptoRow : OpenClaim := { program := "ytdoimhpmnmmffaagreat", sum := "5ef3c69f56e74017b48e9a15dd8ca30265670575c636df5e36422a5e64f5aa38", func := "cloister/cloisterlaw21.CellAgain", spec := "cellAgain", unfollowed := true, recurses := true, apart := false, narrowed := true }
def CellAgainUptoSaid : Prop := cellAgainUptoRow.holds Tryz.pinned (OpenSpec.upto cellAgainSpec)

/-- 'cloisterlaw21.CellStruck', WHERE WHAT IT READS IS OF BULK AT MOST 1048576: true; the input reads as it did. -/
def cellStruckUptoRow : OpenClaim := { program := "ytdoimhpmnmmffaagreat", sum := "5ef3c69f56e74017b48e9a15dd8ca30265670575c636df5e36422a5e64f5aa38", func := "cloister/cloisterlaw21.CellStruck", spec := "cellStruck", unfollowed := true, recurses := true, apart := false, narrowed := true }
def CellStruckUptoSaid : Prop := cellStruckUptoRow.holds Tryz.pinned (OpenSpec.upto cellStruckSpec)

end Rows
end Go.Proofs.YtdoimhpmnmmffaaGreat
