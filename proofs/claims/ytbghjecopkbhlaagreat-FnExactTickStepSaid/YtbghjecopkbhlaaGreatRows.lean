/-
  No cell of these rows narrows 'for every input' (looked for: loops, veiled, ifaces, maps, wideKeys, modest, calm, conditions, laid).
  DERIVED. THE GIVEN ROWS OF THIS SEAT. 10 by the template 'for every input the law returns true; each argument reads behind the call as it read before'; 0 by the template 'total and deterministic' (their statements: YtbghjecopkbhlaaGreatTotals.lean).
  GIVEN WITH THE SEED: the statements are not yours to turn. If you find one false, say at which input.
  Laid BY PROGRAM, IN A SANDBOX (cutbox-rows.mjs): the forced cells as the released guide's own fill.sh prints them over the translation 6d18703442ec8751… (all of the seat's roots in one cut). By AI agents, Wed Nov 11 2026. No macro, syntax, notation, axiom, sorry.
-/
import Derived.Test.YtbghjecopkbhlaaGreatChecked
import GoSem.Claim
import GoSem.ClaimJoined
import GoSem.ClaimMapViews
import Derived.JoinedTies
import Derived.KernelRfl
namespace Go.Proofs.YtbghjecopkbhlaaGreat
/- THE CELL 'sum', in the pinned program and in every row, IS THE sha256 OF THE DUMP (.gsa) THAT YtbghjecopkbhlaaGreatProg.lean LOADS. Nothing in Lean hashes anything: it is a label: what it is worth is what the hold of that sum in a sandbox is worth. -/
noncomputable def Tryz.pinned : Pinned := { name := "ytbghjecopkbhlaagreat", sum := "6d18703442ec8751a9cfdb31760def488fa5e565581f36bf9f27983b5ed7d13b", checked := Tryz.checked }
namespace Rows
def none {H : Type} : Left H := { results := [], args := [] }

/-- 'laws.FnExactSumOf': WHATEVER THE INPUT: true; the input reads as it did. -/
def fnExactSumOfSpec : ChangeSpec := { name := "fnExactSumOf", fn := fun _ => fun
  | [d1, d2, d3] => { results := [.lit (.bool true)], args := [d1, d2, d3] }
  | _ => none }
def fnExactSumOfRow : OpenClaim := { program := "ytbghjecopkbhlaagreat", sum := "6d18703442ec8751a9cfdb31760def488fa5e565581f36bf9f27983b5ed7d13b", func := "loop.example/g00491/laws.FnExactSumOf", spec := "fnExactSumOf", unfollowed := true, recurses := true, apart := false }
def FnExactSumOfSaid : Prop := fnExactSumOfRow.holds Tryz.pinned (OpenSpec.ofChange fnExactSumOfSpec)

/-- ITS FALSE NEIGHBOUR: 'it returns false'. Refute it at one input. -/
def fnExactSumOfWrong : ChangeSpec := { name := "fnExactSumOf", fn := fun _ => fun
  | [d1, d2, d3] => { results := [.lit (.bool false)], args := [d1, d2, d3] }
  | _ => none }
def FnExactSumOfWrongFalsely : Prop := fnExactSumOfRow.holds Tryz.pinned (OpenSpec.ofChange fnExactSumOfWrong)

/-- 'laws.FnExactHeld': WHATEVER THE INPUT: true; the input reads as it did. -/
def fnExactHeldSpec : ChangeSpec := { name := "fnExactHeld", fn := fun _ => fun
  | [d1, d2, d3] => { results := [.lit (.bool true)], args := [d1, d2, d3] }
  | _ => none }
def fnExactHeldRow : OpenClaim := { program := "ytbghjecopkbhlaagreat", sum := "6d18703442ec8751a9cfdb31760def488fa5e565581f36bf9f27983b5ed7d13b", func := "loop.example/g00491/laws.FnExactHeld", spec := "fnExactHeld", unfollowed := true, recurses := true, apart := false }
def FnExactHeldSaid : Prop := fnExactHeldRow.holds Tryz.pinned (OpenSpec.ofChange fnExactHeldSpec)

/-- ITS FALSE NEIGHBOUR: 'it returns false'. Refute it at one input. -/
def fnExactHeldWrong : ChangeSpec := { name := "fnExactHeld", fn := fun _ => fun
  | [d1, d2, d3] => { results := [.lit (.bool false)], args := [d1, d2, d3] }
  | _ => none }
def FnExactHeldWrongFalsely : Prop := fnExactHeldRow.holds Tryz.pinned (OpenSpec.ofChange fnExactHeldWrong)

/-- 'laws.FnExactClose': WHATEVER THE INPUT: true; the input reads as it did. -/
def fnExactCloseSpec : ChangeSpec := { name := "fnExactClose", fn := fun _ => fun
  | [d] => { results := [.lit (.bool true)], args := [d] }
  | _ => none }
def fnExactCloseRow : OpenClaim := { program := "ytbghjecopkbhlaagreat", sum := "6d18703442ec8751a9cfdb31760def488fa5e565581f36bf9f27983b5ed7d13b", func := "loop.example/g00491/laws.FnExactClose", spec := "fnExactClose", unfollowed := true, recurses := true, apart := false }
def FnExactCloseSaid : Prop := fnExactCloseRow.holds Tryz.pinned (OpenSpec.ofChange fnExactCloseSpec)

/-- ITS FALSE NEIGHBOUR: 'it returns false'. Refute it at one input. -/
def fnExactCloseWrong : ChangeSpec := { name := "fnExactClose", fn := fun _ => fun
  | [d] => { results := [.lit (.bool false)], args := [d] }
  | _ => none }
def FnExactCloseWrongFalsely : Prop := fnExactCloseRow.holds Tryz.pinned (OpenSpec.ofChange fnExactCloseWrong)

/-- 'laws.FnExactFlushAll': WHATEVER THE INPUT: true; the input reads as it did. -/
def fnExactFlushAllSpec : ChangeSpec := { name := "fnExactFlushAll", fn := fun _ => fun
  | [d] => { results := [.lit (.bool true)], args := [d] }
  | _ => none }
def fnExactFlushAllRow : OpenClaim := { program := "ytbghjecopkbhlaagreat", sum := "6d18703442ec8751a9cfdb31760def488fa5e565581f36bf9f27983b5ed7d13b", func := "loop.example/g00491/laws.FnExactFlushAll", spec := "fnExactFlushAll", unfollowed := true, recurses := true, apart := false }
def FnExactFlushAllSaid : Prop := fnExactFlushAllRow.holds Tryz.pinned (OpenSpec.ofChange fnExactFlushAllSpec)

/-- ITS FALSE NEIGHBOUR: 'it returns false'. Refute it at one input. -/
def fnExactFlushAllWrong : ChangeSpec := { name := "fnExactFlushAll", fn := fun _ => fun
  | [d] => { results := [.lit (.bool false)], args := [d] }
  | _ => none }
def FnExactFlushAllWrongFalsely : Prop := fnExactFlushAllRow.holds Tryz.pinned (OpenSpec.ofChange fnExactFlushAllWrong)

/-- 'laws.FnExactFlush': WHATEVER THE INPUT: true; the input reads as it did. -/
def fnExactFlushSpec : ChangeSpec := { name := "fnExactFlush", fn := fun _ => fun
  | [d] => { results := [.lit (.bool true)], args := [d] }
  | _ => none }
def fnExactFlushRow : OpenClaim := { program := "ytbghjecopkbhlaagreat", sum := "6d18703442ec8751a9cfdb31760def488fa5e565581f36bf9f27983b5ed7d13b", func := "loop.example/g00491/laws.FnExactFlush", spec := "fnExactFlush", unfollowed := true, recurses := true, apart := false }
def FnExactFlushSaid : Prop := fnExactFlushRow.holds Tryz.pinned (OpenSpec.ofChange fnExactFlushSpec)

/-- ITS FALSE NEIGHBOUR: 'it returns false'. Refute it at one input. -/
def fnExactFlushWrong : ChangeSpec := { name := "fnExactFlush", fn := fun _ => fun
  | [d] => { results := [.lit (.bool false)], args := [d] }
  | _ => none }
def FnExactFlushWrongFalsely : Prop := fnExactFlushRow.holds Tryz.pinned (OpenSpec.ofChange fnExactFlushWrong)

/-- 'laws.FnExactTickStep': WHATEVER THE INPUT: true; the input reads as it did. -/
def fnExactTickStepSpec : ChangeSpec := { name := "fnExactTickStep", fn := fun _ => fun
  | [d] => { results := [.lit (.bool true)], args := [d] }
  | _ => none }
def fnExactTickStepRow : OpenClaim := { program := "ytbghjecopkbhlaagreat", sum := "6d18703442ec8751a9cfdb31760def488fa5e565581f36bf9f27983b5ed7d13b", func := "loop.example/g00491/laws.FnExactTickStep", spec := "fnExactTickStep", unfollowed := true, recurses := true, apart := false }
def FnExactTickStepSaid : Prop := fnExactTickStepRow.holds Tryz.pinned (OpenSpec.ofChange fnExactTickStepSpec)

/-- ITS FALSE NEIGHBOUR: 'it returns false'. Refute it at one input. -/
def fnExactTickStepWrong : ChangeSpec := { name := "fnExactTickStep", fn := fun _ => fun
  | [d] => { results := [.lit (.bool false)], args := [d] }
  | _ => none }
def FnExactTickStepWrongFalsely : Prop := fnExactTickStepRow.holds Tryz.pinned (OpenSpec.ofChange fnExactTickStepWrong)

/-- 'laws.FnExactFold': WHATEVER THE INPUT: true; the input reads as it did. -/
def fnExactFoldSpec : ChangeSpec := { name := "fnExactFold", fn := fun _ => fun
  | [d1, d2, d3] => { results := [.lit (.bool true)], args := [d1, d2, d3] }
  | _ => none }
def fnExactFoldRow : OpenClaim := { program := "ytbghjecopkbhlaagreat", sum := "6d18703442ec8751a9cfdb31760def488fa5e565581f36bf9f27983b5ed7d13b", func := "loop.example/g00491/laws.FnExactFold", spec := "fnExactFold", unfollowed := true, recurses := true, apart := false }
def FnExactFoldSaid : Prop := fnExactFoldRow.holds Tryz.pinned (OpenSpec.ofChange fnExactFoldSpec)

/-- ITS FALSE NEIGHBOUR: 'it returns false'. Refute it at one input. -/
def fnExactFoldWrong : ChangeSpec := { name := "fnExactFold", fn := fun _ => fun
  | [d1, d2, d3] => { results := [.lit (.bool false)], args := [d1, d2, d3] }
  | _ => none }
def FnExactFoldWrongFalsely : Prop := fnExactFoldRow.holds Tryz.pinned (OpenSpec.ofChange fnExactFoldWrong)

/-- 'laws.FnExactMergeAll': WHATEVER THE INPUT: true; the input reads as it did. -/
def fnExactMergeAllSpec : ChangeSpec := { name := "fnExactMergeAll", fn := fun _ => fun
  | [d] => { results := [.lit (.bool true)], args := [d] }
  | _ => none }
def fnExactMergeAllRow : OpenClaim := { program := "ytbghjecopkbhlaagreat", sum := "6d18703442ec8751a9cfdb31760def488fa5e565581f36bf9f27983b5ed7d13b", func := "loop.example/g00491/laws.FnExactMergeAll", spec := "fnExactMergeAll", inPlace := ["slices.overlaps[loop.example/g00491/impl.Entry]"], unfollowed := true, recurses := true, apart := false }
def FnExactMergeAllSaid : Prop := fnExactMergeAllRow.holds Tryz.pinned (OpenSpec.ofChange fnExactMergeAllSpec)

/-- ITS FALSE NEIGHBOUR: 'it returns false'. Refute it at one input. -/
def fnExactMergeAllWrong : ChangeSpec := { name := "fnExactMergeAll", fn := fun _ => fun
  | [d] => { results := [.lit (.bool false)], args := [d] }
  | _ => none }
def FnExactMergeAllWrongFalsely : Prop := fnExactMergeAllRow.holds Tryz.pinned (OpenSpec.ofChange fnExactMergeAllWrong)

/-- 'laws.FnExactDrainStep': WHATEVER THE INPUT: true; the input reads as it did. -/
def fnExactDrainStepSpec : ChangeSpec := { name := "fnExactDrainStep", fn := fun _ => fun
  | [d] => { results := [.lit (.bool true)], args := [d] }
  | _ => none }
def fnExactDrainStepRow : OpenClaim := { program := "ytbghjecopkbhlaagreat", sum := "6d18703442ec8751a9cfdb31760def488fa5e565581f36bf9f27983b5ed7d13b", func := "loop.example/g00491/laws.FnExactDrainStep", spec := "fnExactDrainStep", inPlace := ["slices.overlaps[loop.example/g00491/impl.Entry]"], unfollowed := true, recurses := true, apart := false }
def FnExactDrainStepSaid : Prop := fnExactDrainStepRow.holds Tryz.pinned (OpenSpec.ofChange fnExactDrainStepSpec)

/-- ITS FALSE NEIGHBOUR: 'it returns false'. Refute it at one input. -/
def fnExactDrainStepWrong : ChangeSpec := { name := "fnExactDrainStep", fn := fun _ => fun
  | [d] => { results := [.lit (.bool false)], args := [d] }
  | _ => none }
def FnExactDrainStepWrongFalsely : Prop := fnExactDrainStepRow.holds Tryz.pinned (OpenSpec.ofChange fnExactDrainStepWrong)

/-- 'laws.FnExactDrain': WHATEVER THE INPUT: true; the input reads as it did. -/
def fnExactDrainSpec : ChangeSpec := { name := "fnExactDrain", fn := fun _ => fun
  | [d] => { results := [.lit (.bool true)], args := [d] }
  | _ => none }
def fnExactDrainRow : OpenClaim := { program := "ytbghjecopkbhlaagreat", sum := "6d18703442ec8751a9cfdb31760def488fa5e565581f36bf9f27983b5ed7d13b", func := "loop.example/g00491/laws.FnExactDrain", spec := "fnExactDrain", inPlace := ["slices.overlaps[loop.example/g00491/impl.Entry]"], unfollowed := true, recurses := true, apart := false }
def FnExactDrainSaid : Prop := fnExactDrainRow.holds Tryz.pinned (OpenSpec.ofChange fnExactDrainSpec)

/-- ITS FALSE NEIGHBOUR: 'it returns false'. Refute it at one input. -/
def fnExactDrainWrong : ChangeSpec := { name := "fnExactDrain", fn := fun _ => fun
  | [d] => { results := [.lit (.bool false)], args := [d] }
  | _ => none }
def FnExactDrainWrongFalsely : Prop := fnExactDrainRow.holds Tryz.pinned (OpenSpec.ofChange fnExactDrainWrong)

/- THE SECOND FORM. 'bulk': how many values and letters a reading holds, each counted each time it is reached (what is shared counts as often as it is met; a slice's spare places count too). A statement '..UptoSaid' is the law's where the arguments, and the package variables that the reading takes, are together of bulk at most 1048576: NARROWER than '..Said'. Prove '..Said' where nothing that the law and all that it calls make is longer than what came in: it says more and counts as full. Else prove '..UptoSaid'. A law counts once. -/
mutual
def uptoBulk {H : Type} : DataW H → Nat
  | .lit (.string bytes) => bytes.length + 1
  | .lit _ => 1
  | .nil => 1
  | .ptr d => uptoBulk d + 1
  | .slice elems spare => uptoBulkAll elems + uptoBulkAll spare + 1
  | .agg parts => uptoBulkAll parts + 1
  | .iface _ d => uptoBulk d + 1
  | .map entries => uptoBulkEntries entries + 1
  | .held _ => 1
def uptoBulkAll {H : Type} : List (DataW H) → Nat
  | [] => 0
  | d :: r => uptoBulk d + uptoBulkAll r
def uptoBulkEntries {H : Type} : List (Lit × DataW H) → Nat
  | [] => 0
  | x :: r => uptoBulkEntry x + uptoBulkEntries r
def uptoBulkEntry {H : Type} : Lit × DataW H → Nat
  | (.string bytes, d) => bytes.length + uptoBulk d + 1
  | (_, d) => uptoBulk d + 1
 end
def uptoSmall : (H : Type) → List (DataW H) → Bool := fun _ ds => decide (uptoBulkAll ds ≤ 1048576)
def OpenSpec.upto (s : _root_.Go.ChangeSpec) : _root_.Go.OpenSpec := { _root_.Go.OpenSpec.ofChange s with cond := some uptoSmall }

/-- 'laws.FnExactSumOf', WHERE WHAT IT READS IS OF BULK AT MOST 1048576: true; the input reads as it did. -/
def fnExactSumOfUptoRow : OpenClaim := { program := "ytbghjecopkbhlaagreat", sum := "6d18703442ec8751a9cfdb31760def488fa5e565581f36bf9f27983b5ed7d13b", func := "loop.example/g00491/laws.FnExactSumOf", spec := "fnExactSumOf", unfollowed := true, recurses := true, apart := false, narrowed := true }
def FnExactSumOfUptoSaid : Prop := fnExactSumOfUptoRow.holds Tryz.pinned (OpenSpec.upto fnExactSumOfSpec)

/-- 'laws.FnExactHeld', WHERE WHAT IT READS IS OF BULK AT MOST 1048576: true; the input reads as it did. -/
def fnExactHeldUptoRow : OpenClaim := { program := "ytbghjecopkbhlaagreat", sum := "6d18703442ec8751a9cfdb31760def488fa5e565581f36bf9f27983b5ed7d13b", func := "loop.example/g00491/laws.FnExactHeld", spec := "fnExactHeld", unfollowed := true, recurses := true, apart := false, narrowed := true }
def FnExactHeldUptoSaid : Prop := fnExactHeldUptoRow.holds Tryz.pinned (OpenSpec.upto fnExactHeldSpec)

/-- 'laws.FnExactClose', WHERE WHAT IT READS IS OF BULK AT MOST 1048576: true; the input reads as it did. -/
def fnExactCloseUptoRow : OpenClaim := { program := "ytbghjecopkbhlaagreat", sum := "6d18703442ec8751a9cfdb31760def488fa5e565581f36bf9f27983b5ed7d13b", func := "loop.example/g00491/laws.FnExactClose", spec := "fnExactClose", unfollowed := true, recurses := true, apart := false, narrowed := true }
def FnExactCloseUptoSaid : Prop := fnExactCloseUptoRow.holds Tryz.pinned (OpenSpec.upto fnExactCloseSpec)

/-- 'laws.FnExactFlushAll', WHERE WHAT IT READS IS OF BULK AT MOST 1048576: true; the input reads as it did. -/
def fnExactFlushAllUptoRow : OpenClaim := { program := "ytbghjecopkbhlaagreat", sum := "6d18703442ec8751a9cfdb31760def488fa5e565581f36bf9f27983b5ed7d13b", func := "loop.example/g00491/laws.FnExactFlushAll", spec := "fnExactFlushAll", unfollowed := true, recurses := true, apart := false, narrowed := true }
def FnExactFlushAllUptoSaid : Prop := fnExactFlushAllUptoRow.holds Tryz.pinned (OpenSpec.upto fnExactFlushAllSpec)

/-- 'laws.FnExactFlush', WHERE WHAT IT READS IS OF BULK AT MOST 1048576: true; the input reads as it did. -/
def fnExactFlushUptoRow : OpenClaim := { program := "ytbghjecopkbhlaagreat", sum := "6d18703442ec8751a9cfdb31760def488fa5e565581f36bf9f27983b5ed7d13b", func := "loop.example/g00491/laws.FnExactFlush", spec := "fnExactFlush", unfollowed := true, recurses := true, apart := false, narrowed := true }
def FnExactFlushUptoSaid : Prop := fnExactFlushUptoRow.holds Tryz.pinned (OpenSpec.upto fnExactFlushSpec)

/-- 'laws.FnExactTickStep', WHERE WHAT IT READS IS OF BULK AT MOST 1048576: true; the input reads as it did. -/
def fnExactTickStepUptoRow : OpenClaim := { program := "ytbghjecopkbhlaagreat", sum := "6d18703442ec8751a9cfdb31760def488fa5e565581f36bf9f27983b5ed7d13b", func := "loop.example/g00491/laws.FnExactTickStep", spec := "fnExactTickStep", unfollowed := true, recurses := true, apart := false, narrowed := true }
def FnExactTickStepUptoSaid : Prop := fnExactTickStepUptoRow.holds Tryz.pinned (OpenSpec.upto fnExactTickStepSpec)

/-- 'laws.FnExactFold', WHERE WHAT IT READS IS OF BULK AT MOST 1048576: true; the input reads as it did. -/
def fnExactFoldUptoRow : OpenClaim := { program := "ytbghjecopkbhlaagreat", sum := "6d18703442ec8751a9cfdb31760def488fa5e565581f36bf9f27983b5ed7d13b", func := "loop.example/g00491/laws.FnExactFold", spec := "fnExactFold", unfollowed := true, recurses := true, apart := false, narrowed := true }
def FnExactFoldUptoSaid : Prop := fnExactFoldUptoRow.holds Tryz.pinned (OpenSpec.upto fnExactFoldSpec)

/-- 'laws.FnExactMergeAll', WHERE WHAT IT READS IS OF BULK AT MOST 1048576: true; the input reads as it did. -/
def fnExactMergeAllUptoRow : OpenClaim := { program := "ytbghjecopkbhlaagreat", sum := "6d18703442ec8751a9cfdb31760def488fa5e565581f36bf9f27983b5ed7d13b", func := "loop.example/g00491/laws.FnExactMergeAll", spec := "fnExactMergeAll", inPlace := ["slices.overlaps[loop.example/g00491/impl.Entry]"], unfollowed := true, recurses := true, apart := false, narrowed := true }
def FnExactMergeAllUptoSaid : Prop := fnExactMergeAllUptoRow.holds Tryz.pinned (OpenSpec.upto fnExactMergeAllSpec)

/-- 'laws.FnExactDrainStep', WHERE WHAT IT READS IS OF BULK AT MOST 1048576: true; the input reads as it did. -/
def fnExactDrainStepUptoRow : OpenClaim := { program := "ytbghjecopkbhlaagreat", sum := "6d18703442ec8751a9cfdb31760def488fa5e565581f36bf9f27983b5ed7d13b", func := "loop.example/g00491/laws.FnExactDrainStep", spec := "fnExactDrainStep", inPlace := ["slices.overlaps[loop.example/g00491/impl.Entry]"], unfollowed := true, recurses := true, apart := false, narrowed := true }
def FnExactDrainStepUptoSaid : Prop := fnExactDrainStepUptoRow.holds Tryz.pinned (OpenSpec.upto fnExactDrainStepSpec)

/-- 'laws.FnExactDrain', WHERE WHAT IT READS IS OF BULK AT MOST 1048576: true; the input reads as it did. -/
def fnExactDrainUptoRow : OpenClaim := { program := "ytbghjecopkbhlaagreat", sum := "6d18703442ec8751a9cfdb31760def488fa5e565581f36bf9f27983b5ed7d13b", func := "loop.example/g00491/laws.FnExactDrain", spec := "fnExactDrain", inPlace := ["slices.overlaps[loop.example/g00491/impl.Entry]"], unfollowed := true, recurses := true, apart := false, narrowed := true }
def FnExactDrainUptoSaid : Prop := fnExactDrainUptoRow.holds Tryz.pinned (OpenSpec.upto fnExactDrainSpec)

end Rows
end Go.Proofs.YtbghjecopkbhlaaGreat
