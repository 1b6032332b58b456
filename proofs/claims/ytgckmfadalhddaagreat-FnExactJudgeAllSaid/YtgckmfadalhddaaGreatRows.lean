/-
  No cell of these rows narrows 'for every input' (looked for: loops, veiled, ifaces, maps, wideKeys, modest, calm, conditions, laid).
  DERIVED. THE GIVEN ROWS OF THIS SEAT. 11 by the template 'for every input the law returns true; each argument reads behind the call as it read before'; 0 by the template 'total and deterministic' (their statements: YtgckmfadalhddaaGreatTotals.lean).
  GIVEN WITH THE SEED: the statements are not yours to turn. If you find one false, say at which input.
  Laid BY PROGRAM, IN A SANDBOX (cutbox-rows.mjs): the forced cells as the released guide's own fill.sh prints them over the translation b63ba64dd0e081fd… (all of the seat's roots in one cut). By AI agents, Wed Nov 11 2026. No macro, syntax, notation, axiom, sorry.
-/
import Derived.Test.YtgckmfadalhddaaGreatChecked
import GoSem.Claim
import GoSem.ClaimJoined
import GoSem.ClaimMapViews
import Derived.JoinedTies
import Derived.KernelRfl
namespace Go.Proofs.YtgckmfadalhddaaGreat
/- THE CELL 'sum', in the pinned program and in every row, IS THE sha256 OF THE DUMP (.gsa) THAT YtgckmfadalhddaaGreatProg.lean LOADS. Nothing in Lean hashes anything: it is a label: what it is worth is what the hold of that sum in a sandbox is worth. -/
noncomputable def Tryz.pinned : Pinned := { name := "ytgckmfadalhddaagreat", sum := "b63ba64dd0e081fd667aa9570b1c4dc5f4557b5bae763dc74fea6e333992bb4a", checked := Tryz.checked }
namespace Rows
def none {H : Type} : Left H := { results := [], args := [] }

/-- 'laws.FnExactWorldOk': WHATEVER THE INPUT: true; the input reads as it did. -/
def fnExactWorldOkSpec : ChangeSpec := { name := "fnExactWorldOk", fn := fun _ => fun
  | [d] => { results := [.lit (.bool true)], args := [d] }
  | _ => none }
def fnExactWorldOkRow : OpenClaim := { program := "ytgckmfadalhddaagreat", sum := "b63ba64dd0e081fd667aa9570b1c4dc5f4557b5bae763dc74fea6e333992bb4a", func := "loop.example/g00491/laws.FnExactWorldOk", spec := "fnExactWorldOk", unfollowed := true, recurses := true, apart := false }
def FnExactWorldOkSaid : Prop := fnExactWorldOkRow.holds Tryz.pinned (OpenSpec.ofChange fnExactWorldOkSpec)

/-- ITS FALSE NEIGHBOUR: 'it returns false'. Refute it at one input. -/
def fnExactWorldOkWrong : ChangeSpec := { name := "fnExactWorldOk", fn := fun _ => fun
  | [d] => { results := [.lit (.bool false)], args := [d] }
  | _ => none }
def FnExactWorldOkWrongFalsely : Prop := fnExactWorldOkRow.holds Tryz.pinned (OpenSpec.ofChange fnExactWorldOkWrong)

/-- 'laws.FnExactKnown': WHATEVER THE INPUT: true; the input reads as it did. -/
def fnExactKnownSpec : ChangeSpec := { name := "fnExactKnown", fn := fun _ => fun
  | [d] => { results := [.lit (.bool true)], args := [d] }
  | _ => none }
def fnExactKnownRow : OpenClaim := { program := "ytgckmfadalhddaagreat", sum := "b63ba64dd0e081fd667aa9570b1c4dc5f4557b5bae763dc74fea6e333992bb4a", func := "loop.example/g00491/laws.FnExactKnown", spec := "fnExactKnown", unfollowed := true, recurses := true, apart := false }
def FnExactKnownSaid : Prop := fnExactKnownRow.holds Tryz.pinned (OpenSpec.ofChange fnExactKnownSpec)

/-- ITS FALSE NEIGHBOUR: 'it returns false'. Refute it at one input. -/
def fnExactKnownWrong : ChangeSpec := { name := "fnExactKnown", fn := fun _ => fun
  | [d] => { results := [.lit (.bool false)], args := [d] }
  | _ => none }
def FnExactKnownWrongFalsely : Prop := fnExactKnownRow.holds Tryz.pinned (OpenSpec.ofChange fnExactKnownWrong)

/-- 'laws.FnExactSealed': WHATEVER THE INPUT: true; the input reads as it did. -/
def fnExactSealedSpec : ChangeSpec := { name := "fnExactSealed", fn := fun _ => fun
  | [d] => { results := [.lit (.bool true)], args := [d] }
  | _ => none }
def fnExactSealedRow : OpenClaim := { program := "ytgckmfadalhddaagreat", sum := "b63ba64dd0e081fd667aa9570b1c4dc5f4557b5bae763dc74fea6e333992bb4a", func := "loop.example/g00491/laws.FnExactSealed", spec := "fnExactSealed", unfollowed := true, recurses := true, apart := false }
def FnExactSealedSaid : Prop := fnExactSealedRow.holds Tryz.pinned (OpenSpec.ofChange fnExactSealedSpec)

/-- ITS FALSE NEIGHBOUR: 'it returns false'. Refute it at one input. -/
def fnExactSealedWrong : ChangeSpec := { name := "fnExactSealed", fn := fun _ => fun
  | [d] => { results := [.lit (.bool false)], args := [d] }
  | _ => none }
def FnExactSealedWrongFalsely : Prop := fnExactSealedRow.holds Tryz.pinned (OpenSpec.ofChange fnExactSealedWrong)

/-- 'laws.FnExactTakenAll': WHATEVER THE INPUT: true; the input reads as it did. -/
def fnExactTakenAllSpec : ChangeSpec := { name := "fnExactTakenAll", fn := fun _ => fun
  | [d] => { results := [.lit (.bool true)], args := [d] }
  | _ => none }
def fnExactTakenAllRow : OpenClaim := { program := "ytgckmfadalhddaagreat", sum := "b63ba64dd0e081fd667aa9570b1c4dc5f4557b5bae763dc74fea6e333992bb4a", func := "loop.example/g00491/laws.FnExactTakenAll", spec := "fnExactTakenAll", unfollowed := true, recurses := true, apart := false }
def FnExactTakenAllSaid : Prop := fnExactTakenAllRow.holds Tryz.pinned (OpenSpec.ofChange fnExactTakenAllSpec)

/-- ITS FALSE NEIGHBOUR: 'it returns false'. Refute it at one input. -/
def fnExactTakenAllWrong : ChangeSpec := { name := "fnExactTakenAll", fn := fun _ => fun
  | [d] => { results := [.lit (.bool false)], args := [d] }
  | _ => none }
def FnExactTakenAllWrongFalsely : Prop := fnExactTakenAllRow.holds Tryz.pinned (OpenSpec.ofChange fnExactTakenAllWrong)

/-- 'laws.FnExactEnough': WHATEVER THE INPUT: true; the input reads as it did. -/
def fnExactEnoughSpec : ChangeSpec := { name := "fnExactEnough", fn := fun _ => fun
  | [d] => { results := [.lit (.bool true)], args := [d] }
  | _ => none }
def fnExactEnoughRow : OpenClaim := { program := "ytgckmfadalhddaagreat", sum := "b63ba64dd0e081fd667aa9570b1c4dc5f4557b5bae763dc74fea6e333992bb4a", func := "loop.example/g00491/laws.FnExactEnough", spec := "fnExactEnough", unfollowed := true, recurses := true, apart := false }
def FnExactEnoughSaid : Prop := fnExactEnoughRow.holds Tryz.pinned (OpenSpec.ofChange fnExactEnoughSpec)

/-- ITS FALSE NEIGHBOUR: 'it returns false'. Refute it at one input. -/
def fnExactEnoughWrong : ChangeSpec := { name := "fnExactEnough", fn := fun _ => fun
  | [d] => { results := [.lit (.bool false)], args := [d] }
  | _ => none }
def FnExactEnoughWrongFalsely : Prop := fnExactEnoughRow.holds Tryz.pinned (OpenSpec.ofChange fnExactEnoughWrong)

/-- 'laws.FnExactSettled': WHATEVER THE INPUT: true; the input reads as it did. -/
def fnExactSettledSpec : ChangeSpec := { name := "fnExactSettled", fn := fun _ => fun
  | [d] => { results := [.lit (.bool true)], args := [d] }
  | _ => none }
def fnExactSettledRow : OpenClaim := { program := "ytgckmfadalhddaagreat", sum := "b63ba64dd0e081fd667aa9570b1c4dc5f4557b5bae763dc74fea6e333992bb4a", func := "loop.example/g00491/laws.FnExactSettled", spec := "fnExactSettled", unfollowed := true, recurses := true, apart := false }
def FnExactSettledSaid : Prop := fnExactSettledRow.holds Tryz.pinned (OpenSpec.ofChange fnExactSettledSpec)

/-- ITS FALSE NEIGHBOUR: 'it returns false'. Refute it at one input. -/
def fnExactSettledWrong : ChangeSpec := { name := "fnExactSettled", fn := fun _ => fun
  | [d] => { results := [.lit (.bool false)], args := [d] }
  | _ => none }
def FnExactSettledWrongFalsely : Prop := fnExactSettledRow.holds Tryz.pinned (OpenSpec.ofChange fnExactSettledWrong)

/-- 'laws.FnExactJudgeCredit': WHATEVER THE INPUT: true; the input reads as it did. -/
def fnExactJudgeCreditSpec : ChangeSpec := { name := "fnExactJudgeCredit", fn := fun _ => fun
  | [d] => { results := [.lit (.bool true)], args := [d] }
  | _ => none }
def fnExactJudgeCreditRow : OpenClaim := { program := "ytgckmfadalhddaagreat", sum := "b63ba64dd0e081fd667aa9570b1c4dc5f4557b5bae763dc74fea6e333992bb4a", func := "loop.example/g00491/laws.FnExactJudgeCredit", spec := "fnExactJudgeCredit", unfollowed := true, recurses := true, apart := false }
def FnExactJudgeCreditSaid : Prop := fnExactJudgeCreditRow.holds Tryz.pinned (OpenSpec.ofChange fnExactJudgeCreditSpec)

/-- ITS FALSE NEIGHBOUR: 'it returns false'. Refute it at one input. -/
def fnExactJudgeCreditWrong : ChangeSpec := { name := "fnExactJudgeCredit", fn := fun _ => fun
  | [d] => { results := [.lit (.bool false)], args := [d] }
  | _ => none }
def FnExactJudgeCreditWrongFalsely : Prop := fnExactJudgeCreditRow.holds Tryz.pinned (OpenSpec.ofChange fnExactJudgeCreditWrong)

/-- 'laws.FnExactJudgeKnown': WHATEVER THE INPUT: true; the input reads as it did. -/
def fnExactJudgeKnownSpec : ChangeSpec := { name := "fnExactJudgeKnown", fn := fun _ => fun
  | [d] => { results := [.lit (.bool true)], args := [d] }
  | _ => none }
def fnExactJudgeKnownRow : OpenClaim := { program := "ytgckmfadalhddaagreat", sum := "b63ba64dd0e081fd667aa9570b1c4dc5f4557b5bae763dc74fea6e333992bb4a", func := "loop.example/g00491/laws.FnExactJudgeKnown", spec := "fnExactJudgeKnown", unfollowed := true, recurses := true, apart := false }
def FnExactJudgeKnownSaid : Prop := fnExactJudgeKnownRow.holds Tryz.pinned (OpenSpec.ofChange fnExactJudgeKnownSpec)

/-- ITS FALSE NEIGHBOUR: 'it returns false'. Refute it at one input. -/
def fnExactJudgeKnownWrong : ChangeSpec := { name := "fnExactJudgeKnown", fn := fun _ => fun
  | [d] => { results := [.lit (.bool false)], args := [d] }
  | _ => none }
def FnExactJudgeKnownWrongFalsely : Prop := fnExactJudgeKnownRow.holds Tryz.pinned (OpenSpec.ofChange fnExactJudgeKnownWrong)

/-- 'laws.FnExactJudgeTold': WHATEVER THE INPUT: true; the input reads as it did. -/
def fnExactJudgeToldSpec : ChangeSpec := { name := "fnExactJudgeTold", fn := fun _ => fun
  | [d] => { results := [.lit (.bool true)], args := [d] }
  | _ => none }
def fnExactJudgeToldRow : OpenClaim := { program := "ytgckmfadalhddaagreat", sum := "b63ba64dd0e081fd667aa9570b1c4dc5f4557b5bae763dc74fea6e333992bb4a", func := "loop.example/g00491/laws.FnExactJudgeTold", spec := "fnExactJudgeTold", unfollowed := true, recurses := true, apart := false }
def FnExactJudgeToldSaid : Prop := fnExactJudgeToldRow.holds Tryz.pinned (OpenSpec.ofChange fnExactJudgeToldSpec)

/-- ITS FALSE NEIGHBOUR: 'it returns false'. Refute it at one input. -/
def fnExactJudgeToldWrong : ChangeSpec := { name := "fnExactJudgeTold", fn := fun _ => fun
  | [d] => { results := [.lit (.bool false)], args := [d] }
  | _ => none }
def FnExactJudgeToldWrongFalsely : Prop := fnExactJudgeToldRow.holds Tryz.pinned (OpenSpec.ofChange fnExactJudgeToldWrong)

/-- 'laws.FnExactJudgeFold': WHATEVER THE INPUT: true; the input reads as it did. -/
def fnExactJudgeFoldSpec : ChangeSpec := { name := "fnExactJudgeFold", fn := fun _ => fun
  | [d] => { results := [.lit (.bool true)], args := [d] }
  | _ => none }
def fnExactJudgeFoldRow : OpenClaim := { program := "ytgckmfadalhddaagreat", sum := "b63ba64dd0e081fd667aa9570b1c4dc5f4557b5bae763dc74fea6e333992bb4a", func := "loop.example/g00491/laws.FnExactJudgeFold", spec := "fnExactJudgeFold", unfollowed := true, recurses := true, apart := false }
def FnExactJudgeFoldSaid : Prop := fnExactJudgeFoldRow.holds Tryz.pinned (OpenSpec.ofChange fnExactJudgeFoldSpec)

/-- ITS FALSE NEIGHBOUR: 'it returns false'. Refute it at one input. -/
def fnExactJudgeFoldWrong : ChangeSpec := { name := "fnExactJudgeFold", fn := fun _ => fun
  | [d] => { results := [.lit (.bool false)], args := [d] }
  | _ => none }
def FnExactJudgeFoldWrongFalsely : Prop := fnExactJudgeFoldRow.holds Tryz.pinned (OpenSpec.ofChange fnExactJudgeFoldWrong)

/-- 'laws.FnExactJudgeAll': WHATEVER THE INPUT: true; the input reads as it did. -/
def fnExactJudgeAllSpec : ChangeSpec := { name := "fnExactJudgeAll", fn := fun _ => fun
  | [d] => { results := [.lit (.bool true)], args := [d] }
  | _ => none }
def fnExactJudgeAllRow : OpenClaim := { program := "ytgckmfadalhddaagreat", sum := "b63ba64dd0e081fd667aa9570b1c4dc5f4557b5bae763dc74fea6e333992bb4a", func := "loop.example/g00491/laws.FnExactJudgeAll", spec := "fnExactJudgeAll", unfollowed := true, recurses := true, apart := false }
def FnExactJudgeAllSaid : Prop := fnExactJudgeAllRow.holds Tryz.pinned (OpenSpec.ofChange fnExactJudgeAllSpec)

/-- ITS FALSE NEIGHBOUR: 'it returns false'. Refute it at one input. -/
def fnExactJudgeAllWrong : ChangeSpec := { name := "fnExactJudgeAll", fn := fun _ => fun
  | [d] => { results := [.lit (.bool false)], args := [d] }
  | _ => none }
def FnExactJudgeAllWrongFalsely : Prop := fnExactJudgeAllRow.holds Tryz.pinned (OpenSpec.ofChange fnExactJudgeAllWrong)

/- THE SECOND FORM. 'bulk': how many values and letters a reading holds, each counted each time it is reached (what is shared counts as often as it is met; a slice's spare places count too). A statement '..UptoSaid' is the law's where the arguments, and the package variables that the reading takes, are together of bulk at most 1048576: NARROWER than '..Said'. Prove '..Said' where nothing that the law and all that it calls make is longer than what came in: it says more and counts as full. Else prove '..UptoSaid'. A law counts once. -/
mutual
def uptoBulk {H : Type} : DataW H → Nat
  | .lit (.string bytes) => bytes.length + 1
  | .lit _ => 1
  | .nil => 1
  | .ptr d => uptoBulk d + 1
  | .slice elems spare => uptoBulkAll elems + uptoBulkAll spare + 1
  | .agg parts => uptoBulkAll parts + 1
  | .iface _ d => uptoBulk d + 1
  | .map entries => uptoBulkEntries entries + 1
  | .held _ => 1
def uptoBulkAll {H : Type} : List (DataW H) → Nat
  | [] => 0
  | d :: r => uptoBulk d + uptoBulkAll r
def uptoBulkEntries {H : Type} : List (Lit × DataW H) → Nat
  | [] => 0
  | x :: r => uptoBulkEntry x + uptoBulkEntries r
def uptoBulkEntry {H : Type} : Lit × DataW H → Nat
  | (.string bytes, d) => bytes.length + uptoBulk d + 1
  | (_, d) => uptoBulk d + 1
 end
def uptoSmall : (H : Type) → List (DataW H) → Bool := fun _ ds => decide (uptoBulkAll ds ≤ 1048576)
def OpenSpec.upto (s : _root_.Go.ChangeSpec) : _root_.Go.OpenSpec := { _root_.Go.OpenSpec.ofChange s with cond := some uptoSmall }

/-- 'laws.FnExactWorldOk', WHERE WHAT IT READS IS OF BULK AT MOST 1048576: true; the input reads as it did. -/
def fnExactWorldOkUptoRow : OpenClaim := { program := "ytgckmfadalhddaagreat", sum := "b63ba64dd0e081fd667aa9570b1c4dc5f4557b5bae763dc74fea6e333992bb4a", func := "loop.example/g00491/laws.FnExactWorldOk", spec := "fnExactWorldOk", unfollowed := true, recurses := true, apart := false, narrowed := true }
def FnExactWorldOkUptoSaid : Prop := fnExactWorldOkUptoRow.holds Tryz.pinned (OpenSpec.upto fnExactWorldOkSpec)

/-- 'laws.FnExactKnown', WHERE WHAT IT READS IS OF BULK AT MOST 1048576: true; the input reads as it did. -/
def fnExactKnownUptoRow : OpenClaim := { program := "ytgckmfadalhddaagreat", sum := "b63ba64dd0e081fd667aa9570b1c4dc5f4557b5bae763dc74fea6e333992bb4a", func := "loop.example/g00491/laws.FnExactKnown", spec := "fnExactKnown", unfollowed := true, recurses := true, apart := false, narrowed := true }
def FnExactKnownUptoSaid : Prop := fnExactKnownUptoRow.holds Tryz.pinned (OpenSpec.upto fnExactKnownSpec)

/-- 'laws.FnExactSealed', WHERE WHAT IT READS IS OF BULK AT MOST 1048576: true; the input reads as it did. -/
def fnExactSealedUptoRow : OpenClaim := { program := "ytgckmfadalhddaagreat", sum := "b63ba64dd0e081fd667aa9570b1c4dc5f4557b5bae763dc74fea6e333992bb4a", func := "loop.example/g00491/laws.FnExactSealed", spec := "fnExactSealed", unfollowed := true, recurses := true, apart := false, narrowed := true }
def FnExactSealedUptoSaid : Prop := fnExactSealedUptoRow.holds Tryz.pinned (OpenSpec.upto fnExactSealedSpec)

/-- 'laws.FnExactTakenAll', WHERE WHAT IT READS IS OF BULK AT MOST 1048576: true; the input reads as it did. -/
def fnExactTakenAllUptoRow : OpenClaim := { program := "ytgckmfadalhddaagreat", sum := "b63ba64dd0e081fd667aa9570b1c4dc5f4557b5bae763dc74fea6e333992bb4a", func := "loop.example/g00491/laws.FnExactTakenAll", spec := "fnExactTakenAll", unfollowed := true, recurses := true, apart := false, narrowed := true }
def FnExactTakenAllUptoSaid : Prop := fnExactTakenAllUptoRow.holds Tryz.pinned (OpenSpec.upto fnExactTakenAllSpec)

/-- 'laws.FnExactEnough', WHERE WHAT IT READS IS OF BULK AT MOST 1048576: true; the input reads as it did. -/
def fnExactEnoughUptoRow : OpenClaim := { program := "ytgckmfadalhddaagreat", sum := "b63ba64dd0e081fd667aa9570b1c4dc5f4557b5bae763dc74fea6e333992bb4a", func := "loop.example/g00491/laws.FnExactEnough", spec := "fnExactEnough", unfollowed := true, recurses := true, apart := false, narrowed := true }
def FnExactEnoughUptoSaid : Prop := fnExactEnoughUptoRow.holds Tryz.pinned (OpenSpec.upto fnExactEnoughSpec)

/-- 'laws.FnExactSettled', WHERE WHAT IT READS IS OF BULK AT MOST 1048576: true; the input reads as it did. -/
def fnExactSettledUptoRow : OpenClaim := { program := "ytgckmfadalhddaagreat", sum := "b63ba64dd0e081fd667aa9570b1c4dc5f4557b5bae763dc74fea6e333992bb4a", func := "loop.example/g00491/laws.FnExactSettled", spec := "fnExactSettled", unfollowed := true, recurses := true, apart := false, narrowed := true }
def FnExactSettledUptoSaid : Prop := fnExactSettledUptoRow.holds Tryz.pinned (OpenSpec.upto fnExactSettledSpec)

/-- 'laws.FnExactJudgeCredit', WHERE WHAT IT READS IS OF BULK AT MOST 1048576: true; the input reads as it did. -/
def fnExactJudgeCreditUptoRow : OpenClaim := { program := "ytgckmfadalhddaagreat", sum := "b63ba64dd0e081fd667aa9570b1c4dc5f4557b5bae763dc74fea6e333992bb4a", func := "loop.example/g00491/laws.FnExactJudgeCredit", spec := "fnExactJudgeCredit", unfollowed := true, recurses := true, apart := false, narrowed := true }
def FnExactJudgeCreditUptoSaid : Prop := fnExactJudgeCreditUptoRow.holds Tryz.pinned (OpenSpec.upto fnExactJudgeCreditSpec)

/-- 'laws.FnExactJudgeKnown', WHERE WHAT IT READS IS OF BULK AT MOST 1048576: true; the input reads as it did. -/
def fnExactJudgeKnownUptoRow : OpenClaim := { program := "ytgckmfadalhddaagreat", sum := "b63ba64dd0e081fd667aa9570b1c4dc5f4557b5bae763dc74fea6e333992bb4a", func := "loop.example/g00491/laws.FnExactJudgeKnown", spec := "fnExactJudgeKnown", unfollowed := true, recurses := true, apart := false, narrowed := true }
def FnExactJudgeKnownUptoSaid : Prop := fnExactJudgeKnownUptoRow.holds Tryz.pinned (OpenSpec.upto fnExactJudgeKnownSpec)

/-- 'laws.FnExactJudgeTold', WHERE WHAT IT READS IS OF BULK AT MOST 1048576: true; the input reads as it did. -/
def fnExactJudgeToldUptoRow : OpenClaim := { program := "ytgckmfadalhddaagreat", sum := "b63ba64dd0e081fd667aa9570b1c4dc5f4557b5bae763dc74fea6e333992bb4a", func := "loop.example/g00491/laws.FnExactJudgeTold", spec := "fnExactJudgeTold", unfollowed := true, recurses := true, apart := false, narrowed := true }
def FnExactJudgeToldUptoSaid : Prop := fnExactJudgeToldUptoRow.holds Tryz.pinned (OpenSpec.upto fnExactJudgeToldSpec)

/-- 'laws.FnExactJudgeFold', WHERE WHAT IT READS IS OF BULK AT MOST 1048576: true; the input reads as it did. -/
def fnExactJudgeFoldUptoRow : OpenClaim := { program := "ytgckmfadalhddaagreat", sum := "b63ba64dd0e081fd667aa9570b1c4dc5f4557b5bae763dc74fea6e333992bb4a", func := "loop.example/g00491/laws.FnExactJudgeFold", spec := "fnExactJudgeFold", unfollowed := true, recurses := true, apart := false, narrowed := true }
def FnExactJudgeFoldUptoSaid : Prop := fnExactJudgeFoldUptoRow.holds Tryz.pinned (OpenSpec.upto fnExactJudgeFoldSpec)

/-- 'laws.FnExactJudgeAll', WHERE WHAT IT READS IS OF BULK AT MOST 1048576: true; the input reads as it did. -/
def fnExactJudgeAllUptoRow : OpenClaim := { program := "ytgckmfadalhddaagreat", sum := "b63ba64dd0e081fd667aa9570b1c4dc5f4557b5bae763dc74fea6e333992bb4a", func := "loop.example/g00491/laws.FnExactJudgeAll", spec := "fnExactJudgeAll", unfollowed := true, recurses := true, apart := false, narrowed := true }
def FnExactJudgeAllUptoSaid : Prop := fnExactJudgeAllUptoRow.holds Tryz.pinned (OpenSpec.upto fnExactJudgeAllSpec)

end Rows
end Go.Proofs.YtgckmfadalhddaaGreat
