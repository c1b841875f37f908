/-
  No cell of these rows narrows 'for every input' (looked for: loops, veiled, ifaces, maps, wideKeys, modest, calm, conditions, laid).
  DERIVED. THE GIVEN ROWS OF THIS SEAT. 6 by the template 'for every input the law returns true; each argument reads behind the call as it read before'; 0 by the template 'total and deterministic' (their statements: YtiacnfkmmknkbaaTotals.lean).
  GIVEN WITH THE SEED: the statements are not yours to turn. If you find one false, say at which input.
  Laid BY PROGRAM, IN A SANDBOX (cutbox-rows.mjs): the forced cells as the released guide's own fill.sh prints them over the translation cc051067991b1e46… (all of the seat's roots in one cut). By AI agents, Wed Nov 11 2026. No macro, syntax, notation, axiom, sorry.
-/
import Derived.Test.YtiacnfkmmknkbaaChecked
import GoSem.Claim
import GoSem.ClaimJoined
import GoSem.ClaimMapViews
import Derived.JoinedTies
import Derived.KernelRfl
namespace Go.Proofs.Ytiacnfkmmknkbaa
/- THE CELL 'sum', in the pinned program and in every row, IS THE sha256 OF THE DUMP (.gsa) THAT YtiacnfkmmknkbaaProg.lean LOADS. Nothing in Lean hashes anything: it is a label: what it is worth is what the hold of that sum in a sandbox is worth. -/
noncomputable def Try.pinned : Pinned := { name := "ytiacnfkmmknkbaa", sum := "cc051067991b1e46c4342d1f7e19a677016d36f2c5576e14a261ae68101f0a11", checked := Try.checked }
namespace Rows
def none {H : Type} : Left H := { results := [], args := [] }

/-- 'laws.FnExactSyncName': WHATEVER THE INPUT: true; the input reads as it did. -/
def fnExactSyncNameSpec : ChangeSpec := { name := "fnExactSyncName", fn := fun _ => fun
  | [d] => { results := [.lit (.bool true)], args := [d] }
  | _ => none }
def fnExactSyncNameRow : OpenClaim := { program := "ytiacnfkmmknkbaa", sum := "cc051067991b1e46c4342d1f7e19a677016d36f2c5576e14a261ae68101f0a11", func := "loop.example/g00581/laws.FnExactSyncName", spec := "fnExactSyncName", apart := false }
def FnExactSyncNameSaid : Prop := fnExactSyncNameRow.holds Try.pinned (OpenSpec.ofChange fnExactSyncNameSpec)

/-- ITS FALSE NEIGHBOUR: 'it returns false'. Refute it at one input. -/
def fnExactSyncNameWrong : ChangeSpec := { name := "fnExactSyncName", fn := fun _ => fun
  | [d] => { results := [.lit (.bool false)], args := [d] }
  | _ => none }
def FnExactSyncNameWrongFalsely : Prop := fnExactSyncNameRow.holds Try.pinned (OpenSpec.ofChange fnExactSyncNameWrong)

/-- 'laws.FnExactCommitNonce': WHATEVER THE INPUT: true; the input reads as it did. -/
def fnExactCommitNonceSpec : ChangeSpec := { name := "fnExactCommitNonce", fn := fun _ => fun
  | [d1, d2] => { results := [.lit (.bool true)], args := [d1, d2] }
  | _ => none }
def fnExactCommitNonceRow : OpenClaim := { program := "ytiacnfkmmknkbaa", sum := "cc051067991b1e46c4342d1f7e19a677016d36f2c5576e14a261ae68101f0a11", func := "loop.example/g00581/laws.FnExactCommitNonce", spec := "fnExactCommitNonce", apart := false }
def FnExactCommitNonceSaid : Prop := fnExactCommitNonceRow.holds Try.pinned (OpenSpec.ofChange fnExactCommitNonceSpec)

/-- ITS FALSE NEIGHBOUR: 'it returns false'. Refute it at one input. -/
def fnExactCommitNonceWrong : ChangeSpec := { name := "fnExactCommitNonce", fn := fun _ => fun
  | [d1, d2] => { results := [.lit (.bool false)], args := [d1, d2] }
  | _ => none }
def FnExactCommitNonceWrongFalsely : Prop := fnExactCommitNonceRow.holds Try.pinned (OpenSpec.ofChange fnExactCommitNonceWrong)

/-- 'laws.FnExactOpensCommit': WHATEVER THE INPUT: true; the input reads as it did. -/
def fnExactOpensCommitSpec : ChangeSpec := { name := "fnExactOpensCommit", fn := fun _ => fun
  | [d] => { results := [.lit (.bool true)], args := [d] }
  | _ => none }
def fnExactOpensCommitRow : OpenClaim := { program := "ytiacnfkmmknkbaa", sum := "cc051067991b1e46c4342d1f7e19a677016d36f2c5576e14a261ae68101f0a11", func := "loop.example/g00581/laws.FnExactOpensCommit", spec := "fnExactOpensCommit", apart := false }
def FnExactOpensCommitSaid : Prop := fnExactOpensCommitRow.holds Try.pinned (OpenSpec.ofChange fnExactOpensCommitSpec)

/-- ITS FALSE NEIGHBOUR: 'it returns false'. Refute it at one input. -/
def fnExactOpensCommitWrong : ChangeSpec := { name := "fnExactOpensCommit", fn := fun _ => fun
  | [d] => { results := [.lit (.bool false)], args := [d] }
  | _ => none }
def FnExactOpensCommitWrongFalsely : Prop := fnExactOpensCommitRow.holds Try.pinned (OpenSpec.ofChange fnExactOpensCommitWrong)

/-- 'laws.FnExactVaultCheck': WHATEVER THE INPUT: true; the input reads as it did. -/
def fnExactVaultCheckSpec : ChangeSpec := { name := "fnExactVaultCheck", fn := fun _ => fun
  | [d1, d2] => { results := [.lit (.bool true)], args := [d1, d2] }
  | _ => none }
def fnExactVaultCheckRow : OpenClaim := { program := "ytiacnfkmmknkbaa", sum := "cc051067991b1e46c4342d1f7e19a677016d36f2c5576e14a261ae68101f0a11", func := "loop.example/g00581/laws.FnExactVaultCheck", spec := "fnExactVaultCheck", apart := false }
def FnExactVaultCheckSaid : Prop := fnExactVaultCheckRow.holds Try.pinned (OpenSpec.ofChange fnExactVaultCheckSpec)

/-- ITS FALSE NEIGHBOUR: 'it returns false'. Refute it at one input. -/
def fnExactVaultCheckWrong : ChangeSpec := { name := "fnExactVaultCheck", fn := fun _ => fun
  | [d1, d2] => { results := [.lit (.bool false)], args := [d1, d2] }
  | _ => none }
def FnExactVaultCheckWrongFalsely : Prop := fnExactVaultCheckRow.holds Try.pinned (OpenSpec.ofChange fnExactVaultCheckWrong)

/-- 'laws.FnExactIsValidKeeper': WHATEVER THE INPUT: true; the input reads as it did. -/
def fnExactIsValidKeeperSpec : ChangeSpec := { name := "fnExactIsValidKeeper", fn := fun _ => fun
  | [d] => { results := [.lit (.bool true)], args := [d] }
  | _ => none }
def fnExactIsValidKeeperRow : OpenClaim := { program := "ytiacnfkmmknkbaa", sum := "cc051067991b1e46c4342d1f7e19a677016d36f2c5576e14a261ae68101f0a11", func := "loop.example/g00581/laws.FnExactIsValidKeeper", spec := "fnExactIsValidKeeper", apart := false }
def FnExactIsValidKeeperSaid : Prop := fnExactIsValidKeeperRow.holds Try.pinned (OpenSpec.ofChange fnExactIsValidKeeperSpec)

/-- ITS FALSE NEIGHBOUR: 'it returns false'. Refute it at one input. -/
def fnExactIsValidKeeperWrong : ChangeSpec := { name := "fnExactIsValidKeeper", fn := fun _ => fun
  | [d] => { results := [.lit (.bool false)], args := [d] }
  | _ => none }
def FnExactIsValidKeeperWrongFalsely : Prop := fnExactIsValidKeeperRow.holds Try.pinned (OpenSpec.ofChange fnExactIsValidKeeperWrong)

/-- 'laws.FnExactStartPairing': WHATEVER THE INPUT: true; the input reads as it did. -/
def fnExactStartPairingSpec : ChangeSpec := { name := "fnExactStartPairing", fn := fun _ => fun
  | [d1, d2] => { results := [.lit (.bool true)], args := [d1, d2] }
  | _ => none }
def fnExactStartPairingRow : OpenClaim := { program := "ytiacnfkmmknkbaa", sum := "cc051067991b1e46c4342d1f7e19a677016d36f2c5576e14a261ae68101f0a11", func := "loop.example/g00581/laws.FnExactStartPairing", spec := "fnExactStartPairing", apart := false }
def FnExactStartPairingSaid : Prop := fnExactStartPairingRow.holds Try.pinned (OpenSpec.ofChange fnExactStartPairingSpec)

/-- ITS FALSE NEIGHBOUR: 'it returns false'. Refute it at one input. -/
def fnExactStartPairingWrong : ChangeSpec := { name := "fnExactStartPairing", fn := fun _ => fun
  | [d1, d2] => { results := [.lit (.bool false)], args := [d1, d2] }
  | _ => none }
def FnExactStartPairingWrongFalsely : Prop := fnExactStartPairingRow.holds Try.pinned (OpenSpec.ofChange fnExactStartPairingWrong)

/- THE SECOND FORM. 'bulk': how many values and letters a reading holds, each counted each time it is reached (what is shared counts as often as it is met; a slice's spare places count too). A statement '..UptoSaid' is the law's where the arguments, and the package variables that the reading takes, are together of bulk at most 1048576: NARROWER than '..Said'. Prove '..Said' where nothing that the law and all that it calls make is longer than what came in: it says more and counts as full. Else prove '..UptoSaid'. A law counts once. -/
mutual
def uptoBulk {H : Type} : DataW H → Nat
  | .lit (.string bytes) => bytes.length + 1
  | .lit _ => 1
  | .nil => 1
  | .ptr d => uptoBulk d + 1
  | .slice elems spare => uptoBulkAll elems + uptoBulkAll spare + 1
  | .agg parts => uptoBulkAll parts + 1
  | .iface _ d => uptoBulk d + 1
  | .map entries => uptoBulkEntries entries + 1
  | .held _ => 1
def uptoBulkAll {H : Type} : List (DataW H) → Nat
  | [] => 0
  | d :: r => uptoBulk d + uptoBulkAll r
def uptoBulkEntries {H : Type} : List (Lit × DataW H) → Nat
  | [] => 0
  | x :: r => uptoBulkEntry x + uptoBulkEntries r
def uptoBulkEntry {H : Type} : Lit × DataW H → Nat
  | (.string bytes, d) => bytes.length + uptoBulk d + 1
  | (_, d) => uptoBulk d + 1
 end
def uptoSmall : (H : Type) → List (DataW H) → Bool := fun _ ds => decide (uptoBulkAll ds ≤ 1048576)
def OpenSpec.upto (s : _root_.Go.ChangeSpec) : _root_.Go.OpenSpec := { _root_.Go.OpenSpec.ofChange s with cond := some uptoSmall }

/-- 'laws.FnExactSyncName', WHERE WHAT IT READS IS OF BULK AT MOST 1048576: true; the input reads as it did. -/
def fnExactSyncNameUptoRow : OpenClaim := { program := "ytiacnfkmmknkbaa", sum := "cc051067991b1e46c4342d1f7e19a677016d36f2c5576e14a261ae68101f0a11", func := "loop.example/g00581/laws.FnExactSyncName", spec := "fnExactSyncName", apart := false, narrowed := true }
def FnExactSyncNameUptoSaid : Prop := fnExactSyncNameUptoRow.holds Try.pinned (OpenSpec.upto fnExactSyncNameSpec)

/-- 'laws.FnExactCommitNonce', WHERE WHAT IT READS IS OF BULK AT MOST 1048576: true; the input reads as it did. -/
def fnExactCommitNonceUptoRow : OpenClaim := { program := "ytiacnfkmmknkbaa", sum := "cc051067991b1e46c4342d1f7e19a677016d36f2c5576e14a261ae68101f0a11", func := "loop.example/g00581/laws.FnExactCommitNonce", spec := "fnExactCommitNonce", apart := false, narrowed := true }
def FnExactCommitNonceUptoSaid : Prop := fnExactCommitNonceUptoRow.holds Try.pinned (OpenSpec.upto fnExactCommitNonceSpec)

/-- 'laws.FnExactOpensCommit', WHERE WHAT IT READS IS OF BULK AT MOST 1048576: true; the input reads as it did. -/
def fnExactOpensCommitUptoRow : OpenClaim := { program := "ytiacnfkmmknkbaa", sum := "cc051067991b1e46c4342d1f7e19a677016d36f2c5576e14a261ae68101f0a11", func := "loop.example/g00581/laws.FnExactOpensCommit", spec := "fnExactOpensCommit", apart := false, narrowed := true }
def FnExactOpensCommitUptoSaid : Prop := fnExactOpensCommitUptoRow.holds Try.pinned (OpenSpec.upto fnExactOpensCommitSpec)

/-- 'laws.FnExactVaultCheck', WHERE WHAT IT READS IS OF BULK AT MOST 1048576: true; the input reads as it did. -/
def fnExactVaultCheckUptoRow : OpenClaim := { program := "ytiacnfkmmknkbaa", sum := "cc051067991b1e46c4342d1f7e19a677016d36f2c5576e14a261ae68101f0a11", func := "loop.example/g00581/laws.FnExactVaultCheck", spec := "fnExactVaultCheck", apart := false, narrowed := true }
def FnExactVaultCheckUptoSaid : Prop := fnExactVaultCheckUptoRow.holds Try.pinned (OpenSpec.upto fnExactVaultCheckSpec)

/-- 'laws.FnExactIsValidKeeper', WHERE WHAT IT READS IS OF BULK AT MOST 1048576: true; the input reads as it did. -/
def fnExactIsValidKeeperUptoRow : OpenClaim := { program := "ytiacnfkmmknkbaa", sum := "cc051067991b1e46c4342d1f7e19a677016d36f2c5576e14a261ae68101f0a11", func := "loop.example/g00581/laws.FnExactIsValidKeeper", spec := "fnExactIsValidKeeper", apart := false, narrowed := true }
def FnExactIsValidKeeperUptoSaid : Prop := fnExactIsValidKeeperUptoRow.holds Try.pinned (OpenSpec.upto fnExactIsValidKeeperSpec)

/-- 'laws.FnExactStartPairing', WHERE WHAT IT READS IS OF BULK AT MOST 1048576: true; the input reads as it did. -/
def fnExactStartPairingUptoRow : OpenClaim := { program := "ytiacnfkmmknkbaa", sum := "cc051067991b1e46c4342d1f7e19a677016d36f2c5576e14a261ae68101f0a11", func := "loop.example/g00581/laws.FnExactStartPairing", spec := "fnExactStartPairing", apart := false, narrowed := true }
def FnExactStartPairingUptoSaid : Prop := fnExactStartPairingUptoRow.holds Try.pinned (OpenSpec.upto fnExactStartPairingSpec)

end Rows
end Go.Proofs.Ytiacnfkmmknkbaa
