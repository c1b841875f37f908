/-
  No cell of these rows narrows 'for every input' (looked for: loops, veiled, ifaces, maps, wideKeys, modest, calm, conditions, laid).
  DERIVED. THE GIVEN ROWS OF THIS SEAT. 10 by the template 'for every input the law returns true; each argument reads behind the call as it read before'; 0 by the template 'total and deterministic' (their statements: YtaajgknmclpbiaaTotals.lean).
  GIVEN WITH THE SEED: the statements are not yours to turn. If you find one false, say at which input.
  Laid BY PROGRAM, IN A SANDBOX (cutbox-rows.mjs): the forced cells as the released guide's own fill.sh prints them over the translation 209c6fd947208d8a… (all of the seat's roots in one cut). By AI agents, Wed Nov 11 2026. No macro, syntax, notation, axiom, sorry.
-/
import Derived.Test.YtaajgknmclpbiaaChecked
import GoSem.Claim
import GoSem.ClaimJoined
import GoSem.ClaimMapViews
import Derived.JoinedTies
import Derived.KernelRfl
namespace Go.Proofs.Ytaajgknmclpbiaa
/- THE CELL 'sum', in the pinned program and in every row, IS THE sha256 OF THE DUMP (.gsa) THAT YtaajgknmclpbiaaProg.lean LOADS. Nothing in Lean hashes anything: it is a label: what it is worth is what the hold of that sum in a sandbox is worth. -/
noncomputable def Try.pinned : Pinned := { name := "ytaajgknmclpbiaa", sum := "209c6fd947208d8a69fcf96e66e8a6323bfca139da0d347a61e81ee8d9580138", checked := Try.checked }
namespace Rows
def none {H : Type} : Left H := { results := [], args := [] }

/-- 'laws.FnExactPairingCode': WHATEVER THE INPUT: true; the input reads as it did. -/
def fnExactPairingCodeSpec : ChangeSpec := { name := "fnExactPairingCode", fn := fun _ => fun
  | [d1, d2] => { results := [.lit (.bool true)], args := [d1, d2] }
  | _ => none }
def fnExactPairingCodeRow : OpenClaim := { program := "ytaajgknmclpbiaa", sum := "209c6fd947208d8a69fcf96e66e8a6323bfca139da0d347a61e81ee8d9580138", func := "loop.example/g00581/laws.FnExactPairingCode", spec := "fnExactPairingCode", apart := false }
def FnExactPairingCodeSaid : Prop := fnExactPairingCodeRow.holds Try.pinned (OpenSpec.ofChange fnExactPairingCodeSpec)

/-- ITS FALSE NEIGHBOUR: 'it returns false'. Refute it at one input. -/
def fnExactPairingCodeWrong : ChangeSpec := { name := "fnExactPairingCode", fn := fun _ => fun
  | [d1, d2] => { results := [.lit (.bool false)], args := [d1, d2] }
  | _ => none }
def FnExactPairingCodeWrongFalsely : Prop := fnExactPairingCodeRow.holds Try.pinned (OpenSpec.ofChange fnExactPairingCodeWrong)

/-- 'laws.FnExactConfirmPairing': WHATEVER THE INPUT: true; the input reads as it did. -/
def fnExactConfirmPairingSpec : ChangeSpec := { name := "fnExactConfirmPairing", fn := fun _ => fun
  | [d1, d2, d3, d4] => { results := [.lit (.bool true)], args := [d1, d2, d3, d4] }
  | _ => none }
def fnExactConfirmPairingRow : OpenClaim := { program := "ytaajgknmclpbiaa", sum := "209c6fd947208d8a69fcf96e66e8a6323bfca139da0d347a61e81ee8d9580138", func := "loop.example/g00581/laws.FnExactConfirmPairing", spec := "fnExactConfirmPairing", apart := false }
def FnExactConfirmPairingSaid : Prop := fnExactConfirmPairingRow.holds Try.pinned (OpenSpec.ofChange fnExactConfirmPairingSpec)

/-- ITS FALSE NEIGHBOUR: 'it returns false'. Refute it at one input. -/
def fnExactConfirmPairingWrong : ChangeSpec := { name := "fnExactConfirmPairing", fn := fun _ => fun
  | [d1, d2, d3, d4] => { results := [.lit (.bool false)], args := [d1, d2, d3, d4] }
  | _ => none }
def FnExactConfirmPairingWrongFalsely : Prop := fnExactConfirmPairingRow.holds Try.pinned (OpenSpec.ofChange fnExactConfirmPairingWrong)

/-- 'laws.FnExactMaskKey': WHATEVER THE INPUT: true; the input reads as it did. -/
def fnExactMaskKeySpec : ChangeSpec := { name := "fnExactMaskKey", fn := fun _ => fun
  | [d1, d2] => { results := [.lit (.bool true)], args := [d1, d2] }
  | _ => none }
def fnExactMaskKeyRow : OpenClaim := { program := "ytaajgknmclpbiaa", sum := "209c6fd947208d8a69fcf96e66e8a6323bfca139da0d347a61e81ee8d9580138", func := "loop.example/g00581/laws.FnExactMaskKey", spec := "fnExactMaskKey", apart := false }
def FnExactMaskKeySaid : Prop := fnExactMaskKeyRow.holds Try.pinned (OpenSpec.ofChange fnExactMaskKeySpec)

/-- ITS FALSE NEIGHBOUR: 'it returns false'. Refute it at one input. -/
def fnExactMaskKeyWrong : ChangeSpec := { name := "fnExactMaskKey", fn := fun _ => fun
  | [d1, d2] => { results := [.lit (.bool false)], args := [d1, d2] }
  | _ => none }
def FnExactMaskKeyWrongFalsely : Prop := fnExactMaskKeyRow.holds Try.pinned (OpenSpec.ofChange fnExactMaskKeyWrong)

/-- 'laws.FnExactAttackPairing': WHATEVER THE INPUT: true; the input reads as it did. -/
def fnExactAttackPairingSpec : ChangeSpec := { name := "fnExactAttackPairing", fn := fun _ => fun
  | [d1, d2, d3, d4] => { results := [.lit (.bool true)], args := [d1, d2, d3, d4] }
  | _ => none }
def fnExactAttackPairingRow : OpenClaim := { program := "ytaajgknmclpbiaa", sum := "209c6fd947208d8a69fcf96e66e8a6323bfca139da0d347a61e81ee8d9580138", func := "loop.example/g00581/laws.FnExactAttackPairing", spec := "fnExactAttackPairing", apart := false }
def FnExactAttackPairingSaid : Prop := fnExactAttackPairingRow.holds Try.pinned (OpenSpec.ofChange fnExactAttackPairingSpec)

/-- ITS FALSE NEIGHBOUR: 'it returns false'. Refute it at one input. -/
def fnExactAttackPairingWrong : ChangeSpec := { name := "fnExactAttackPairing", fn := fun _ => fun
  | [d1, d2, d3, d4] => { results := [.lit (.bool false)], args := [d1, d2, d3, d4] }
  | _ => none }
def FnExactAttackPairingWrongFalsely : Prop := fnExactAttackPairingRow.holds Try.pinned (OpenSpec.ofChange fnExactAttackPairingWrong)

/-- 'laws.FnExactOpenVault': WHATEVER THE INPUT: true; the input reads as it did. -/
def fnExactOpenVaultSpec : ChangeSpec := { name := "fnExactOpenVault", fn := fun _ => fun
  | [d1, d2] => { results := [.lit (.bool true)], args := [d1, d2] }
  | _ => none }
def fnExactOpenVaultRow : OpenClaim := { program := "ytaajgknmclpbiaa", sum := "209c6fd947208d8a69fcf96e66e8a6323bfca139da0d347a61e81ee8d9580138", func := "loop.example/g00581/laws.FnExactOpenVault", spec := "fnExactOpenVault", apart := false }
def FnExactOpenVaultSaid : Prop := fnExactOpenVaultRow.holds Try.pinned (OpenSpec.ofChange fnExactOpenVaultSpec)

/-- ITS FALSE NEIGHBOUR: 'it returns false'. Refute it at one input. -/
def fnExactOpenVaultWrong : ChangeSpec := { name := "fnExactOpenVault", fn := fun _ => fun
  | [d1, d2] => { results := [.lit (.bool false)], args := [d1, d2] }
  | _ => none }
def FnExactOpenVaultWrongFalsely : Prop := fnExactOpenVaultRow.holds Try.pinned (OpenSpec.ofChange fnExactOpenVaultWrong)

/-- 'laws.FnExactEqualHosts': WHATEVER THE INPUT: true; the input reads as it did. -/
def fnExactEqualHostsSpec : ChangeSpec := { name := "fnExactEqualHosts", fn := fun _ => fun
  | [d1, d2] => { results := [.lit (.bool true)], args := [d1, d2] }
  | _ => none }
def fnExactEqualHostsRow : OpenClaim := { program := "ytaajgknmclpbiaa", sum := "209c6fd947208d8a69fcf96e66e8a6323bfca139da0d347a61e81ee8d9580138", func := "loop.example/g00581/laws.FnExactEqualHosts", spec := "fnExactEqualHosts", apart := false }
def FnExactEqualHostsSaid : Prop := fnExactEqualHostsRow.holds Try.pinned (OpenSpec.ofChange fnExactEqualHostsSpec)

/-- ITS FALSE NEIGHBOUR: 'it returns false'. Refute it at one input. -/
def fnExactEqualHostsWrong : ChangeSpec := { name := "fnExactEqualHosts", fn := fun _ => fun
  | [d1, d2] => { results := [.lit (.bool false)], args := [d1, d2] }
  | _ => none }
def FnExactEqualHostsWrongFalsely : Prop := fnExactEqualHostsRow.holds Try.pinned (OpenSpec.ofChange fnExactEqualHostsWrong)

/-- 'laws.FnExactStartHost': WHATEVER THE INPUT: true; the input reads as it did. -/
def fnExactStartHostSpec : ChangeSpec := { name := "fnExactStartHost", fn := fun _ => fun
  | [d] => { results := [.lit (.bool true)], args := [d] }
  | _ => none }
def fnExactStartHostRow : OpenClaim := { program := "ytaajgknmclpbiaa", sum := "209c6fd947208d8a69fcf96e66e8a6323bfca139da0d347a61e81ee8d9580138", func := "loop.example/g00581/laws.FnExactStartHost", spec := "fnExactStartHost", apart := false }
def FnExactStartHostSaid : Prop := fnExactStartHostRow.holds Try.pinned (OpenSpec.ofChange fnExactStartHostSpec)

/-- ITS FALSE NEIGHBOUR: 'it returns false'. Refute it at one input. -/
def fnExactStartHostWrong : ChangeSpec := { name := "fnExactStartHost", fn := fun _ => fun
  | [d] => { results := [.lit (.bool false)], args := [d] }
  | _ => none }
def FnExactStartHostWrongFalsely : Prop := fnExactStartHostRow.holds Try.pinned (OpenSpec.ofChange fnExactStartHostWrong)

/-- 'laws.FnExactEqualVaultHosts': WHATEVER THE INPUT: true; the input reads as it did. -/
def fnExactEqualVaultHostsSpec : ChangeSpec := { name := "fnExactEqualVaultHosts", fn := fun _ => fun
  | [d1, d2] => { results := [.lit (.bool true)], args := [d1, d2] }
  | _ => none }
def fnExactEqualVaultHostsRow : OpenClaim := { program := "ytaajgknmclpbiaa", sum := "209c6fd947208d8a69fcf96e66e8a6323bfca139da0d347a61e81ee8d9580138", func := "loop.example/g00581/laws.FnExactEqualVaultHosts", spec := "fnExactEqualVaultHosts", apart := false }
def FnExactEqualVaultHostsSaid : Prop := fnExactEqualVaultHostsRow.holds Try.pinned (OpenSpec.ofChange fnExactEqualVaultHostsSpec)

/-- ITS FALSE NEIGHBOUR: 'it returns false'. Refute it at one input. -/
def fnExactEqualVaultHostsWrong : ChangeSpec := { name := "fnExactEqualVaultHosts", fn := fun _ => fun
  | [d1, d2] => { results := [.lit (.bool false)], args := [d1, d2] }
  | _ => none }
def FnExactEqualVaultHostsWrongFalsely : Prop := fnExactEqualVaultHostsRow.holds Try.pinned (OpenSpec.ofChange fnExactEqualVaultHostsWrong)

/-- 'laws.FnExactShareEpochs': WHATEVER THE INPUT: true; the input reads as it did. -/
def fnExactShareEpochsSpec : ChangeSpec := { name := "fnExactShareEpochs", fn := fun _ => fun
  | [d] => { results := [.lit (.bool true)], args := [d] }
  | _ => none }
def fnExactShareEpochsRow : OpenClaim := { program := "ytaajgknmclpbiaa", sum := "209c6fd947208d8a69fcf96e66e8a6323bfca139da0d347a61e81ee8d9580138", func := "loop.example/g00581/laws.FnExactShareEpochs", spec := "fnExactShareEpochs", apart := false }
def FnExactShareEpochsSaid : Prop := fnExactShareEpochsRow.holds Try.pinned (OpenSpec.ofChange fnExactShareEpochsSpec)

/-- ITS FALSE NEIGHBOUR: 'it returns false'. Refute it at one input. -/
def fnExactShareEpochsWrong : ChangeSpec := { name := "fnExactShareEpochs", fn := fun _ => fun
  | [d] => { results := [.lit (.bool false)], args := [d] }
  | _ => none }
def FnExactShareEpochsWrongFalsely : Prop := fnExactShareEpochsRow.holds Try.pinned (OpenSpec.ofChange fnExactShareEpochsWrong)

/-- 'laws.FnExactNewDevice': WHATEVER THE INPUT: true; the input reads as it did. -/
def fnExactNewDeviceSpec : ChangeSpec := { name := "fnExactNewDevice", fn := fun _ => fun
  | [d] => { results := [.lit (.bool true)], args := [d] }
  | _ => none }
def fnExactNewDeviceRow : OpenClaim := { program := "ytaajgknmclpbiaa", sum := "209c6fd947208d8a69fcf96e66e8a6323bfca139da0d347a61e81ee8d9580138", func := "loop.example/g00581/laws.FnExactNewDevice", spec := "fnExactNewDevice", apart := false }
def FnExactNewDeviceSaid : Prop := fnExactNewDeviceRow.holds Try.pinned (OpenSpec.ofChange fnExactNewDeviceSpec)

/-- ITS FALSE NEIGHBOUR: 'it returns false'. Refute it at one input. -/
def fnExactNewDeviceWrong : ChangeSpec := { name := "fnExactNewDevice", fn := fun _ => fun
  | [d] => { results := [.lit (.bool false)], args := [d] }
  | _ => none }
def FnExactNewDeviceWrongFalsely : Prop := fnExactNewDeviceRow.holds Try.pinned (OpenSpec.ofChange fnExactNewDeviceWrong)

/- THE SECOND FORM. 'bulk': how many values and letters a reading holds, each counted each time it is reached (what is shared counts as often as it is met; a slice's spare places count too). A statement '..UptoSaid' is the law's where the arguments, and the package variables that the reading takes, are together of bulk at most 1048576: NARROWER than '..Said'. Prove '..Said' where nothing that the law and all that it calls make is longer than what came in: it says more and counts as full. Else prove '..UptoSaid'. A law counts once. -/
mutual
def uptoBulk {H : Type} : DataW H → Nat
  | .lit (.string bytes) => bytes.length + 1
  | .lit _ => 1
  | .nil => 1
  | .ptr d => uptoBulk d + 1
  | .slice elems spare => uptoBulkAll elems + uptoBulkAll spare + 1
  | .agg parts => uptoBulkAll parts + 1
  | .iface _ d => uptoBulk d + 1
  | .map entries => uptoBulkEntries entries + 1
  | .held _ => 1
def uptoBulkAll {H : Type} : List (DataW H) → Nat
  | [] => 0
  | d :: r => uptoBulk d + uptoBulkAll r
def uptoBulkEntries {H : Type} : List (Lit × DataW H) → Nat
  | [] => 0
  | x :: r => uptoBulkEntry x + uptoBulkEntries r
def uptoBulkEntry {H : Type} : Lit × DataW H → Nat
  | (.string bytes, d) => bytes.length + uptoBulk d + 1
  | (_, d) => uptoBulk d + 1
 end
def uptoSmall : (H : Type) → List (DataW H) → Bool := fun _ ds => decide (uptoBulkAll ds ≤ 1048576)
def OpenSpec.upto (s : _root_.Go.ChangeSpec) : _root_.Go.OpenSpec := { _root_.Go.OpenSpec.ofChange s with cond := some uptoSmall }

/-- 'laws.FnExactPairingCode', WHERE WHAT IT READS IS OF BULK AT MOST 1048576: true; the input reads as it did. -/
def fnExactPairingCodeUptoRow : OpenClaim := { program := "ytaajgknmclpbiaa", sum := "209c6fd947208d8a69fcf96e66e8a6323bfca139da0d347a61e81ee8d9580138", func := "loop.example/g00581/laws.FnExactPairingCode", spec := "fnExactPairingCode", apart := false, narrowed := true }
def FnExactPairingCodeUptoSaid : Prop := fnExactPairingCodeUptoRow.holds Try.pinned (OpenSpec.upto fnExactPairingCodeSpec)

/-- 'laws.FnExactConfirmPairing', WHERE WHAT IT READS IS OF BULK AT MOST 1048576: true; the input reads as it did. -/
def fnExactConfirmPairingUptoRow : OpenClaim := { program := "ytaajgknmclpbiaa", sum := "209c6fd947208d8a69fcf96e66e8a6323bfca139da0d347a61e81ee8d9580138", func := "loop.example/g00581/laws.FnExactConfirmPairing", spec := "fnExactConfirmPairing", apart := false, narrowed := true }
def FnExactConfirmPairingUptoSaid : Prop := fnExactConfirmPairingUptoRow.holds Try.pinned (OpenSpec.upto fnExactConfirmPairingSpec)

/-- 'laws.FnExactMaskKey', WHERE WHAT IT READS IS OF BULK AT MOST 1048576: true; the input reads as it did. -/
def fnExactMaskKeyUptoRow : OpenClaim := { program := "ytaajgknmclpbiaa", sum := "209c6fd947208d8a69fcf96e66e8a6323bfca139da0d347a61e81ee8d9580138", func := "loop.example/g00581/laws.FnExactMaskKey", spec := "fnExactMaskKey", apart := false, narrowed := true }
def FnExactMaskKeyUptoSaid : Prop := fnExactMaskKeyUptoRow.holds Try.pinned (OpenSpec.upto fnExactMaskKeySpec)

/-- 'laws.FnExactAttackPairing', WHERE WHAT IT READS IS OF BULK AT MOST 1048576: true; the input reads as it did. -/
def fnExactAttackPairingUptoRow : OpenClaim := { program := "ytaajgknmclpbiaa", sum := "209c6fd947208d8a69fcf96e66e8a6323bfca139da0d347a61e81ee8d9580138", func := "loop.example/g00581/laws.FnExactAttackPairing", spec := "fnExactAttackPairing", apart := false, narrowed := true }
def FnExactAttackPairingUptoSaid : Prop := fnExactAttackPairingUptoRow.holds Try.pinned (OpenSpec.upto fnExactAttackPairingSpec)

/-- 'laws.FnExactOpenVault', WHERE WHAT IT READS IS OF BULK AT MOST 1048576: true; the input reads as it did. -/
def fnExactOpenVaultUptoRow : OpenClaim := { program := "ytaajgknmclpbiaa", sum := "209c6fd947208d8a69fcf96e66e8a6323bfca139da0d347a61e81ee8d9580138", func := "loop.example/g00581/laws.FnExactOpenVault", spec := "fnExactOpenVault", apart := false, narrowed := true }
def FnExactOpenVaultUptoSaid : Prop := fnExactOpenVaultUptoRow.holds Try.pinned (OpenSpec.upto fnExactOpenVaultSpec)

/-- 'laws.FnExactEqualHosts', WHERE WHAT IT READS IS OF BULK AT MOST 1048576: true; the input reads as it did. -/
def fnExactEqualHostsUptoRow : OpenClaim := { program := "ytaajgknmclpbiaa", sum := "209c6fd947208d8a69fcf96e66e8a6323bfca139da0d347a61e81ee8d9580138", func := "loop.example/g00581/laws.FnExactEqualHosts", spec := "fnExactEqualHosts", apart := false, narrowed := true }
def FnExactEqualHostsUptoSaid : Prop := fnExactEqualHostsUptoRow.holds Try.pinned (OpenSpec.upto fnExactEqualHostsSpec)

/-- 'laws.FnExactStartHost', WHERE WHAT IT READS IS OF BULK AT MOST 1048576: true; the input reads as it did. -/
def fnExactStartHostUptoRow : OpenClaim := { program := "ytaajgknmclpbiaa", sum := "209c6fd947208d8a69fcf96e66e8a6323bfca139da0d347a61e81ee8d9580138", func := "loop.example/g00581/laws.FnExactStartHost", spec := "fnExactStartHost", apart := false, narrowed := true }
def FnExactStartHostUptoSaid : Prop := fnExactStartHostUptoRow.holds Try.pinned (OpenSpec.upto fnExactStartHostSpec)

/-- 'laws.FnExactEqualVaultHosts', WHERE WHAT IT READS IS OF BULK AT MOST 1048576: true; the input reads as it did. -/
def fnExactEqualVaultHostsUptoRow : OpenClaim := { program := "ytaajgknmclpbiaa", sum := "209c6fd947208d8a69fcf96e66e8a6323bfca139da0d347a61e81ee8d9580138", func := "loop.example/g00581/laws.FnExactEqualVaultHosts", spec := "fnExactEqualVaultHosts", apart := false, narrowed := true }
def FnExactEqualVaultHostsUptoSaid : Prop := fnExactEqualVaultHostsUptoRow.holds Try.pinned (OpenSpec.upto fnExactEqualVaultHostsSpec)

/-- 'laws.FnExactShareEpochs', WHERE WHAT IT READS IS OF BULK AT MOST 1048576: true; the input reads as it did. -/
def fnExactShareEpochsUptoRow : OpenClaim := { program := "ytaajgknmclpbiaa", sum := "209c6fd947208d8a69fcf96e66e8a6323bfca139da0d347a61e81ee8d9580138", func := "loop.example/g00581/laws.FnExactShareEpochs", spec := "fnExactShareEpochs", apart := false, narrowed := true }
def FnExactShareEpochsUptoSaid : Prop := fnExactShareEpochsUptoRow.holds Try.pinned (OpenSpec.upto fnExactShareEpochsSpec)

/-- 'laws.FnExactNewDevice', WHERE WHAT IT READS IS OF BULK AT MOST 1048576: true; the input reads as it did. -/
def fnExactNewDeviceUptoRow : OpenClaim := { program := "ytaajgknmclpbiaa", sum := "209c6fd947208d8a69fcf96e66e8a6323bfca139da0d347a61e81ee8d9580138", func := "loop.example/g00581/laws.FnExactNewDevice", spec := "fnExactNewDevice", apart := false, narrowed := true }
def FnExactNewDeviceUptoSaid : Prop := fnExactNewDeviceUptoRow.holds Try.pinned (OpenSpec.upto fnExactNewDeviceSpec)

end Rows
end Go.Proofs.Ytaajgknmclpbiaa
