/-
  No cell of these rows narrows 'for every input' (looked for: loops, veiled, ifaces, maps, wideKeys, modest, calm, conditions, laid).
  DERIVED. THE GIVEN ROWS OF THIS SEAT. 12 by the template 'for every input the law returns true; each argument reads behind the call as it read before'; 0 by the template 'total and deterministic' (their statements: YtjngmadmdkkcmaaTotals.lean).
  GIVEN WITH THE SEED: the statements are not yours to turn. If you find one false, say at which input.
  Laid BY PROGRAM, IN A SANDBOX (cutbox-rows.mjs): the forced cells as the released guide's own fill.sh prints them over the translation add71d9210d64e18… (all of the seat's roots in one cut). By AI agents, Wed Nov 11 2026. No macro, syntax, notation, axiom, sorry.
-/
import Derived.Test.YtjngmadmdkkcmaaChecked
import GoSem.Claim
import GoSem.ClaimJoined
import GoSem.ClaimMapViews
import Derived.JoinedTies
import Derived.KernelRfl
namespace Go.Proofs.Ytjngmadmdkkcmaa
/- THE CELL 'sum', in the pinned program and in every row, IS THE sha256 OF THE DUMP (.gsa) THAT YtjngmadmdkkcmaaProg.lean LOADS. Nothing in Lean hashes anything: it is a label: what it is worth is what the hold of that sum in a sandbox is worth. -/
noncomputable def Try.pinned : Pinned := { name := "ytjngmadmdkkcmaa", sum := "add71d9210d64e187f1501d9cf958f164d77b84fe0e8c55cca962285abdab193", checked := Try.checked }
namespace Rows
def none {H : Type} : Left H := { results := [], args := [] }

/-- 'laws.FnKeepers': WHATEVER THE INPUT: true; the input reads as it did. -/
def fnKeepersSpec : ChangeSpec := { name := "fnKeepers", fn := fun _ => fun
  | [d] => { results := [.lit (.bool true)], args := [d] }
  | _ => none }
def fnKeepersRow : OpenClaim := { program := "ytjngmadmdkkcmaa", sum := "add71d9210d64e187f1501d9cf958f164d77b84fe0e8c55cca962285abdab193", func := "loop.example/g00581/laws.FnKeepers", spec := "fnKeepers", apart := false }
def FnKeepersSaid : Prop := fnKeepersRow.holds Try.pinned (OpenSpec.ofChange fnKeepersSpec)

/-- ITS FALSE NEIGHBOUR: 'it returns false'. Refute it at one input. -/
def fnKeepersWrong : ChangeSpec := { name := "fnKeepers", fn := fun _ => fun
  | [d] => { results := [.lit (.bool false)], args := [d] }
  | _ => none }
def FnKeepersWrongFalsely : Prop := fnKeepersRow.holds Try.pinned (OpenSpec.ofChange fnKeepersWrong)

/-- 'laws.FnExactAskKeeper': WHATEVER THE INPUT: true; the input reads as it did. -/
def fnExactAskKeeperSpec : ChangeSpec := { name := "fnExactAskKeeper", fn := fun _ => fun
  | [d1, d2] => { results := [.lit (.bool true)], args := [d1, d2] }
  | _ => none }
def fnExactAskKeeperRow : OpenClaim := { program := "ytjngmadmdkkcmaa", sum := "add71d9210d64e187f1501d9cf958f164d77b84fe0e8c55cca962285abdab193", func := "loop.example/g00581/laws.FnExactAskKeeper", spec := "fnExactAskKeeper", apart := false }
def FnExactAskKeeperSaid : Prop := fnExactAskKeeperRow.holds Try.pinned (OpenSpec.ofChange fnExactAskKeeperSpec)

/-- ITS FALSE NEIGHBOUR: 'it returns false'. Refute it at one input. -/
def fnExactAskKeeperWrong : ChangeSpec := { name := "fnExactAskKeeper", fn := fun _ => fun
  | [d1, d2] => { results := [.lit (.bool false)], args := [d1, d2] }
  | _ => none }
def FnExactAskKeeperWrongFalsely : Prop := fnExactAskKeeperRow.holds Try.pinned (OpenSpec.ofChange fnExactAskKeeperWrong)

/-- 'laws.FnExactRollBackHost': WHATEVER THE INPUT: true; the input reads as it did. -/
def fnExactRollBackHostSpec : ChangeSpec := { name := "fnExactRollBackHost", fn := fun _ => fun
  | [d1, d2] => { results := [.lit (.bool true)], args := [d1, d2] }
  | _ => none }
def fnExactRollBackHostRow : OpenClaim := { program := "ytjngmadmdkkcmaa", sum := "add71d9210d64e187f1501d9cf958f164d77b84fe0e8c55cca962285abdab193", func := "loop.example/g00581/laws.FnExactRollBackHost", spec := "fnExactRollBackHost", apart := false }
def FnExactRollBackHostSaid : Prop := fnExactRollBackHostRow.holds Try.pinned (OpenSpec.ofChange fnExactRollBackHostSpec)

/-- ITS FALSE NEIGHBOUR: 'it returns false'. Refute it at one input. -/
def fnExactRollBackHostWrong : ChangeSpec := { name := "fnExactRollBackHost", fn := fun _ => fun
  | [d1, d2] => { results := [.lit (.bool false)], args := [d1, d2] }
  | _ => none }
def FnExactRollBackHostWrongFalsely : Prop := fnExactRollBackHostRow.holds Try.pinned (OpenSpec.ofChange fnExactRollBackHostWrong)

/-- 'laws.FnExactResetGuesses': WHATEVER THE INPUT: true; the input reads as it did. -/
def fnExactResetGuessesSpec : ChangeSpec := { name := "fnExactResetGuesses", fn := fun _ => fun
  | [d1, d2] => { results := [.lit (.bool true)], args := [d1, d2] }
  | _ => none }
def fnExactResetGuessesRow : OpenClaim := { program := "ytjngmadmdkkcmaa", sum := "add71d9210d64e187f1501d9cf958f164d77b84fe0e8c55cca962285abdab193", func := "loop.example/g00581/laws.FnExactResetGuesses", spec := "fnExactResetGuesses", apart := false }
def FnExactResetGuessesSaid : Prop := fnExactResetGuessesRow.holds Try.pinned (OpenSpec.ofChange fnExactResetGuessesSpec)

/-- ITS FALSE NEIGHBOUR: 'it returns false'. Refute it at one input. -/
def fnExactResetGuessesWrong : ChangeSpec := { name := "fnExactResetGuesses", fn := fun _ => fun
  | [d1, d2] => { results := [.lit (.bool false)], args := [d1, d2] }
  | _ => none }
def FnExactResetGuessesWrongFalsely : Prop := fnExactResetGuessesRow.holds Try.pinned (OpenSpec.ofChange fnExactResetGuessesWrong)

/-- 'laws.FnExactStolenShares': WHATEVER THE INPUT: true; the input reads as it did. -/
def fnExactStolenSharesSpec : ChangeSpec := { name := "fnExactStolenShares", fn := fun _ => fun
  | [d1, d2] => { results := [.lit (.bool true)], args := [d1, d2] }
  | _ => none }
def fnExactStolenSharesRow : OpenClaim := { program := "ytjngmadmdkkcmaa", sum := "add71d9210d64e187f1501d9cf958f164d77b84fe0e8c55cca962285abdab193", func := "loop.example/g00581/laws.FnExactStolenShares", spec := "fnExactStolenShares", apart := false }
def FnExactStolenSharesSaid : Prop := fnExactStolenSharesRow.holds Try.pinned (OpenSpec.ofChange fnExactStolenSharesSpec)

/-- ITS FALSE NEIGHBOUR: 'it returns false'. Refute it at one input. -/
def fnExactStolenSharesWrong : ChangeSpec := { name := "fnExactStolenShares", fn := fun _ => fun
  | [d1, d2] => { results := [.lit (.bool false)], args := [d1, d2] }
  | _ => none }
def FnExactStolenSharesWrongFalsely : Prop := fnExactStolenSharesRow.holds Try.pinned (OpenSpec.ofChange fnExactStolenSharesWrong)

/-- 'laws.FnResets': WHATEVER THE INPUT: true; the input reads as it did. -/
def fnResetsSpec : ChangeSpec := { name := "fnResets", fn := fun _ => fun
  | [d] => { results := [.lit (.bool true)], args := [d] }
  | _ => none }
def fnResetsRow : OpenClaim := { program := "ytjngmadmdkkcmaa", sum := "add71d9210d64e187f1501d9cf958f164d77b84fe0e8c55cca962285abdab193", func := "loop.example/g00581/laws.FnResets", spec := "fnResets", apart := false }
def FnResetsSaid : Prop := fnResetsRow.holds Try.pinned (OpenSpec.ofChange fnResetsSpec)

/-- ITS FALSE NEIGHBOUR: 'it returns false'. Refute it at one input. -/
def fnResetsWrong : ChangeSpec := { name := "fnResets", fn := fun _ => fun
  | [d] => { results := [.lit (.bool false)], args := [d] }
  | _ => none }
def FnResetsWrongFalsely : Prop := fnResetsRow.holds Try.pinned (OpenSpec.ofChange fnResetsWrong)

/-- 'laws.FnExactSameSecret': WHATEVER THE INPUT: true; the input reads as it did. -/
def fnExactSameSecretSpec : ChangeSpec := { name := "fnExactSameSecret", fn := fun _ => fun
  | [d1, d2] => { results := [.lit (.bool true)], args := [d1, d2] }
  | _ => none }
def fnExactSameSecretRow : OpenClaim := { program := "ytjngmadmdkkcmaa", sum := "add71d9210d64e187f1501d9cf958f164d77b84fe0e8c55cca962285abdab193", func := "loop.example/g00581/laws.FnExactSameSecret", spec := "fnExactSameSecret", apart := false }
def FnExactSameSecretSaid : Prop := fnExactSameSecretRow.holds Try.pinned (OpenSpec.ofChange fnExactSameSecretSpec)

/-- ITS FALSE NEIGHBOUR: 'it returns false'. Refute it at one input. -/
def fnExactSameSecretWrong : ChangeSpec := { name := "fnExactSameSecret", fn := fun _ => fun
  | [d1, d2] => { results := [.lit (.bool false)], args := [d1, d2] }
  | _ => none }
def FnExactSameSecretWrongFalsely : Prop := fnExactSameSecretRow.holds Try.pinned (OpenSpec.ofChange fnExactSameSecretWrong)

/-- 'laws.FnExactAskHost': WHATEVER THE INPUT: true; the input reads as it did. -/
def fnExactAskHostSpec : ChangeSpec := { name := "fnExactAskHost", fn := fun _ => fun
  | [d1, d2] => { results := [.lit (.bool true)], args := [d1, d2] }
  | _ => none }
def fnExactAskHostRow : OpenClaim := { program := "ytjngmadmdkkcmaa", sum := "add71d9210d64e187f1501d9cf958f164d77b84fe0e8c55cca962285abdab193", func := "loop.example/g00581/laws.FnExactAskHost", spec := "fnExactAskHost", apart := false }
def FnExactAskHostSaid : Prop := fnExactAskHostRow.holds Try.pinned (OpenSpec.ofChange fnExactAskHostSpec)

/-- ITS FALSE NEIGHBOUR: 'it returns false'. Refute it at one input. -/
def fnExactAskHostWrong : ChangeSpec := { name := "fnExactAskHost", fn := fun _ => fun
  | [d1, d2] => { results := [.lit (.bool false)], args := [d1, d2] }
  | _ => none }
def FnExactAskHostWrongFalsely : Prop := fnExactAskHostRow.holds Try.pinned (OpenSpec.ofChange fnExactAskHostWrong)

/-- 'laws.FnExactMixedSecret': WHATEVER THE INPUT: true; the input reads as it did. -/
def fnExactMixedSecretSpec : ChangeSpec := { name := "fnExactMixedSecret", fn := fun _ => fun
  | [d1, d2, d3, d4] => { results := [.lit (.bool true)], args := [d1, d2, d3, d4] }
  | _ => none }
def fnExactMixedSecretRow : OpenClaim := { program := "ytjngmadmdkkcmaa", sum := "add71d9210d64e187f1501d9cf958f164d77b84fe0e8c55cca962285abdab193", func := "loop.example/g00581/laws.FnExactMixedSecret", spec := "fnExactMixedSecret", apart := false }
def FnExactMixedSecretSaid : Prop := fnExactMixedSecretRow.holds Try.pinned (OpenSpec.ofChange fnExactMixedSecretSpec)

/-- ITS FALSE NEIGHBOUR: 'it returns false'. Refute it at one input. -/
def fnExactMixedSecretWrong : ChangeSpec := { name := "fnExactMixedSecret", fn := fun _ => fun
  | [d1, d2, d3, d4] => { results := [.lit (.bool false)], args := [d1, d2, d3, d4] }
  | _ => none }
def FnExactMixedSecretWrongFalsely : Prop := fnExactMixedSecretRow.holds Try.pinned (OpenSpec.ofChange fnExactMixedSecretWrong)

/-- 'laws.FnExactRenewHosts': WHATEVER THE INPUT: true; the input reads as it did. -/
def fnExactRenewHostsSpec : ChangeSpec := { name := "fnExactRenewHosts", fn := fun _ => fun
  | [d1, d2] => { results := [.lit (.bool true)], args := [d1, d2] }
  | _ => none }
def fnExactRenewHostsRow : OpenClaim := { program := "ytjngmadmdkkcmaa", sum := "add71d9210d64e187f1501d9cf958f164d77b84fe0e8c55cca962285abdab193", func := "loop.example/g00581/laws.FnExactRenewHosts", spec := "fnExactRenewHosts", apart := false }
def FnExactRenewHostsSaid : Prop := fnExactRenewHostsRow.holds Try.pinned (OpenSpec.ofChange fnExactRenewHostsSpec)

/-- ITS FALSE NEIGHBOUR: 'it returns false'. Refute it at one input. -/
def fnExactRenewHostsWrong : ChangeSpec := { name := "fnExactRenewHosts", fn := fun _ => fun
  | [d1, d2] => { results := [.lit (.bool false)], args := [d1, d2] }
  | _ => none }
def FnExactRenewHostsWrongFalsely : Prop := fnExactRenewHostsRow.holds Try.pinned (OpenSpec.ofChange fnExactRenewHostsWrong)

/-- 'laws.FnExactReplaceHost': WHATEVER THE INPUT: true; the input reads as it did. -/
def fnExactReplaceHostSpec : ChangeSpec := { name := "fnExactReplaceHost", fn := fun _ => fun
  | [d1, d2, d3] => { results := [.lit (.bool true)], args := [d1, d2, d3] }
  | _ => none }
def fnExactReplaceHostRow : OpenClaim := { program := "ytjngmadmdkkcmaa", sum := "add71d9210d64e187f1501d9cf958f164d77b84fe0e8c55cca962285abdab193", func := "loop.example/g00581/laws.FnExactReplaceHost", spec := "fnExactReplaceHost", apart := false }
def FnExactReplaceHostSaid : Prop := fnExactReplaceHostRow.holds Try.pinned (OpenSpec.ofChange fnExactReplaceHostSpec)

/-- ITS FALSE NEIGHBOUR: 'it returns false'. Refute it at one input. -/
def fnExactReplaceHostWrong : ChangeSpec := { name := "fnExactReplaceHost", fn := fun _ => fun
  | [d1, d2, d3] => { results := [.lit (.bool false)], args := [d1, d2, d3] }
  | _ => none }
def FnExactReplaceHostWrongFalsely : Prop := fnExactReplaceHostRow.holds Try.pinned (OpenSpec.ofChange fnExactReplaceHostWrong)

/-- 'laws.FnReplacedHosts': WHATEVER THE INPUT: true; the input reads as it did. -/
def fnReplacedHostsSpec : ChangeSpec := { name := "fnReplacedHosts", fn := fun _ => fun
  | [d] => { results := [.lit (.bool true)], args := [d] }
  | _ => none }
def fnReplacedHostsRow : OpenClaim := { program := "ytjngmadmdkkcmaa", sum := "add71d9210d64e187f1501d9cf958f164d77b84fe0e8c55cca962285abdab193", func := "loop.example/g00581/laws.FnReplacedHosts", spec := "fnReplacedHosts", apart := false }
def FnReplacedHostsSaid : Prop := fnReplacedHostsRow.holds Try.pinned (OpenSpec.ofChange fnReplacedHostsSpec)

/-- ITS FALSE NEIGHBOUR: 'it returns false'. Refute it at one input. -/
def fnReplacedHostsWrong : ChangeSpec := { name := "fnReplacedHosts", fn := fun _ => fun
  | [d] => { results := [.lit (.bool false)], args := [d] }
  | _ => none }
def FnReplacedHostsWrongFalsely : Prop := fnReplacedHostsRow.holds Try.pinned (OpenSpec.ofChange fnReplacedHostsWrong)

/- THE SECOND FORM. 'bulk': how many values and letters a reading holds, each counted each time it is reached (what is shared counts as often as it is met; a slice's spare places count too). A statement '..UptoSaid' is the law's where the arguments, and the package variables that the reading takes, are together of bulk at most 1048576: NARROWER than '..Said'. Prove '..Said' where nothing that the law and all that it calls make is longer than what came in: it says more and counts as full. Else prove '..UptoSaid'. A law counts once. -/
mutual
def uptoBulk {H : Type} : DataW H → Nat
  | .lit (.string bytes) => bytes.length + 1
  | .lit _ => 1
  | .nil => 1
  | .ptr d => uptoBulk d + 1
  | .slice elems spare => uptoBulkAll elems + uptoBulkAll spare + 1
  | .agg parts => uptoBulkAll parts + 1
  | .iface _ d => uptoBulk d + 1
  | .map entries => uptoBulkEntries entries + 1
  | .held _ => 1
def uptoBulkAll {H : Type} : List (DataW H) → Nat
  | [] => 0
  | d :: r => uptoBulk d + uptoBulkAll r
def uptoBulkEntries {H : Type} : List (Lit × DataW H) → Nat
  | [] => 0
  | x :: r => uptoBulkEntry x + uptoBulkEntries r
def uptoBulkEntry {H : Type} : Lit × DataW H → Nat
  | (.string bytes, d) => bytes.length + uptoBulk d + 1
  | (_, d) => uptoBulk d + 1
 end
def uptoSmall : (H : Type) → List (DataW H) → Bool := fun _ ds => decide (uptoBulkAll ds ≤ 1048576)
def OpenSpec.upto (s : _root_.Go.ChangeSpec) : _root_.Go.OpenSpec := { _root_.Go.OpenSpec.ofChange s with cond := some uptoSmall }

/-- 'laws.FnKeepers', WHERE WHAT IT READS IS OF BULK AT MOST 1048576: true; the input reads as it did. -/
def fnKeepersUptoRow : OpenClaim := { program := "ytjngmadmdkkcmaa", sum := "add71d9210d64e187f1501d9cf958f164d77b84fe0e8c55cca962285abdab193", func := "loop.example/g00581/laws.FnKeepers", spec := "fnKeepers", apart := false, narrowed := true }
def FnKeepersUptoSaid : Prop := fnKeepersUptoRow.holds Try.pinned (OpenSpec.upto fnKeepersSpec)

/-- 'laws.FnExactAskKeeper', WHERE WHAT IT READS IS OF BULK AT MOST 1048576: true; the input reads as it did. -/
def fnExactAskKeeperUptoRow : OpenClaim := { program := "ytjngmadmdkkcmaa", sum := "add71d9210d64e187f1501d9cf958f164d77b84fe0e8c55cca962285abdab193", func := "loop.example/g00581/laws.FnExactAskKeeper", spec := "fnExactAskKeeper", apart := false, narrowed := true }
def FnExactAskKeeperUptoSaid : Prop := fnExactAskKeeperUptoRow.holds Try.pinned (OpenSpec.upto fnExactAskKeeperSpec)

/-- 'laws.FnExactRollBackHost', WHERE WHAT IT READS IS OF BULK AT MOST 1048576: true; the input reads as it did. -/
def fnExactRollBackHostUptoRow : OpenClaim := { program := "ytjngmadmdkkcmaa", sum := "add71d9210d64e187f1501d9cf958f164d77b84fe0e8c55cca962285abdab193", func := "loop.example/g00581/laws.FnExactRollBackHost", spec := "fnExactRollBackHost", apart := false, narrowed := true }
def FnExactRollBackHostUptoSaid : Prop := fnExactRollBackHostUptoRow.holds Try.pinned (OpenSpec.upto fnExactRollBackHostSpec)

/-- 'laws.FnExactResetGuesses', WHERE WHAT IT READS IS OF BULK AT MOST 1048576: true; the input reads as it did. -/
def fnExactResetGuessesUptoRow : OpenClaim := { program := "ytjngmadmdkkcmaa", sum := "add71d9210d64e187f1501d9cf958f164d77b84fe0e8c55cca962285abdab193", func := "loop.example/g00581/laws.FnExactResetGuesses", spec := "fnExactResetGuesses", apart := false, narrowed := true }
def FnExactResetGuessesUptoSaid : Prop := fnExactResetGuessesUptoRow.holds Try.pinned (OpenSpec.upto fnExactResetGuessesSpec)

/-- 'laws.FnExactStolenShares', WHERE WHAT IT READS IS OF BULK AT MOST 1048576: true; the input reads as it did. -/
def fnExactStolenSharesUptoRow : OpenClaim := { program := "ytjngmadmdkkcmaa", sum := "add71d9210d64e187f1501d9cf958f164d77b84fe0e8c55cca962285abdab193", func := "loop.example/g00581/laws.FnExactStolenShares", spec := "fnExactStolenShares", apart := false, narrowed := true }
def FnExactStolenSharesUptoSaid : Prop := fnExactStolenSharesUptoRow.holds Try.pinned (OpenSpec.upto fnExactStolenSharesSpec)

/-- 'laws.FnResets', WHERE WHAT IT READS IS OF BULK AT MOST 1048576: true; the input reads as it did. -/
def fnResetsUptoRow : OpenClaim := { program := "ytjngmadmdkkcmaa", sum := "add71d9210d64e187f1501d9cf958f164d77b84fe0e8c55cca962285abdab193", func := "loop.example/g00581/laws.FnResets", spec := "fnResets", apart := false, narrowed := true }
def FnResetsUptoSaid : Prop := fnResetsUptoRow.holds Try.pinned (OpenSpec.upto fnResetsSpec)

/-- 'laws.FnExactSameSecret', WHERE WHAT IT READS IS OF BULK AT MOST 1048576: true; the input reads as it did. -/
def fnExactSameSecretUptoRow : OpenClaim := { program := "ytjngmadmdkkcmaa", sum := "add71d9210d64e187f1501d9cf958f164d77b84fe0e8c55cca962285abdab193", func := "loop.example/g00581/laws.FnExactSameSecret", spec := "fnExactSameSecret", apart := false, narrowed := true }
def FnExactSameSecretUptoSaid : Prop := fnExactSameSecretUptoRow.holds Try.pinned (OpenSpec.upto fnExactSameSecretSpec)

/-- 'laws.FnExactAskHost', WHERE WHAT IT READS IS OF BULK AT MOST 1048576: true; the input reads as it did. -/
def fnExactAskHostUptoRow : OpenClaim := { program := "ytjngmadmdkkcmaa", sum := "add71d9210d64e187f1501d9cf958f164d77b84fe0e8c55cca962285abdab193", func := "loop.example/g00581/laws.FnExactAskHost", spec := "fnExactAskHost", apart := false, narrowed := true }
def FnExactAskHostUptoSaid : Prop := fnExactAskHostUptoRow.holds Try.pinned (OpenSpec.upto fnExactAskHostSpec)

/-- 'laws.FnExactMixedSecret', WHERE WHAT IT READS IS OF BULK AT MOST 1048576: true; the input reads as it did. -/
def fnExactMixedSecretUptoRow : OpenClaim := { program := "ytjngmadmdkkcmaa", sum := "add71d9210d64e187f1501d9cf958f164d77b84fe0e8c55cca962285abdab193", func := "loop.example/g00581/laws.FnExactMixedSecret", spec := "fnExactMixedSecret", apart := false, narrowed := true }
def FnExactMixedSecretUptoSaid : Prop := fnExactMixedSecretUptoRow.holds Try.pinned (OpenSpec.upto fnExactMixedSecretSpec)

/-- 'laws.FnExactRenewHosts', WHERE WHAT IT READS IS OF BULK AT MOST 1048576: true; the input reads as it did. -/
def fnExactRenewHostsUptoRow : OpenClaim := { program := "ytjngmadmdkkcmaa", sum := "add71d9210d64e187f1501d9cf958f164d77b84fe0e8c55cca962285abdab193", func := "loop.example/g00581/laws.FnExactRenewHosts", spec := "fnExactRenewHosts", apart := false, narrowed := true }
def FnExactRenewHostsUptoSaid : Prop := fnExactRenewHostsUptoRow.holds Try.pinned (OpenSpec.upto fnExactRenewHostsSpec)

/-- 'laws.FnExactReplaceHost', WHERE WHAT IT READS IS OF BULK AT MOST 1048576: true; the input reads as it did. -/
def fnExactReplaceHostUptoRow : OpenClaim := { program := "ytjngmadmdkkcmaa", sum := "add71d9210d64e187f1501d9cf958f164d77b84fe0e8c55cca962285abdab193", func := "loop.example/g00581/laws.FnExactReplaceHost", spec := "fnExactReplaceHost", apart := false, narrowed := true }
def FnExactReplaceHostUptoSaid : Prop := fnExactReplaceHostUptoRow.holds Try.pinned (OpenSpec.upto fnExactReplaceHostSpec)

/-- 'laws.FnReplacedHosts', WHERE WHAT IT READS IS OF BULK AT MOST 1048576: true; the input reads as it did. -/
def fnReplacedHostsUptoRow : OpenClaim := { program := "ytjngmadmdkkcmaa", sum := "add71d9210d64e187f1501d9cf958f164d77b84fe0e8c55cca962285abdab193", func := "loop.example/g00581/laws.FnReplacedHosts", spec := "fnReplacedHosts", apart := false, narrowed := true }
def FnReplacedHostsUptoSaid : Prop := fnReplacedHostsUptoRow.holds Try.pinned (OpenSpec.upto fnReplacedHostsSpec)

end Rows
end Go.Proofs.Ytjngmadmdkkcmaa
