/-
  No cell of these rows narrows 'for every input' (looked for: loops, veiled, ifaces, maps, wideKeys, modest, calm, conditions, laid).
  DERIVED. THE GIVEN ROWS OF THIS SEAT. 12 by the template 'for every input the law returns true; each argument reads behind the call as it read before'; 0 by the template 'total and deterministic' (their statements: YtkmndimmglghoaaTotals.lean).
  GIVEN WITH THE SEED: the statements are not yours to turn. If you find one false, say at which input.
  Laid BY PROGRAM, IN A SANDBOX (cutbox-rows.mjs): the forced cells as the released guide's own fill.sh prints them over the translation be4def63fe443fc2… (all of the seat's roots in one cut). By AI agents, Wed Nov 11 2026. No macro, syntax, notation, axiom, sorry.
-/
import Derived.Test.YtkmndimmglghoaaChecked
import GoSem.Claim
import GoSem.ClaimJoined
import GoSem.ClaimMapViews
import Derived.JoinedTies
import Derived.KernelRfl
namespace Go.Proofs.Ytkmndimmglghoaa
/- THE CELL 'sum', in the pinned program and in every row, IS THE sha256 OF THE DUMP (.gsa) THAT YtkmndimmglghoaaProg.lean LOADS. Nothing in Lean hashes anything: it is a label: what it is worth is what the hold of that sum in a sandbox is worth. -/
noncomputable def Try.pinned : Pinned := { name := "ytkmndimmglghoaa", sum := "be4def63fe443fc24b04381ad3ecf0e8ab470ba8aed82b3a62377d175a75a164", checked := Try.checked }
namespace Rows
def none {H : Type} : Left H := { results := [], args := [] }

/-- 'laws.FnExactEqualDevices': WHATEVER THE INPUT: true; the input reads as it did. -/
def fnExactEqualDevicesSpec : ChangeSpec := { name := "fnExactEqualDevices", fn := fun _ => fun
  | [d1, d2] => { results := [.lit (.bool true)], args := [d1, d2] }
  | _ => none }
def fnExactEqualDevicesRow : OpenClaim := { program := "ytkmndimmglghoaa", sum := "be4def63fe443fc24b04381ad3ecf0e8ab470ba8aed82b3a62377d175a75a164", func := "loop.example/g00581/laws.FnExactEqualDevices", spec := "fnExactEqualDevices", apart := false }
def FnExactEqualDevicesSaid : Prop := fnExactEqualDevicesRow.holds Try.pinned (OpenSpec.ofChange fnExactEqualDevicesSpec)

/-- ITS FALSE NEIGHBOUR: 'it returns false'. Refute it at one input. -/
def fnExactEqualDevicesWrong : ChangeSpec := { name := "fnExactEqualDevices", fn := fun _ => fun
  | [d1, d2] => { results := [.lit (.bool false)], args := [d1, d2] }
  | _ => none }
def FnExactEqualDevicesWrongFalsely : Prop := fnExactEqualDevicesRow.holds Try.pinned (OpenSpec.ofChange fnExactEqualDevicesWrong)

/-- 'laws.FnExactCoversLog': WHATEVER THE INPUT: true; the input reads as it did. -/
def fnExactCoversLogSpec : ChangeSpec := { name := "fnExactCoversLog", fn := fun _ => fun
  | [d1, d2] => { results := [.lit (.bool true)], args := [d1, d2] }
  | _ => none }
def fnExactCoversLogRow : OpenClaim := { program := "ytkmndimmglghoaa", sum := "be4def63fe443fc24b04381ad3ecf0e8ab470ba8aed82b3a62377d175a75a164", func := "loop.example/g00581/laws.FnExactCoversLog", spec := "fnExactCoversLog", apart := false }
def FnExactCoversLogSaid : Prop := fnExactCoversLogRow.holds Try.pinned (OpenSpec.ofChange fnExactCoversLogSpec)

/-- ITS FALSE NEIGHBOUR: 'it returns false'. Refute it at one input. -/
def fnExactCoversLogWrong : ChangeSpec := { name := "fnExactCoversLog", fn := fun _ => fun
  | [d1, d2] => { results := [.lit (.bool false)], args := [d1, d2] }
  | _ => none }
def FnExactCoversLogWrongFalsely : Prop := fnExactCoversLogRow.holds Try.pinned (OpenSpec.ofChange fnExactCoversLogWrong)

/-- 'laws.FnExactEqualClouds': WHATEVER THE INPUT: true; the input reads as it did. -/
def fnExactEqualCloudsSpec : ChangeSpec := { name := "fnExactEqualClouds", fn := fun _ => fun
  | [d1, d2] => { results := [.lit (.bool true)], args := [d1, d2] }
  | _ => none }
def fnExactEqualCloudsRow : OpenClaim := { program := "ytkmndimmglghoaa", sum := "be4def63fe443fc24b04381ad3ecf0e8ab470ba8aed82b3a62377d175a75a164", func := "loop.example/g00581/laws.FnExactEqualClouds", spec := "fnExactEqualClouds", apart := false }
def FnExactEqualCloudsSaid : Prop := fnExactEqualCloudsRow.holds Try.pinned (OpenSpec.ofChange fnExactEqualCloudsSpec)

/-- ITS FALSE NEIGHBOUR: 'it returns false'. Refute it at one input. -/
def fnExactEqualCloudsWrong : ChangeSpec := { name := "fnExactEqualClouds", fn := fun _ => fun
  | [d1, d2] => { results := [.lit (.bool false)], args := [d1, d2] }
  | _ => none }
def FnExactEqualCloudsWrongFalsely : Prop := fnExactEqualCloudsRow.holds Try.pinned (OpenSpec.ofChange fnExactEqualCloudsWrong)

/-- 'laws.FnExactOpenEpochBoxes': WHATEVER THE INPUT: true; the input reads as it did. -/
def fnExactOpenEpochBoxesSpec : ChangeSpec := { name := "fnExactOpenEpochBoxes", fn := fun _ => fun
  | [d1, d2] => { results := [.lit (.bool true)], args := [d1, d2] }
  | _ => none }
def fnExactOpenEpochBoxesRow : OpenClaim := { program := "ytkmndimmglghoaa", sum := "be4def63fe443fc24b04381ad3ecf0e8ab470ba8aed82b3a62377d175a75a164", func := "loop.example/g00581/laws.FnExactOpenEpochBoxes", spec := "fnExactOpenEpochBoxes", apart := false }
def FnExactOpenEpochBoxesSaid : Prop := fnExactOpenEpochBoxesRow.holds Try.pinned (OpenSpec.ofChange fnExactOpenEpochBoxesSpec)

/-- ITS FALSE NEIGHBOUR: 'it returns false'. Refute it at one input. -/
def fnExactOpenEpochBoxesWrong : ChangeSpec := { name := "fnExactOpenEpochBoxes", fn := fun _ => fun
  | [d1, d2] => { results := [.lit (.bool false)], args := [d1, d2] }
  | _ => none }
def FnExactOpenEpochBoxesWrongFalsely : Prop := fnExactOpenEpochBoxesRow.holds Try.pinned (OpenSpec.ofChange fnExactOpenEpochBoxesWrong)

/-- 'laws.FnExactFetchBundle': WHATEVER THE INPUT: true; the input reads as it did. -/
def fnExactFetchBundleSpec : ChangeSpec := { name := "fnExactFetchBundle", fn := fun _ => fun
  | [d1, d2] => { results := [.lit (.bool true)], args := [d1, d2] }
  | _ => none }
def fnExactFetchBundleRow : OpenClaim := { program := "ytkmndimmglghoaa", sum := "be4def63fe443fc24b04381ad3ecf0e8ab470ba8aed82b3a62377d175a75a164", func := "loop.example/g00581/laws.FnExactFetchBundle", spec := "fnExactFetchBundle", apart := false }
def FnExactFetchBundleSaid : Prop := fnExactFetchBundleRow.holds Try.pinned (OpenSpec.ofChange fnExactFetchBundleSpec)

/-- ITS FALSE NEIGHBOUR: 'it returns false'. Refute it at one input. -/
def fnExactFetchBundleWrong : ChangeSpec := { name := "fnExactFetchBundle", fn := fun _ => fun
  | [d1, d2] => { results := [.lit (.bool false)], args := [d1, d2] }
  | _ => none }
def FnExactFetchBundleWrongFalsely : Prop := fnExactFetchBundleRow.holds Try.pinned (OpenSpec.ofChange fnExactFetchBundleWrong)

/-- 'laws.FnExactFetchLog': WHATEVER THE INPUT: true; the input reads as it did. -/
def fnExactFetchLogSpec : ChangeSpec := { name := "fnExactFetchLog", fn := fun _ => fun
  | [d1, d2] => { results := [.lit (.bool true)], args := [d1, d2] }
  | _ => none }
def fnExactFetchLogRow : OpenClaim := { program := "ytkmndimmglghoaa", sum := "be4def63fe443fc24b04381ad3ecf0e8ab470ba8aed82b3a62377d175a75a164", func := "loop.example/g00581/laws.FnExactFetchLog", spec := "fnExactFetchLog", apart := false }
def FnExactFetchLogSaid : Prop := fnExactFetchLogRow.holds Try.pinned (OpenSpec.ofChange fnExactFetchLogSpec)

/-- ITS FALSE NEIGHBOUR: 'it returns false'. Refute it at one input. -/
def fnExactFetchLogWrong : ChangeSpec := { name := "fnExactFetchLog", fn := fun _ => fun
  | [d1, d2] => { results := [.lit (.bool false)], args := [d1, d2] }
  | _ => none }
def FnExactFetchLogWrongFalsely : Prop := fnExactFetchLogRow.holds Try.pinned (OpenSpec.ofChange fnExactFetchLogWrong)

/-- 'laws.FnExactCloudView': WHATEVER THE INPUT: true; the input reads as it did. -/
def fnExactCloudViewSpec : ChangeSpec := { name := "fnExactCloudView", fn := fun _ => fun
  | [d] => { results := [.lit (.bool true)], args := [d] }
  | _ => none }
def fnExactCloudViewRow : OpenClaim := { program := "ytkmndimmglghoaa", sum := "be4def63fe443fc24b04381ad3ecf0e8ab470ba8aed82b3a62377d175a75a164", func := "loop.example/g00581/laws.FnExactCloudView", spec := "fnExactCloudView", apart := false }
def FnExactCloudViewSaid : Prop := fnExactCloudViewRow.holds Try.pinned (OpenSpec.ofChange fnExactCloudViewSpec)

/-- ITS FALSE NEIGHBOUR: 'it returns false'. Refute it at one input. -/
def fnExactCloudViewWrong : ChangeSpec := { name := "fnExactCloudView", fn := fun _ => fun
  | [d] => { results := [.lit (.bool false)], args := [d] }
  | _ => none }
def FnExactCloudViewWrongFalsely : Prop := fnExactCloudViewRow.holds Try.pinned (OpenSpec.ofChange fnExactCloudViewWrong)

/-- 'laws.FnExactUploadBundle': WHATEVER THE INPUT: true; the input reads as it did. -/
def fnExactUploadBundleSpec : ChangeSpec := { name := "fnExactUploadBundle", fn := fun _ => fun
  | [d1, d2] => { results := [.lit (.bool true)], args := [d1, d2] }
  | _ => none }
def fnExactUploadBundleRow : OpenClaim := { program := "ytkmndimmglghoaa", sum := "be4def63fe443fc24b04381ad3ecf0e8ab470ba8aed82b3a62377d175a75a164", func := "loop.example/g00581/laws.FnExactUploadBundle", spec := "fnExactUploadBundle", apart := false }
def FnExactUploadBundleSaid : Prop := fnExactUploadBundleRow.holds Try.pinned (OpenSpec.ofChange fnExactUploadBundleSpec)

/-- ITS FALSE NEIGHBOUR: 'it returns false'. Refute it at one input. -/
def fnExactUploadBundleWrong : ChangeSpec := { name := "fnExactUploadBundle", fn := fun _ => fun
  | [d1, d2] => { results := [.lit (.bool false)], args := [d1, d2] }
  | _ => none }
def FnExactUploadBundleWrongFalsely : Prop := fnExactUploadBundleRow.holds Try.pinned (OpenSpec.ofChange fnExactUploadBundleWrong)

/-- 'laws.FnNewClouds': WHATEVER THE INPUT: true; the input reads as it did. -/
def fnNewCloudsSpec : ChangeSpec := { name := "fnNewClouds", fn := fun _ => fun
  | [d] => { results := [.lit (.bool true)], args := [d] }
  | _ => none }
def fnNewCloudsRow : OpenClaim := { program := "ytkmndimmglghoaa", sum := "be4def63fe443fc24b04381ad3ecf0e8ab470ba8aed82b3a62377d175a75a164", func := "loop.example/g00581/laws.FnNewClouds", spec := "fnNewClouds", apart := false }
def FnNewCloudsSaid : Prop := fnNewCloudsRow.holds Try.pinned (OpenSpec.ofChange fnNewCloudsSpec)

/-- ITS FALSE NEIGHBOUR: 'it returns false'. Refute it at one input. -/
def fnNewCloudsWrong : ChangeSpec := { name := "fnNewClouds", fn := fun _ => fun
  | [d] => { results := [.lit (.bool false)], args := [d] }
  | _ => none }
def FnNewCloudsWrongFalsely : Prop := fnNewCloudsRow.holds Try.pinned (OpenSpec.ofChange fnNewCloudsWrong)

/-- 'laws.FnExactNewCloud': WHATEVER THE INPUT: true; the input reads as it did. -/
def fnExactNewCloudSpec : ChangeSpec := { name := "fnExactNewCloud", fn := fun _ => fun
  | [d1, d2] => { results := [.lit (.bool true)], args := [d1, d2] }
  | _ => none }
def fnExactNewCloudRow : OpenClaim := { program := "ytkmndimmglghoaa", sum := "be4def63fe443fc24b04381ad3ecf0e8ab470ba8aed82b3a62377d175a75a164", func := "loop.example/g00581/laws.FnExactNewCloud", spec := "fnExactNewCloud", apart := false }
def FnExactNewCloudSaid : Prop := fnExactNewCloudRow.holds Try.pinned (OpenSpec.ofChange fnExactNewCloudSpec)

/-- ITS FALSE NEIGHBOUR: 'it returns false'. Refute it at one input. -/
def fnExactNewCloudWrong : ChangeSpec := { name := "fnExactNewCloud", fn := fun _ => fun
  | [d1, d2] => { results := [.lit (.bool false)], args := [d1, d2] }
  | _ => none }
def FnExactNewCloudWrongFalsely : Prop := fnExactNewCloudRow.holds Try.pinned (OpenSpec.ofChange fnExactNewCloudWrong)

/-- 'laws.FnExactMakeEpochBoxes': WHATEVER THE INPUT: true; the input reads as it did. -/
def fnExactMakeEpochBoxesSpec : ChangeSpec := { name := "fnExactMakeEpochBoxes", fn := fun _ => fun
  | [d1, d2, d3] => { results := [.lit (.bool true)], args := [d1, d2, d3] }
  | _ => none }
def fnExactMakeEpochBoxesRow : OpenClaim := { program := "ytkmndimmglghoaa", sum := "be4def63fe443fc24b04381ad3ecf0e8ab470ba8aed82b3a62377d175a75a164", func := "loop.example/g00581/laws.FnExactMakeEpochBoxes", spec := "fnExactMakeEpochBoxes", apart := false }
def FnExactMakeEpochBoxesSaid : Prop := fnExactMakeEpochBoxesRow.holds Try.pinned (OpenSpec.ofChange fnExactMakeEpochBoxesSpec)

/-- ITS FALSE NEIGHBOUR: 'it returns false'. Refute it at one input. -/
def fnExactMakeEpochBoxesWrong : ChangeSpec := { name := "fnExactMakeEpochBoxes", fn := fun _ => fun
  | [d1, d2, d3] => { results := [.lit (.bool false)], args := [d1, d2, d3] }
  | _ => none }
def FnExactMakeEpochBoxesWrongFalsely : Prop := fnExactMakeEpochBoxesRow.holds Try.pinned (OpenSpec.ofChange fnExactMakeEpochBoxesWrong)

/-- 'laws.FnExactWriteDevice': WHATEVER THE INPUT: true; the input reads as it did. -/
def fnExactWriteDeviceSpec : ChangeSpec := { name := "fnExactWriteDevice", fn := fun _ => fun
  | [d] => { results := [.lit (.bool true)], args := [d] }
  | _ => none }
def fnExactWriteDeviceRow : OpenClaim := { program := "ytkmndimmglghoaa", sum := "be4def63fe443fc24b04381ad3ecf0e8ab470ba8aed82b3a62377d175a75a164", func := "loop.example/g00581/laws.FnExactWriteDevice", spec := "fnExactWriteDevice", apart := false }
def FnExactWriteDeviceSaid : Prop := fnExactWriteDeviceRow.holds Try.pinned (OpenSpec.ofChange fnExactWriteDeviceSpec)

/-- ITS FALSE NEIGHBOUR: 'it returns false'. Refute it at one input. -/
def fnExactWriteDeviceWrong : ChangeSpec := { name := "fnExactWriteDevice", fn := fun _ => fun
  | [d] => { results := [.lit (.bool false)], args := [d] }
  | _ => none }
def FnExactWriteDeviceWrongFalsely : Prop := fnExactWriteDeviceRow.holds Try.pinned (OpenSpec.ofChange fnExactWriteDeviceWrong)

/- THE SECOND FORM. 'bulk': how many values and letters a reading holds, each counted each time it is reached (what is shared counts as often as it is met; a slice's spare places count too). A statement '..UptoSaid' is the law's where the arguments, and the package variables that the reading takes, are together of bulk at most 1048576: NARROWER than '..Said'. Prove '..Said' where nothing that the law and all that it calls make is longer than what came in: it says more and counts as full. Else prove '..UptoSaid'. A law counts once. -/
mutual
def uptoBulk {H : Type} : DataW H → Nat
  | .lit (.string bytes) => bytes.length + 1
  | .lit _ => 1
  | .nil => 1
  | .ptr d => uptoBulk d + 1
  | .slice elems spare => uptoBulkAll elems + uptoBulkAll spare + 1
  | .agg parts => uptoBulkAll parts + 1
  | .iface _ d => uptoBulk d + 1
  | .map entries => uptoBulkEntries entries + 1
  | .held _ => 1
def uptoBulkAll {H : Type} : List (DataW H) → Nat
  | [] => 0
  | d :: r => uptoBulk d + uptoBulkAll r
def uptoBulkEntries {H : Type} : List (Lit × DataW H) → Nat
  | [] => 0
  | x :: r => uptoBulkEntry x + uptoBulkEntries r
def uptoBulkEntry {H : Type} : Lit × DataW H → Nat
  | (.string bytes, d) => bytes.length + uptoBulk d + 1
  | (_, d) => uptoBulk d + 1
 end
def uptoSmall : (H : Type) → List (DataW H) → Bool := fun _ ds => decide (uptoBulkAll ds ≤ 1048576)
def OpenSpec.upto (s : _root_.Go.ChangeSpec) : _root_.Go.OpenSpec := { _root_.Go.OpenSpec.ofChange s with cond := some uptoSmall }

/-- 'laws.FnExactEqualDevices', WHERE WHAT IT READS IS OF BULK AT MOST 1048576: true; the input reads as it did. -/
def fnExactEqualDevicesUptoRow : OpenClaim := { program := "ytkmndimmglghoaa", sum := "be4def63fe443fc24b04381ad3ecf0e8ab470ba8aed82b3a62377d175a75a164", func := "loop.example/g00581/laws.FnExactEqualDevices", spec := "fnExactEqualDevices", apart := false, narrowed := true }
def FnExactEqualDevicesUptoSaid : Prop := fnExactEqualDevicesUptoRow.holds Try.pinned (OpenSpec.upto fnExactEqualDevicesSpec)

/-- 'laws.FnExactCoversLog', WHERE WHAT IT READS IS OF BULK AT MOST 1048576: true; the input reads as it did. -/
def fnExactCoversLogUptoRow : OpenClaim := { program := "ytkmndimmglghoaa", sum := "be4def63fe443fc24b04381ad3ecf0e8ab470ba8aed82b3a62377d175a75a164", func := "loop.example/g00581/laws.FnExactCoversLog", spec := "fnExactCoversLog", apart := false, narrowed := true }
def FnExactCoversLogUptoSaid : Prop := fnExactCoversLogUptoRow.holds Try.pinned (OpenSpec.upto fnExactCoversLogSpec)

/-- 'laws.FnExactEqualClouds', WHERE WHAT IT READS IS OF BULK AT MOST 1048576: true; the input reads as it did. -/
def fnExactEqualCloudsUptoRow : OpenClaim := { program := "ytkmndimmglghoaa", sum := "be4def63fe443fc24b04381ad3ecf0e8ab470ba8aed82b3a62377d175a75a164", func := "loop.example/g00581/laws.FnExactEqualClouds", spec := "fnExactEqualClouds", apart := false, narrowed := true }
def FnExactEqualCloudsUptoSaid : Prop := fnExactEqualCloudsUptoRow.holds Try.pinned (OpenSpec.upto fnExactEqualCloudsSpec)

/-- 'laws.FnExactOpenEpochBoxes', WHERE WHAT IT READS IS OF BULK AT MOST 1048576: true; the input reads as it did. -/
def fnExactOpenEpochBoxesUptoRow : OpenClaim := { program := "ytkmndimmglghoaa", sum := "be4def63fe443fc24b04381ad3ecf0e8ab470ba8aed82b3a62377d175a75a164", func := "loop.example/g00581/laws.FnExactOpenEpochBoxes", spec := "fnExactOpenEpochBoxes", apart := false, narrowed := true }
def FnExactOpenEpochBoxesUptoSaid : Prop := fnExactOpenEpochBoxesUptoRow.holds Try.pinned (OpenSpec.upto fnExactOpenEpochBoxesSpec)

/-- 'laws.FnExactFetchBundle', WHERE WHAT IT READS IS OF BULK AT MOST 1048576: true; the input reads as it did. -/
def fnExactFetchBundleUptoRow : OpenClaim := { program := "ytkmndimmglghoaa", sum := "be4def63fe443fc24b04381ad3ecf0e8ab470ba8aed82b3a62377d175a75a164", func := "loop.example/g00581/laws.FnExactFetchBundle", spec := "fnExactFetchBundle", apart := false, narrowed := true }
def FnExactFetchBundleUptoSaid : Prop := fnExactFetchBundleUptoRow.holds Try.pinned (OpenSpec.upto fnExactFetchBundleSpec)

/-- 'laws.FnExactFetchLog', WHERE WHAT IT READS IS OF BULK AT MOST 1048576: true; the input reads as it did. -/
def fnExactFetchLogUptoRow : OpenClaim := { program := "ytkmndimmglghoaa", sum := "be4def63fe443fc24b04381ad3ecf0e8ab470ba8aed82b3a62377d175a75a164", func := "loop.example/g00581/laws.FnExactFetchLog", spec := "fnExactFetchLog", apart := false, narrowed := true }
def FnExactFetchLogUptoSaid : Prop := fnExactFetchLogUptoRow.holds Try.pinned (OpenSpec.upto fnExactFetchLogSpec)

/-- 'laws.FnExactCloudView', WHERE WHAT IT READS IS OF BULK AT MOST 1048576: true; the input reads as it did. -/
def fnExactCloudViewUptoRow : OpenClaim := { program := "ytkmndimmglghoaa", sum := "be4def63fe443fc24b04381ad3ecf0e8ab470ba8aed82b3a62377d175a75a164", func := "loop.example/g00581/laws.FnExactCloudView", spec := "fnExactCloudView", apart := false, narrowed := true }
def FnExactCloudViewUptoSaid : Prop := fnExactCloudViewUptoRow.holds Try.pinned (OpenSpec.upto fnExactCloudViewSpec)

/-- 'laws.FnExactUploadBundle', WHERE WHAT IT READS IS OF BULK AT MOST 1048576: true; the input reads as it did. -/
def fnExactUploadBundleUptoRow : OpenClaim := { program := "ytkmndimmglghoaa", sum := "be4def63fe443fc24b04381ad3ecf0e8ab470ba8aed82b3a62377d175a75a164", func := "loop.example/g00581/laws.FnExactUploadBundle", spec := "fnExactUploadBundle", apart := false, narrowed := true }
def FnExactUploadBundleUptoSaid : Prop := fnExactUploadBundleUptoRow.holds Try.pinned (OpenSpec.upto fnExactUploadBundleSpec)

/-- 'laws.FnNewClouds', WHERE WHAT IT READS IS OF BULK AT MOST 1048576: true; the input reads as it did. -/
def fnNewCloudsUptoRow : OpenClaim := { program := "ytkmndimmglghoaa", sum := "be4def63fe443fc24b04381ad3ecf0e8ab470ba8aed82b3a62377d175a75a164", func := "loop.example/g00581/laws.FnNewClouds", spec := "fnNewClouds", apart := false, narrowed := true }
def FnNewCloudsUptoSaid : Prop := fnNewCloudsUptoRow.holds Try.pinned (OpenSpec.upto fnNewCloudsSpec)

/-- 'laws.FnExactNewCloud', WHERE WHAT IT READS IS OF BULK AT MOST 1048576: true; the input reads as it did. -/
def fnExactNewCloudUptoRow : OpenClaim := { program := "ytkmndimmglghoaa", sum := "be4def63fe443fc24b04381ad3ecf0e8ab470ba8aed82b3a62377d175a75a164", func := "loop.example/g00581/laws.FnExactNewCloud", spec := "fnExactNewCloud", apart := false, narrowed := true }
def FnExactNewCloudUptoSaid : Prop := fnExactNewCloudUptoRow.holds Try.pinned (OpenSpec.upto fnExactNewCloudSpec)

/-- 'laws.FnExactMakeEpochBoxes', WHERE WHAT IT READS IS OF BULK AT MOST 1048576: true; the input reads as it did. -/
def fnExactMakeEpochBoxesUptoRow : OpenClaim := { program := "ytkmndimmglghoaa", sum := "be4def63fe443fc24b04381ad3ecf0e8ab470ba8aed82b3a62377d175a75a164", func := "loop.example/g00581/laws.FnExactMakeEpochBoxes", spec := "fnExactMakeEpochBoxes", apart := false, narrowed := true }
def FnExactMakeEpochBoxesUptoSaid : Prop := fnExactMakeEpochBoxesUptoRow.holds Try.pinned (OpenSpec.upto fnExactMakeEpochBoxesSpec)

/-- 'laws.FnExactWriteDevice', WHERE WHAT IT READS IS OF BULK AT MOST 1048576: true; the input reads as it did. -/
def fnExactWriteDeviceUptoRow : OpenClaim := { program := "ytkmndimmglghoaa", sum := "be4def63fe443fc24b04381ad3ecf0e8ab470ba8aed82b3a62377d175a75a164", func := "loop.example/g00581/laws.FnExactWriteDevice", spec := "fnExactWriteDevice", apart := false, narrowed := true }
def FnExactWriteDeviceUptoSaid : Prop := fnExactWriteDeviceUptoRow.holds Try.pinned (OpenSpec.upto fnExactWriteDeviceSpec)

end Rows
end Go.Proofs.Ytkmndimmglghoaa
