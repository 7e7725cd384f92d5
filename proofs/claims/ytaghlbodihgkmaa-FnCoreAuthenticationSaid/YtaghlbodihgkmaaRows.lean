/-
  No cell of these rows narrows 'for every input' (looked for: loops, veiled, ifaces, maps, wideKeys, modest, calm, conditions, laid).
  DERIVED. THE GIVEN ROWS OF THIS SEAT. 10 by the template 'for every input the law returns true; each argument reads behind the call as it read before'; 0 by the template 'total and deterministic' (their statements: YtaghlbodihgkmaaTotals.lean).
  GIVEN WITH THE SEED: the statements are not yours to turn. If you find one false, say at which input.
  Laid BY PROGRAM, IN A SANDBOX (cutbox-rows.mjs): the forced cells as the released guide's own fill.sh prints them over the translation 5d961e260e045fa0… (all of the seat's roots in one cut). By AI agents, Wed Nov 11 2026. No macro, syntax, notation, axiom, sorry.
-/
import Derived.Test.YtaghlbodihgkmaaChecked
import GoSem.Claim
import GoSem.ClaimJoined
import GoSem.ClaimMapViews
import Derived.JoinedTies
import Derived.KernelRfl
namespace Go.Proofs.Ytaghlbodihgkmaa
/- THE CELL 'sum', in the pinned program and in every row, IS THE sha256 OF THE DUMP (.gsa) THAT YtaghlbodihgkmaaProg.lean LOADS. Nothing in Lean hashes anything: it is a label: what it is worth is what the hold of that sum in a sandbox is worth. -/
noncomputable def Try.pinned : Pinned := { name := "ytaghlbodihgkmaa", sum := "5d961e260e045fa0be83978092f9b4e42adb7465b81d0e9435caaaa73f92e574", checked := Try.checked }
namespace Rows
def none {H : Type} : Left H := { results := [], args := [] }

/-- 'laws.FnExactEventName': WHATEVER THE INPUT: true; the input reads as it did. -/
def fnExactEventNameSpec : ChangeSpec := { name := "fnExactEventName", fn := fun _ => fun
  | [d] => { results := [.lit (.bool true)], args := [d] }
  | _ => none }
def fnExactEventNameRow : OpenClaim := { program := "ytaghlbodihgkmaa", sum := "5d961e260e045fa0be83978092f9b4e42adb7465b81d0e9435caaaa73f92e574", func := "loop.example/g00509/laws.FnExactEventName", spec := "fnExactEventName", apart := false }
def FnExactEventNameSaid : Prop := fnExactEventNameRow.holds Try.pinned (OpenSpec.ofChange fnExactEventNameSpec)

/-- ITS FALSE NEIGHBOUR: 'it returns false'. Refute it at one input. -/
def fnExactEventNameWrong : ChangeSpec := { name := "fnExactEventName", fn := fun _ => fun
  | [d] => { results := [.lit (.bool false)], args := [d] }
  | _ => none }
def FnExactEventNameWrongFalsely : Prop := fnExactEventNameRow.holds Try.pinned (OpenSpec.ofChange fnExactEventNameWrong)

/-- 'laws.FnExactNewDevice': WHATEVER THE INPUT: true; the input reads as it did. -/
def fnExactNewDeviceSpec : ChangeSpec := { name := "fnExactNewDevice", fn := fun _ => fun
  | [d1, d2] => { results := [.lit (.bool true)], args := [d1, d2] }
  | _ => none }
def fnExactNewDeviceRow : OpenClaim := { program := "ytaghlbodihgkmaa", sum := "5d961e260e045fa0be83978092f9b4e42adb7465b81d0e9435caaaa73f92e574", func := "loop.example/g00509/laws.FnExactNewDevice", spec := "fnExactNewDevice", apart := false }
def FnExactNewDeviceSaid : Prop := fnExactNewDeviceRow.holds Try.pinned (OpenSpec.ofChange fnExactNewDeviceSpec)

/-- ITS FALSE NEIGHBOUR: 'it returns false'. Refute it at one input. -/
def fnExactNewDeviceWrong : ChangeSpec := { name := "fnExactNewDevice", fn := fun _ => fun
  | [d1, d2] => { results := [.lit (.bool false)], args := [d1, d2] }
  | _ => none }
def FnExactNewDeviceWrongFalsely : Prop := fnExactNewDeviceRow.holds Try.pinned (OpenSpec.ofChange fnExactNewDeviceWrong)

/-- 'laws.FnExactIsValidDevice': WHATEVER THE INPUT: true; the input reads as it did. -/
def fnExactIsValidDeviceSpec : ChangeSpec := { name := "fnExactIsValidDevice", fn := fun _ => fun
  | [d] => { results := [.lit (.bool true)], args := [d] }
  | _ => none }
def fnExactIsValidDeviceRow : OpenClaim := { program := "ytaghlbodihgkmaa", sum := "5d961e260e045fa0be83978092f9b4e42adb7465b81d0e9435caaaa73f92e574", func := "loop.example/g00509/laws.FnExactIsValidDevice", spec := "fnExactIsValidDevice", apart := false }
def FnExactIsValidDeviceSaid : Prop := fnExactIsValidDeviceRow.holds Try.pinned (OpenSpec.ofChange fnExactIsValidDeviceSpec)

/-- ITS FALSE NEIGHBOUR: 'it returns false'. Refute it at one input. -/
def fnExactIsValidDeviceWrong : ChangeSpec := { name := "fnExactIsValidDevice", fn := fun _ => fun
  | [d] => { results := [.lit (.bool false)], args := [d] }
  | _ => none }
def FnExactIsValidDeviceWrongFalsely : Prop := fnExactIsValidDeviceRow.holds Try.pinned (OpenSpec.ofChange fnExactIsValidDeviceWrong)

/-- 'laws.FnExactNewSession': WHATEVER THE INPUT: true; the input reads as it did. -/
def fnExactNewSessionSpec : ChangeSpec := { name := "fnExactNewSession", fn := fun _ => fun
  | [d1, d2, d3] => { results := [.lit (.bool true)], args := [d1, d2, d3] }
  | _ => none }
def fnExactNewSessionRow : OpenClaim := { program := "ytaghlbodihgkmaa", sum := "5d961e260e045fa0be83978092f9b4e42adb7465b81d0e9435caaaa73f92e574", func := "loop.example/g00509/laws.FnExactNewSession", spec := "fnExactNewSession", apart := false }
def FnExactNewSessionSaid : Prop := fnExactNewSessionRow.holds Try.pinned (OpenSpec.ofChange fnExactNewSessionSpec)

/-- ITS FALSE NEIGHBOUR: 'it returns false'. Refute it at one input. -/
def fnExactNewSessionWrong : ChangeSpec := { name := "fnExactNewSession", fn := fun _ => fun
  | [d1, d2, d3] => { results := [.lit (.bool false)], args := [d1, d2, d3] }
  | _ => none }
def FnExactNewSessionWrongFalsely : Prop := fnExactNewSessionRow.holds Try.pinned (OpenSpec.ofChange fnExactNewSessionWrong)

/-- 'laws.FnExactEnterIdle': WHATEVER THE INPUT: true; the input reads as it did. -/
def fnExactEnterIdleSpec : ChangeSpec := { name := "fnExactEnterIdle", fn := fun _ => fun
  | [d] => { results := [.lit (.bool true)], args := [d] }
  | _ => none }
def fnExactEnterIdleRow : OpenClaim := { program := "ytaghlbodihgkmaa", sum := "5d961e260e045fa0be83978092f9b4e42adb7465b81d0e9435caaaa73f92e574", func := "loop.example/g00509/laws.FnExactEnterIdle", spec := "fnExactEnterIdle", apart := false }
def FnExactEnterIdleSaid : Prop := fnExactEnterIdleRow.holds Try.pinned (OpenSpec.ofChange fnExactEnterIdleSpec)

/-- ITS FALSE NEIGHBOUR: 'it returns false'. Refute it at one input. -/
def fnExactEnterIdleWrong : ChangeSpec := { name := "fnExactEnterIdle", fn := fun _ => fun
  | [d] => { results := [.lit (.bool false)], args := [d] }
  | _ => none }
def FnExactEnterIdleWrongFalsely : Prop := fnExactEnterIdleRow.holds Try.pinned (OpenSpec.ofChange fnExactEnterIdleWrong)

/-- 'laws.FnExactAcknowledgedPackets': WHATEVER THE INPUT: true; the input reads as it did. -/
def fnExactAcknowledgedPacketsSpec : ChangeSpec := { name := "fnExactAcknowledgedPackets", fn := fun _ => fun
  | [d] => { results := [.lit (.bool true)], args := [d] }
  | _ => none }
def fnExactAcknowledgedPacketsRow : OpenClaim := { program := "ytaghlbodihgkmaa", sum := "5d961e260e045fa0be83978092f9b4e42adb7465b81d0e9435caaaa73f92e574", func := "loop.example/g00509/laws.FnExactAcknowledgedPackets", spec := "fnExactAcknowledgedPackets", apart := false }
def FnExactAcknowledgedPacketsSaid : Prop := fnExactAcknowledgedPacketsRow.holds Try.pinned (OpenSpec.ofChange fnExactAcknowledgedPacketsSpec)

/-- ITS FALSE NEIGHBOUR: 'it returns false'. Refute it at one input. -/
def fnExactAcknowledgedPacketsWrong : ChangeSpec := { name := "fnExactAcknowledgedPackets", fn := fun _ => fun
  | [d] => { results := [.lit (.bool false)], args := [d] }
  | _ => none }
def FnExactAcknowledgedPacketsWrongFalsely : Prop := fnExactAcknowledgedPacketsRow.holds Try.pinned (OpenSpec.ofChange fnExactAcknowledgedPacketsWrong)

/-- 'laws.FnExactOutstandingBytes': WHATEVER THE INPUT: true; the input reads as it did. -/
def fnExactOutstandingBytesSpec : ChangeSpec := { name := "fnExactOutstandingBytes", fn := fun _ => fun
  | [d] => { results := [.lit (.bool true)], args := [d] }
  | _ => none }
def fnExactOutstandingBytesRow : OpenClaim := { program := "ytaghlbodihgkmaa", sum := "5d961e260e045fa0be83978092f9b4e42adb7465b81d0e9435caaaa73f92e574", func := "loop.example/g00509/laws.FnExactOutstandingBytes", spec := "fnExactOutstandingBytes", apart := false }
def FnExactOutstandingBytesSaid : Prop := fnExactOutstandingBytesRow.holds Try.pinned (OpenSpec.ofChange fnExactOutstandingBytesSpec)

/-- ITS FALSE NEIGHBOUR: 'it returns false'. Refute it at one input. -/
def fnExactOutstandingBytesWrong : ChangeSpec := { name := "fnExactOutstandingBytes", fn := fun _ => fun
  | [d] => { results := [.lit (.bool false)], args := [d] }
  | _ => none }
def FnExactOutstandingBytesWrongFalsely : Prop := fnExactOutstandingBytesRow.holds Try.pinned (OpenSpec.ofChange fnExactOutstandingBytesWrong)

/-- 'laws.FnSubmissions': WHATEVER THE INPUT: true; the input reads as it did. -/
def fnSubmissionsSpec : ChangeSpec := { name := "fnSubmissions", fn := fun _ => fun
  | [d] => { results := [.lit (.bool true)], args := [d] }
  | _ => none }
def fnSubmissionsRow : OpenClaim := { program := "ytaghlbodihgkmaa", sum := "5d961e260e045fa0be83978092f9b4e42adb7465b81d0e9435caaaa73f92e574", func := "loop.example/g00509/laws.FnSubmissions", spec := "fnSubmissions", apart := false }
def FnSubmissionsSaid : Prop := fnSubmissionsRow.holds Try.pinned (OpenSpec.ofChange fnSubmissionsSpec)

/-- ITS FALSE NEIGHBOUR: 'it returns false'. Refute it at one input. -/
def fnSubmissionsWrong : ChangeSpec := { name := "fnSubmissions", fn := fun _ => fun
  | [d] => { results := [.lit (.bool false)], args := [d] }
  | _ => none }
def FnSubmissionsWrongFalsely : Prop := fnSubmissionsRow.holds Try.pinned (OpenSpec.ofChange fnSubmissionsWrong)

/-- 'laws.FnPathUpdates': WHATEVER THE INPUT: true; the input reads as it did. -/
def fnPathUpdatesSpec : ChangeSpec := { name := "fnPathUpdates", fn := fun _ => fun
  | [d] => { results := [.lit (.bool true)], args := [d] }
  | _ => none }
def fnPathUpdatesRow : OpenClaim := { program := "ytaghlbodihgkmaa", sum := "5d961e260e045fa0be83978092f9b4e42adb7465b81d0e9435caaaa73f92e574", func := "loop.example/g00509/laws.FnPathUpdates", spec := "fnPathUpdates", apart := false }
def FnPathUpdatesSaid : Prop := fnPathUpdatesRow.holds Try.pinned (OpenSpec.ofChange fnPathUpdatesSpec)

/-- ITS FALSE NEIGHBOUR: 'it returns false'. Refute it at one input. -/
def fnPathUpdatesWrong : ChangeSpec := { name := "fnPathUpdates", fn := fun _ => fun
  | [d] => { results := [.lit (.bool false)], args := [d] }
  | _ => none }
def FnPathUpdatesWrongFalsely : Prop := fnPathUpdatesRow.holds Try.pinned (OpenSpec.ofChange fnPathUpdatesWrong)

/-- 'laws.FnCoreAuthentication': WHATEVER THE INPUT: true; the input reads as it did. -/
def fnCoreAuthenticationSpec : ChangeSpec := { name := "fnCoreAuthentication", fn := fun _ => fun
  | [d] => { results := [.lit (.bool true)], args := [d] }
  | _ => none }
def fnCoreAuthenticationRow : OpenClaim := { program := "ytaghlbodihgkmaa", sum := "5d961e260e045fa0be83978092f9b4e42adb7465b81d0e9435caaaa73f92e574", func := "loop.example/g00509/laws.FnCoreAuthentication", spec := "fnCoreAuthentication", apart := false }
def FnCoreAuthenticationSaid : Prop := fnCoreAuthenticationRow.holds Try.pinned (OpenSpec.ofChange fnCoreAuthenticationSpec)

/-- ITS FALSE NEIGHBOUR: 'it returns false'. Refute it at one input. -/
def fnCoreAuthenticationWrong : ChangeSpec := { name := "fnCoreAuthentication", fn := fun _ => fun
  | [d] => { results := [.lit (.bool false)], args := [d] }
  | _ => none }
def FnCoreAuthenticationWrongFalsely : Prop := fnCoreAuthenticationRow.holds Try.pinned (OpenSpec.ofChange fnCoreAuthenticationWrong)

/- THE SECOND FORM. 'bulk': how many values and letters a reading holds, each counted each time it is reached (what is shared counts as often as it is met; a slice's spare places count too). A statement '..UptoSaid' is the law's where the arguments, and the package variables that the reading takes, are together of bulk at most 1048576: NARROWER than '..Said'. Prove '..Said' where nothing that the law and all that it calls make is longer than what came in: it says more and counts as full. Else prove '..UptoSaid'. A law counts once. -/
mutual
def uptoBulk {H : Type} : DataW H → Nat
  | .lit (.string bytes) => bytes.length + 1
  | .lit _ => 1
  | .nil => 1
  | .ptr d => uptoBulk d + 1
  | .slice elems spare => uptoBulkAll elems + uptoBulkAll spare + 1
  | .agg parts => uptoBulkAll parts + 1
  | .iface _ d => uptoBulk d + 1
  | .map entries => uptoBulkEntries entries + 1
  | .held _ => 1
def uptoBulkAll {H : Type} : List (DataW H) → Nat
  | [] => 0
  | d :: r => uptoBulk d + uptoBulkAll r
def uptoBulkEntries {H : Type} : List (Lit × DataW H) → Nat
  | [] => 0
  | x :: r => uptoBulkEntry x + uptoBulkEntries r
def uptoBulkEntry {H : Type} : Lit × DataW H → Nat
  | (.string bytes, d) => bytes.length + uptoBulk d + 1
  | (_, d) => uptoBulk d + 1
 end
def uptoSmall : (H : Type) → List (DataW H) → Bool := fun _ ds => decide (uptoBulkAll ds ≤ 1048576)
def OpenSpec.upto (s : _root_.Go.ChangeSpec) : _root_.Go.OpenSpec := { _root_.Go.OpenSpec.ofChange s with cond := some uptoSmall }

/-- 'laws.FnExactEventName', WHERE WHAT IT READS IS OF BULK AT MOST 1048576: true; the input reads as it did. -/
def fnExactEventNameUptoRow : OpenClaim := { program := "ytaghlbodihgkmaa", sum := "5d961e260e045fa0be83978092f9b4e42adb7465b81d0e9435caaaa73f92e574", func := "loop.example/g00509/laws.FnExactEventName", spec := "fnExactEventName", apart := false, narrowed := true }
def FnExactEventNameUptoSaid : Prop := fnExactEventNameUptoRow.holds Try.pinned (OpenSpec.upto fnExactEventNameSpec)

/-- 'laws.FnExactNewDevice', WHERE WHAT IT READS IS OF BULK AT MOST 1048576: true; the input reads as it did. -/
def fnExactNewDeviceUptoRow : OpenClaim := { program := "ytaghlbodihgkmaa", sum := "5d961e260e045fa0be83978092f9b4e42adb7465b81d0e9435caaaa73f92e574", func := "loop.example/g00509/laws.FnExactNewDevice", spec := "fnExactNewDevice", apart := false, narrowed := true }
def FnExactNewDeviceUptoSaid : Prop := fnExactNewDeviceUptoRow.holds Try.pinned (OpenSpec.upto fnExactNewDeviceSpec)

/-- 'laws.FnExactIsValidDevice', WHERE WHAT IT READS IS OF BULK AT MOST 1048576: true; the input reads as it did. -/
def fnExactIsValidDeviceUptoRow : OpenClaim := { program := "ytaghlbodihgkmaa", sum := "5d961e260e045fa0be83978092f9b4e42adb7465b81d0e9435caaaa73f92e574", func := "loop.example/g00509/laws.FnExactIsValidDevice", spec := "fnExactIsValidDevice", apart := false, narrowed := true }
def FnExactIsValidDeviceUptoSaid : Prop := fnExactIsValidDeviceUptoRow.holds Try.pinned (OpenSpec.upto fnExactIsValidDeviceSpec)

/-- 'laws.FnExactNewSession', WHERE WHAT IT READS IS OF BULK AT MOST 1048576: true; the input reads as it did. -/
def fnExactNewSessionUptoRow : OpenClaim := { program := "ytaghlbodihgkmaa", sum := "5d961e260e045fa0be83978092f9b4e42adb7465b81d0e9435caaaa73f92e574", func := "loop.example/g00509/laws.FnExactNewSession", spec := "fnExactNewSession", apart := false, narrowed := true }
def FnExactNewSessionUptoSaid : Prop := fnExactNewSessionUptoRow.holds Try.pinned (OpenSpec.upto fnExactNewSessionSpec)

/-- 'laws.FnExactEnterIdle', WHERE WHAT IT READS IS OF BULK AT MOST 1048576: true; the input reads as it did. -/
def fnExactEnterIdleUptoRow : OpenClaim := { program := "ytaghlbodihgkmaa", sum := "5d961e260e045fa0be83978092f9b4e42adb7465b81d0e9435caaaa73f92e574", func := "loop.example/g00509/laws.FnExactEnterIdle", spec := "fnExactEnterIdle", apart := false, narrowed := true }
def FnExactEnterIdleUptoSaid : Prop := fnExactEnterIdleUptoRow.holds Try.pinned (OpenSpec.upto fnExactEnterIdleSpec)

/-- 'laws.FnExactAcknowledgedPackets', WHERE WHAT IT READS IS OF BULK AT MOST 1048576: true; the input reads as it did. -/
def fnExactAcknowledgedPacketsUptoRow : OpenClaim := { program := "ytaghlbodihgkmaa", sum := "5d961e260e045fa0be83978092f9b4e42adb7465b81d0e9435caaaa73f92e574", func := "loop.example/g00509/laws.FnExactAcknowledgedPackets", spec := "fnExactAcknowledgedPackets", apart := false, narrowed := true }
def FnExactAcknowledgedPacketsUptoSaid : Prop := fnExactAcknowledgedPacketsUptoRow.holds Try.pinned (OpenSpec.upto fnExactAcknowledgedPacketsSpec)

/-- 'laws.FnExactOutstandingBytes', WHERE WHAT IT READS IS OF BULK AT MOST 1048576: true; the input reads as it did. -/
def fnExactOutstandingBytesUptoRow : OpenClaim := { program := "ytaghlbodihgkmaa", sum := "5d961e260e045fa0be83978092f9b4e42adb7465b81d0e9435caaaa73f92e574", func := "loop.example/g00509/laws.FnExactOutstandingBytes", spec := "fnExactOutstandingBytes", apart := false, narrowed := true }
def FnExactOutstandingBytesUptoSaid : Prop := fnExactOutstandingBytesUptoRow.holds Try.pinned (OpenSpec.upto fnExactOutstandingBytesSpec)

/-- 'laws.FnSubmissions', WHERE WHAT IT READS IS OF BULK AT MOST 1048576: true; the input reads as it did. -/
def fnSubmissionsUptoRow : OpenClaim := { program := "ytaghlbodihgkmaa", sum := "5d961e260e045fa0be83978092f9b4e42adb7465b81d0e9435caaaa73f92e574", func := "loop.example/g00509/laws.FnSubmissions", spec := "fnSubmissions", apart := false, narrowed := true }
def FnSubmissionsUptoSaid : Prop := fnSubmissionsUptoRow.holds Try.pinned (OpenSpec.upto fnSubmissionsSpec)

/-- 'laws.FnPathUpdates', WHERE WHAT IT READS IS OF BULK AT MOST 1048576: true; the input reads as it did. -/
def fnPathUpdatesUptoRow : OpenClaim := { program := "ytaghlbodihgkmaa", sum := "5d961e260e045fa0be83978092f9b4e42adb7465b81d0e9435caaaa73f92e574", func := "loop.example/g00509/laws.FnPathUpdates", spec := "fnPathUpdates", apart := false, narrowed := true }
def FnPathUpdatesUptoSaid : Prop := fnPathUpdatesUptoRow.holds Try.pinned (OpenSpec.upto fnPathUpdatesSpec)

/-- 'laws.FnCoreAuthentication', WHERE WHAT IT READS IS OF BULK AT MOST 1048576: true; the input reads as it did. -/
def fnCoreAuthenticationUptoRow : OpenClaim := { program := "ytaghlbodihgkmaa", sum := "5d961e260e045fa0be83978092f9b4e42adb7465b81d0e9435caaaa73f92e574", func := "loop.example/g00509/laws.FnCoreAuthentication", spec := "fnCoreAuthentication", apart := false, narrowed := true }
def FnCoreAuthenticationUptoSaid : Prop := fnCoreAuthenticationUptoRow.holds Try.pinned (OpenSpec.upto fnCoreAuthenticationSpec)

end Rows
end Go.Proofs.Ytaghlbodihgkmaa
