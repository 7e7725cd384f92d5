/-
  No cell of these rows narrows 'for every input' (looked for: loops, veiled, ifaces, maps, wideKeys, modest, calm, conditions, laid).
  DERIVED. THE GIVEN ROWS OF THIS SEAT. 7 by the template 'for every input the law returns true; each argument reads behind the call as it read before'; 0 by the template 'total and deterministic' (their statements: YtbgkgnhlfmidhaaTotals.lean).
  GIVEN WITH THE SEED: the statements are not yours to turn. If you find one false, say at which input.
  Laid BY PROGRAM, IN A SANDBOX (cutbox-rows.mjs): the forced cells as the released guide's own fill.sh prints them over the translation 065404658ec77261… (all of the seat's roots in one cut). By AI agents, Wed Nov 11 2026. No macro, syntax, notation, axiom, sorry.
-/
import Derived.Test.YtbgkgnhlfmidhaaChecked
import GoSem.Claim
import GoSem.ClaimJoined
import GoSem.ClaimMapViews
import Derived.JoinedTies
import Derived.KernelRfl
namespace Go.Proofs.Ytbgkgnhlfmidhaa
/- THE CELL 'sum', in the pinned program and in every row, IS THE sha256 OF THE DUMP (.gsa) THAT YtbgkgnhlfmidhaaProg.lean LOADS. Nothing in Lean hashes anything: it is a label: what it is worth is what the hold of that sum in a sandbox is worth. -/
noncomputable def Try.pinned : Pinned := { name := "ytbgkgnhlfmidhaa", sum := "065404658ec77261764eaf5510026cd601fc3e2b3334d57518425e0b3e1d5013", checked := Try.checked }
namespace Rows
def none {H : Type} : Left H := { results := [], args := [] }

/-- 'laws.FnExactPowerOn': WHATEVER THE INPUT: true; the input reads as it did. -/
def fnExactPowerOnSpec : ChangeSpec := { name := "fnExactPowerOn", fn := fun _ => fun
  | [d] => { results := [.lit (.bool true)], args := [d] }
  | _ => none }
def fnExactPowerOnRow : OpenClaim := { program := "ytbgkgnhlfmidhaa", sum := "065404658ec77261764eaf5510026cd601fc3e2b3334d57518425e0b3e1d5013", func := "loop.example/g00509/laws.FnExactPowerOn", spec := "fnExactPowerOn", apart := false }
def FnExactPowerOnSaid : Prop := fnExactPowerOnRow.holds Try.pinned (OpenSpec.ofChange fnExactPowerOnSpec)

/-- ITS FALSE NEIGHBOUR: 'it returns false'. Refute it at one input. -/
def fnExactPowerOnWrong : ChangeSpec := { name := "fnExactPowerOn", fn := fun _ => fun
  | [d] => { results := [.lit (.bool false)], args := [d] }
  | _ => none }
def FnExactPowerOnWrongFalsely : Prop := fnExactPowerOnRow.holds Try.pinned (OpenSpec.ofChange fnExactPowerOnWrong)

/-- 'laws.FnExactIsValidSession': WHATEVER THE INPUT: true; the input reads as it did. -/
def fnExactIsValidSessionSpec : ChangeSpec := { name := "fnExactIsValidSession", fn := fun _ => fun
  | [d] => { results := [.lit (.bool true)], args := [d] }
  | _ => none }
def fnExactIsValidSessionRow : OpenClaim := { program := "ytbgkgnhlfmidhaa", sum := "065404658ec77261764eaf5510026cd601fc3e2b3334d57518425e0b3e1d5013", func := "loop.example/g00509/laws.FnExactIsValidSession", spec := "fnExactIsValidSession", apart := false }
def FnExactIsValidSessionSaid : Prop := fnExactIsValidSessionRow.holds Try.pinned (OpenSpec.ofChange fnExactIsValidSessionSpec)

/-- ITS FALSE NEIGHBOUR: 'it returns false'. Refute it at one input. -/
def fnExactIsValidSessionWrong : ChangeSpec := { name := "fnExactIsValidSession", fn := fun _ => fun
  | [d] => { results := [.lit (.bool false)], args := [d] }
  | _ => none }
def FnExactIsValidSessionWrongFalsely : Prop := fnExactIsValidSessionRow.holds Try.pinned (OpenSpec.ofChange fnExactIsValidSessionWrong)

/-- 'laws.FnExactSubmitPacket': WHATEVER THE INPUT: true; the input reads as it did. -/
def fnExactSubmitPacketSpec : ChangeSpec := { name := "fnExactSubmitPacket", fn := fun _ => fun
  | [d1, d2] => { results := [.lit (.bool true)], args := [d1, d2] }
  | _ => none }
def fnExactSubmitPacketRow : OpenClaim := { program := "ytbgkgnhlfmidhaa", sum := "065404658ec77261764eaf5510026cd601fc3e2b3334d57518425e0b3e1d5013", func := "loop.example/g00509/laws.FnExactSubmitPacket", spec := "fnExactSubmitPacket", apart := false }
def FnExactSubmitPacketSaid : Prop := fnExactSubmitPacketRow.holds Try.pinned (OpenSpec.ofChange fnExactSubmitPacketSpec)

/-- ITS FALSE NEIGHBOUR: 'it returns false'. Refute it at one input. -/
def fnExactSubmitPacketWrong : ChangeSpec := { name := "fnExactSubmitPacket", fn := fun _ => fun
  | [d1, d2] => { results := [.lit (.bool false)], args := [d1, d2] }
  | _ => none }
def FnExactSubmitPacketWrongFalsely : Prop := fnExactSubmitPacketRow.holds Try.pinned (OpenSpec.ofChange fnExactSubmitPacketWrong)

/-- 'laws.FnExactFailover': WHATEVER THE INPUT: true; the input reads as it did. -/
def fnExactFailoverSpec : ChangeSpec := { name := "fnExactFailover", fn := fun _ => fun
  | [d] => { results := [.lit (.bool true)], args := [d] }
  | _ => none }
def fnExactFailoverRow : OpenClaim := { program := "ytbgkgnhlfmidhaa", sum := "065404658ec77261764eaf5510026cd601fc3e2b3334d57518425e0b3e1d5013", func := "loop.example/g00509/laws.FnExactFailover", spec := "fnExactFailover", apart := false }
def FnExactFailoverSaid : Prop := fnExactFailoverRow.holds Try.pinned (OpenSpec.ofChange fnExactFailoverSpec)

/-- ITS FALSE NEIGHBOUR: 'it returns false'. Refute it at one input. -/
def fnExactFailoverWrong : ChangeSpec := { name := "fnExactFailover", fn := fun _ => fun
  | [d] => { results := [.lit (.bool false)], args := [d] }
  | _ => none }
def FnExactFailoverWrongFalsely : Prop := fnExactFailoverRow.holds Try.pinned (OpenSpec.ofChange fnExactFailoverWrong)

/-- 'laws.FnExactTickDevice': WHATEVER THE INPUT: true; the input reads as it did. -/
def fnExactTickDeviceSpec : ChangeSpec := { name := "fnExactTickDevice", fn := fun _ => fun
  | [d] => { results := [.lit (.bool true)], args := [d] }
  | _ => none }
def fnExactTickDeviceRow : OpenClaim := { program := "ytbgkgnhlfmidhaa", sum := "065404658ec77261764eaf5510026cd601fc3e2b3334d57518425e0b3e1d5013", func := "loop.example/g00509/laws.FnExactTickDevice", spec := "fnExactTickDevice", apart := false }
def FnExactTickDeviceSaid : Prop := fnExactTickDeviceRow.holds Try.pinned (OpenSpec.ofChange fnExactTickDeviceSpec)

/-- ITS FALSE NEIGHBOUR: 'it returns false'. Refute it at one input. -/
def fnExactTickDeviceWrong : ChangeSpec := { name := "fnExactTickDevice", fn := fun _ => fun
  | [d] => { results := [.lit (.bool false)], args := [d] }
  | _ => none }
def FnExactTickDeviceWrongFalsely : Prop := fnExactTickDeviceRow.holds Try.pinned (OpenSpec.ofChange fnExactTickDeviceWrong)

/-- 'laws.FnExactMoveDevice': WHATEVER THE INPUT: true; the input reads as it did. -/
def fnExactMoveDeviceSpec : ChangeSpec := { name := "fnExactMoveDevice", fn := fun _ => fun
  | [d1, d2] => { results := [.lit (.bool true)], args := [d1, d2] }
  | _ => none }
def fnExactMoveDeviceRow : OpenClaim := { program := "ytbgkgnhlfmidhaa", sum := "065404658ec77261764eaf5510026cd601fc3e2b3334d57518425e0b3e1d5013", func := "loop.example/g00509/laws.FnExactMoveDevice", spec := "fnExactMoveDevice", apart := false }
def FnExactMoveDeviceSaid : Prop := fnExactMoveDeviceRow.holds Try.pinned (OpenSpec.ofChange fnExactMoveDeviceSpec)

/-- ITS FALSE NEIGHBOUR: 'it returns false'. Refute it at one input. -/
def fnExactMoveDeviceWrong : ChangeSpec := { name := "fnExactMoveDevice", fn := fun _ => fun
  | [d1, d2] => { results := [.lit (.bool false)], args := [d1, d2] }
  | _ => none }
def FnExactMoveDeviceWrongFalsely : Prop := fnExactMoveDeviceRow.holds Try.pinned (OpenSpec.ofChange fnExactMoveDeviceWrong)

/-- 'laws.FnExactRetransmit': WHATEVER THE INPUT: true; the input reads as it did. -/
def fnExactRetransmitSpec : ChangeSpec := { name := "fnExactRetransmit", fn := fun _ => fun
  | [d] => { results := [.lit (.bool true)], args := [d] }
  | _ => none }
def fnExactRetransmitRow : OpenClaim := { program := "ytbgkgnhlfmidhaa", sum := "065404658ec77261764eaf5510026cd601fc3e2b3334d57518425e0b3e1d5013", func := "loop.example/g00509/laws.FnExactRetransmit", spec := "fnExactRetransmit", apart := false }
def FnExactRetransmitSaid : Prop := fnExactRetransmitRow.holds Try.pinned (OpenSpec.ofChange fnExactRetransmitSpec)

/-- ITS FALSE NEIGHBOUR: 'it returns false'. Refute it at one input. -/
def fnExactRetransmitWrong : ChangeSpec := { name := "fnExactRetransmit", fn := fun _ => fun
  | [d] => { results := [.lit (.bool false)], args := [d] }
  | _ => none }
def FnExactRetransmitWrongFalsely : Prop := fnExactRetransmitRow.holds Try.pinned (OpenSpec.ofChange fnExactRetransmitWrong)

/- THE SECOND FORM. 'bulk': how many values and letters a reading holds, each counted each time it is reached (what is shared counts as often as it is met; a slice's spare places count too). A statement '..UptoSaid' is the law's where the arguments, and the package variables that the reading takes, are together of bulk at most 1048576: NARROWER than '..Said'. Prove '..Said' where nothing that the law and all that it calls make is longer than what came in: it says more and counts as full. Else prove '..UptoSaid'. A law counts once. -/
mutual
def uptoBulk {H : Type} : DataW H → Nat
  | .lit (.string bytes) => bytes.length + 1
  | .lit _ => 1
  | .nil => 1
  | .ptr d => uptoBulk d + 1
  | .slice elems spare => uptoBulkAll elems + uptoBulkAll spare + 1
  | .agg parts => uptoBulkAll parts + 1
  | .iface _ d => uptoBulk d + 1
  | .map entries => uptoBulkEntries entries + 1
  | .held _ => 1
def uptoBulkAll {H : Type} : List (DataW H) → Nat
  | [] => 0
  | d :: r => uptoBulk d + uptoBulkAll r
def uptoBulkEntries {H : Type} : List (Lit × DataW H) → Nat
  | [] => 0
  | x :: r => uptoBulkEntry x + uptoBulkEntries r
def uptoBulkEntry {H : Type} : Lit × DataW H → Nat
  | (.string bytes, d) => bytes.length + uptoBulk d + 1
  | (_, d) => uptoBulk d + 1
 end
def uptoSmall : (H : Type) → List (DataW H) → Bool := fun _ ds => decide (uptoBulkAll ds ≤ 1048576)
def OpenSpec.upto (s : _root_.Go.ChangeSpec) : _root_.Go.OpenSpec := { _root_.Go.OpenSpec.ofChange s with cond := some uptoSmall }

/-- 'laws.FnExactPowerOn', WHERE WHAT IT READS IS OF BULK AT MOST 1048576: true; the input reads as it did. -/
def fnExactPowerOnUptoRow : OpenClaim := { program := "ytbgkgnhlfmidhaa", sum := "065404658ec77261764eaf5510026cd601fc3e2b3334d57518425e0b3e1d5013", func := "loop.example/g00509/laws.FnExactPowerOn", spec := "fnExactPowerOn", apart := false, narrowed := true }
def FnExactPowerOnUptoSaid : Prop := fnExactPowerOnUptoRow.holds Try.pinned (OpenSpec.upto fnExactPowerOnSpec)

/-- 'laws.FnExactIsValidSession', WHERE WHAT IT READS IS OF BULK AT MOST 1048576: true; the input reads as it did. -/
def fnExactIsValidSessionUptoRow : OpenClaim := { program := "ytbgkgnhlfmidhaa", sum := "065404658ec77261764eaf5510026cd601fc3e2b3334d57518425e0b3e1d5013", func := "loop.example/g00509/laws.FnExactIsValidSession", spec := "fnExactIsValidSession", apart := false, narrowed := true }
def FnExactIsValidSessionUptoSaid : Prop := fnExactIsValidSessionUptoRow.holds Try.pinned (OpenSpec.upto fnExactIsValidSessionSpec)

/-- 'laws.FnExactSubmitPacket', WHERE WHAT IT READS IS OF BULK AT MOST 1048576: true; the input reads as it did. -/
def fnExactSubmitPacketUptoRow : OpenClaim := { program := "ytbgkgnhlfmidhaa", sum := "065404658ec77261764eaf5510026cd601fc3e2b3334d57518425e0b3e1d5013", func := "loop.example/g00509/laws.FnExactSubmitPacket", spec := "fnExactSubmitPacket", apart := false, narrowed := true }
def FnExactSubmitPacketUptoSaid : Prop := fnExactSubmitPacketUptoRow.holds Try.pinned (OpenSpec.upto fnExactSubmitPacketSpec)

/-- 'laws.FnExactFailover', WHERE WHAT IT READS IS OF BULK AT MOST 1048576: true; the input reads as it did. -/
def fnExactFailoverUptoRow : OpenClaim := { program := "ytbgkgnhlfmidhaa", sum := "065404658ec77261764eaf5510026cd601fc3e2b3334d57518425e0b3e1d5013", func := "loop.example/g00509/laws.FnExactFailover", spec := "fnExactFailover", apart := false, narrowed := true }
def FnExactFailoverUptoSaid : Prop := fnExactFailoverUptoRow.holds Try.pinned (OpenSpec.upto fnExactFailoverSpec)

/-- 'laws.FnExactTickDevice', WHERE WHAT IT READS IS OF BULK AT MOST 1048576: true; the input reads as it did. -/
def fnExactTickDeviceUptoRow : OpenClaim := { program := "ytbgkgnhlfmidhaa", sum := "065404658ec77261764eaf5510026cd601fc3e2b3334d57518425e0b3e1d5013", func := "loop.example/g00509/laws.FnExactTickDevice", spec := "fnExactTickDevice", apart := false, narrowed := true }
def FnExactTickDeviceUptoSaid : Prop := fnExactTickDeviceUptoRow.holds Try.pinned (OpenSpec.upto fnExactTickDeviceSpec)

/-- 'laws.FnExactMoveDevice', WHERE WHAT IT READS IS OF BULK AT MOST 1048576: true; the input reads as it did. -/
def fnExactMoveDeviceUptoRow : OpenClaim := { program := "ytbgkgnhlfmidhaa", sum := "065404658ec77261764eaf5510026cd601fc3e2b3334d57518425e0b3e1d5013", func := "loop.example/g00509/laws.FnExactMoveDevice", spec := "fnExactMoveDevice", apart := false, narrowed := true }
def FnExactMoveDeviceUptoSaid : Prop := fnExactMoveDeviceUptoRow.holds Try.pinned (OpenSpec.upto fnExactMoveDeviceSpec)

/-- 'laws.FnExactRetransmit', WHERE WHAT IT READS IS OF BULK AT MOST 1048576: true; the input reads as it did. -/
def fnExactRetransmitUptoRow : OpenClaim := { program := "ytbgkgnhlfmidhaa", sum := "065404658ec77261764eaf5510026cd601fc3e2b3334d57518425e0b3e1d5013", func := "loop.example/g00509/laws.FnExactRetransmit", spec := "fnExactRetransmit", apart := false, narrowed := true }
def FnExactRetransmitUptoSaid : Prop := fnExactRetransmitUptoRow.holds Try.pinned (OpenSpec.upto fnExactRetransmitSpec)

end Rows
end Go.Proofs.Ytbgkgnhlfmidhaa
