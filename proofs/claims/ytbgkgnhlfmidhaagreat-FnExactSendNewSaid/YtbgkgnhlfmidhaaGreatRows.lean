/-
  No cell of these rows narrows 'for every input' (looked for: loops, veiled, ifaces, maps, wideKeys, modest, calm, conditions, laid).
  DERIVED. THE GIVEN ROWS OF THIS SEAT. 5 by the template 'for every input the law returns true; each argument reads behind the call as it read before'; 0 by the template 'total and deterministic' (their statements: YtbgkgnhlfmidhaaGreatTotals.lean).
  GIVEN WITH THE SEED: the statements are not yours to turn. If you find one false, say at which input.
  Laid BY PROGRAM, IN A SANDBOX (cutbox-rows.mjs): the forced cells as the released guide's own fill.sh prints them over the translation 297bbfb95d0da606… (all of the seat's roots in one cut). By AI agents, Wed Nov 11 2026. No macro, syntax, notation, axiom, sorry.
-/
import Derived.Test.YtbgkgnhlfmidhaaGreatChecked
import GoSem.Claim
import GoSem.ClaimJoined
import GoSem.ClaimMapViews
import Derived.JoinedTies
import Derived.KernelRfl
namespace Go.Proofs.YtbgkgnhlfmidhaaGreat
/- THE CELL 'sum', in the pinned program and in every row, IS THE sha256 OF THE DUMP (.gsa) THAT YtbgkgnhlfmidhaaGreatProg.lean LOADS. Nothing in Lean hashes anything: it is a label: what it is worth is what the hold of that sum in a sandbox is worth. -/
noncomputable def Tryz.pinned : Pinned := { name := "ytbgkgnhlfmidhaagreat", sum := "297bbfb95d0da60642fc42133480ff5aad99d90e5ea645f01c99865a6efc0723", checked := Tryz.checked }
namespace Rows
def none {H : Type} : Left H := { results := [], args := [] }

/-- 'laws.FnExactReceiveSignal': WHATEVER THE INPUT: true; the input reads as it did. -/
def fnExactReceiveSignalSpec : ChangeSpec := { name := "fnExactReceiveSignal", fn := fun _ => fun
  | [d1, d2] => { results := [.lit (.bool true)], args := [d1, d2] }
  | _ => none }
def fnExactReceiveSignalRow : OpenClaim := { program := "ytbgkgnhlfmidhaagreat", sum := "297bbfb95d0da60642fc42133480ff5aad99d90e5ea645f01c99865a6efc0723", func := "loop.example/g00509/laws.FnExactReceiveSignal", spec := "fnExactReceiveSignal", apart := false }
def FnExactReceiveSignalSaid : Prop := fnExactReceiveSignalRow.holds Tryz.pinned (OpenSpec.ofChange fnExactReceiveSignalSpec)

/-- ITS FALSE NEIGHBOUR: 'it returns false'. Refute it at one input. -/
def fnExactReceiveSignalWrong : ChangeSpec := { name := "fnExactReceiveSignal", fn := fun _ => fun
  | [d1, d2] => { results := [.lit (.bool false)], args := [d1, d2] }
  | _ => none }
def FnExactReceiveSignalWrongFalsely : Prop := fnExactReceiveSignalRow.holds Tryz.pinned (OpenSpec.ofChange fnExactReceiveSignalWrong)

/-- 'laws.FnExactReceiveRadio': WHATEVER THE INPUT: true; the input reads as it did. -/
def fnExactReceiveRadioSpec : ChangeSpec := { name := "fnExactReceiveRadio", fn := fun _ => fun
  | [d1, d2] => { results := [.lit (.bool true)], args := [d1, d2] }
  | _ => none }
def fnExactReceiveRadioRow : OpenClaim := { program := "ytbgkgnhlfmidhaagreat", sum := "297bbfb95d0da60642fc42133480ff5aad99d90e5ea645f01c99865a6efc0723", func := "loop.example/g00509/laws.FnExactReceiveRadio", spec := "fnExactReceiveRadio", apart := false }
def FnExactReceiveRadioSaid : Prop := fnExactReceiveRadioRow.holds Tryz.pinned (OpenSpec.ofChange fnExactReceiveRadioSpec)

/-- ITS FALSE NEIGHBOUR: 'it returns false'. Refute it at one input. -/
def fnExactReceiveRadioWrong : ChangeSpec := { name := "fnExactReceiveRadio", fn := fun _ => fun
  | [d1, d2] => { results := [.lit (.bool false)], args := [d1, d2] }
  | _ => none }
def FnExactReceiveRadioWrongFalsely : Prop := fnExactReceiveRadioRow.holds Tryz.pinned (OpenSpec.ofChange fnExactReceiveRadioWrong)

/-- 'laws.FnExactEnsureQuota': WHATEVER THE INPUT: true; the input reads as it did. -/
def fnExactEnsureQuotaSpec : ChangeSpec := { name := "fnExactEnsureQuota", fn := fun _ => fun
  | [d1, d2, d3] => { results := [.lit (.bool true)], args := [d1, d2, d3] }
  | _ => none }
def fnExactEnsureQuotaRow : OpenClaim := { program := "ytbgkgnhlfmidhaagreat", sum := "297bbfb95d0da60642fc42133480ff5aad99d90e5ea645f01c99865a6efc0723", func := "loop.example/g00509/laws.FnExactEnsureQuota", spec := "fnExactEnsureQuota", apart := false }
def FnExactEnsureQuotaSaid : Prop := fnExactEnsureQuotaRow.holds Tryz.pinned (OpenSpec.ofChange fnExactEnsureQuotaSpec)

/-- ITS FALSE NEIGHBOUR: 'it returns false'. Refute it at one input. -/
def fnExactEnsureQuotaWrong : ChangeSpec := { name := "fnExactEnsureQuota", fn := fun _ => fun
  | [d1, d2, d3] => { results := [.lit (.bool false)], args := [d1, d2, d3] }
  | _ => none }
def FnExactEnsureQuotaWrongFalsely : Prop := fnExactEnsureQuotaRow.holds Tryz.pinned (OpenSpec.ofChange fnExactEnsureQuotaWrong)

/-- 'laws.FnExactReceiveUplink': WHATEVER THE INPUT: true; the input reads as it did. -/
def fnExactReceiveUplinkSpec : ChangeSpec := { name := "fnExactReceiveUplink", fn := fun _ => fun
  | [d1, d2] => { results := [.lit (.bool true)], args := [d1, d2] }
  | _ => none }
def fnExactReceiveUplinkRow : OpenClaim := { program := "ytbgkgnhlfmidhaagreat", sum := "297bbfb95d0da60642fc42133480ff5aad99d90e5ea645f01c99865a6efc0723", func := "loop.example/g00509/laws.FnExactReceiveUplink", spec := "fnExactReceiveUplink", apart := false }
def FnExactReceiveUplinkSaid : Prop := fnExactReceiveUplinkRow.holds Tryz.pinned (OpenSpec.ofChange fnExactReceiveUplinkSpec)

/-- ITS FALSE NEIGHBOUR: 'it returns false'. Refute it at one input. -/
def fnExactReceiveUplinkWrong : ChangeSpec := { name := "fnExactReceiveUplink", fn := fun _ => fun
  | [d1, d2] => { results := [.lit (.bool false)], args := [d1, d2] }
  | _ => none }
def FnExactReceiveUplinkWrongFalsely : Prop := fnExactReceiveUplinkRow.holds Tryz.pinned (OpenSpec.ofChange fnExactReceiveUplinkWrong)

/-- 'laws.FnExactSendNew': WHATEVER THE INPUT: true; the input reads as it did. -/
def fnExactSendNewSpec : ChangeSpec := { name := "fnExactSendNew", fn := fun _ => fun
  | [d1, d2] => { results := [.lit (.bool true)], args := [d1, d2] }
  | _ => none }
def fnExactSendNewRow : OpenClaim := { program := "ytbgkgnhlfmidhaagreat", sum := "297bbfb95d0da60642fc42133480ff5aad99d90e5ea645f01c99865a6efc0723", func := "loop.example/g00509/laws.FnExactSendNew", spec := "fnExactSendNew", apart := false }
def FnExactSendNewSaid : Prop := fnExactSendNewRow.holds Tryz.pinned (OpenSpec.ofChange fnExactSendNewSpec)

/-- ITS FALSE NEIGHBOUR: 'it returns false'. Refute it at one input. -/
def fnExactSendNewWrong : ChangeSpec := { name := "fnExactSendNew", fn := fun _ => fun
  | [d1, d2] => { results := [.lit (.bool false)], args := [d1, d2] }
  | _ => none }
def FnExactSendNewWrongFalsely : Prop := fnExactSendNewRow.holds Tryz.pinned (OpenSpec.ofChange fnExactSendNewWrong)

/- THE SECOND FORM. 'bulk': how many values and letters a reading holds, each counted each time it is reached (what is shared counts as often as it is met; a slice's spare places count too). A statement '..UptoSaid' is the law's where the arguments, and the package variables that the reading takes, are together of bulk at most 1048576: NARROWER than '..Said'. Prove '..Said' where nothing that the law and all that it calls make is longer than what came in: it says more and counts as full. Else prove '..UptoSaid'. A law counts once. -/
mutual
def uptoBulk {H : Type} : DataW H → Nat
  | .lit (.string bytes) => bytes.length + 1
  | .lit _ => 1
  | .nil => 1
  | .ptr d => uptoBulk d + 1
  | .slice elems spare => uptoBulkAll elems + uptoBulkAll spare + 1
  | .agg parts => uptoBulkAll parts + 1
  | .iface _ d => uptoBulk d + 1
  | .map entries => uptoBulkEntries entries + 1
  | .held _ => 1
def uptoBulkAll {H : Type} : List (DataW H) → Nat
  | [] => 0
  | d :: r => uptoBulk d + uptoBulkAll r
def uptoBulkEntries {H : Type} : List (Lit × DataW H) → Nat
  | [] => 0
  | x :: r => uptoBulkEntry x + uptoBulkEntries r
def uptoBulkEntry {H : Type} : Lit × DataW H → Nat
  | (.string bytes, d) => bytes.length + uptoBulk d + 1
  | (_, d) => uptoBulk d + 1
 end
def uptoSmall : (H : Type) → List (DataW H) → Bool := fun _ ds => decide (uptoBulkAll ds ≤ 1048576)
def OpenSpec.upto (s : _root_.Go.ChangeSpec) : _root_.Go.OpenSpec := { _root_.Go.OpenSpec.ofChange s with cond := some uptoSmall }

/-- 'laws.FnExactReceiveSignal', WHERE WHAT IT READS IS OF BULK AT MOST 1048576: true; the input reads as it did. -/
def fnExactReceiveSignalUptoRow : OpenClaim := { program := "ytbgkgnhlfmidhaagreat", sum := "297bbfb95d0da60642fc42133480ff5aad99d90e5ea645f01c99865a6efc0723", func := "loop.example/g00509/laws.FnExactReceiveSignal", spec := "fnExactReceiveSignal", apart := false, narrowed := true }
def FnExactReceiveSignalUptoSaid : Prop := fnExactReceiveSignalUptoRow.holds Tryz.pinned (OpenSpec.upto fnExactReceiveSignalSpec)

/-- 'laws.FnExactReceiveRadio', WHERE WHAT IT READS IS OF BULK AT MOST 1048576: true; the input reads as it did. -/
def fnExactReceiveRadioUptoRow : OpenClaim := { program := "ytbgkgnhlfmidhaagreat", sum := "297bbfb95d0da60642fc42133480ff5aad99d90e5ea645f01c99865a6efc0723", func := "loop.example/g00509/laws.FnExactReceiveRadio", spec := "fnExactReceiveRadio", apart := false, narrowed := true }
def FnExactReceiveRadioUptoSaid : Prop := fnExactReceiveRadioUptoRow.holds Tryz.pinned (OpenSpec.upto fnExactReceiveRadioSpec)

/-- 'laws.FnExactEnsureQuota', WHERE WHAT IT READS IS OF BULK AT MOST 1048576: true; the input reads as it did. -/
def fnExactEnsureQuotaUptoRow : OpenClaim := { program := "ytbgkgnhlfmidhaagreat", sum := "297bbfb95d0da60642fc42133480ff5aad99d90e5ea645f01c99865a6efc0723", func := "loop.example/g00509/laws.FnExactEnsureQuota", spec := "fnExactEnsureQuota", apart := false, narrowed := true }
def FnExactEnsureQuotaUptoSaid : Prop := fnExactEnsureQuotaUptoRow.holds Tryz.pinned (OpenSpec.upto fnExactEnsureQuotaSpec)

/-- 'laws.FnExactReceiveUplink', WHERE WHAT IT READS IS OF BULK AT MOST 1048576: true; the input reads as it did. -/
def fnExactReceiveUplinkUptoRow : OpenClaim := { program := "ytbgkgnhlfmidhaagreat", sum := "297bbfb95d0da60642fc42133480ff5aad99d90e5ea645f01c99865a6efc0723", func := "loop.example/g00509/laws.FnExactReceiveUplink", spec := "fnExactReceiveUplink", apart := false, narrowed := true }
def FnExactReceiveUplinkUptoSaid : Prop := fnExactReceiveUplinkUptoRow.holds Tryz.pinned (OpenSpec.upto fnExactReceiveUplinkSpec)

/-- 'laws.FnExactSendNew', WHERE WHAT IT READS IS OF BULK AT MOST 1048576: true; the input reads as it did. -/
def fnExactSendNewUptoRow : OpenClaim := { program := "ytbgkgnhlfmidhaagreat", sum := "297bbfb95d0da60642fc42133480ff5aad99d90e5ea645f01c99865a6efc0723", func := "loop.example/g00509/laws.FnExactSendNew", spec := "fnExactSendNew", apart := false, narrowed := true }
def FnExactSendNewUptoSaid : Prop := fnExactSendNewUptoRow.holds Tryz.pinned (OpenSpec.upto fnExactSendNewSpec)

end Rows
end Go.Proofs.YtbgkgnhlfmidhaaGreat
