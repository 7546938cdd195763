/-
  No cell of these rows narrows 'for every input' (looked for: loops, veiled, ifaces, maps, wideKeys, modest, calm, conditions, laid).
  DERIVED. THE GIVEN ROWS OF THIS SEAT. 5 by the template 'for every input the law returns true; each argument reads behind the call as it read before'; 0 by the template 'total and deterministic' (their statements: YtjmjebbjfjgbeaaTotals.lean).
  GIVEN WITH THE SEED: the statements are not yours to turn. If you find one false, say at which input.
  Laid BY PROGRAM, IN A SANDBOX (cutbox-rows.mjs): the forced cells as the released guide's own fill.sh prints them over the translation 5e7e0021245d7900… (all of the seat's roots in one cut). By AI agents, Wed Nov 11 2026. No macro, syntax, notation, axiom, sorry.
-/
import Derived.Test.YtjmjebbjfjgbeaaChecked
import GoSem.Claim
import GoSem.ClaimJoined
import GoSem.ClaimMapViews
import Derived.JoinedTies
import Derived.KernelRfl
namespace Go.Proofs.Ytjmjebbjfjgbeaa
/- THE CELL 'sum', in the pinned program and in every row, IS THE sha256 OF THE DUMP (.gsa) THAT YtjmjebbjfjgbeaaProg.lean LOADS. Nothing in Lean hashes anything: it is a label: what it is worth is what the hold of that sum in a sandbox is worth. -/
noncomputable def Try.pinned : Pinned := { name := "ytjmjebbjfjgbeaa", sum := "5e7e0021245d790081d4f191e6359a197cb9d645060b8ee1df4882199fb77b43", checked := Try.checked }
namespace Rows
def none {H : Type} : Left H := { results := [], args := [] }

/-- 'graverlaw09.RelrecPuts': WHATEVER THE INPUT: true; the input reads as it did. -/
def relrecPutsSpec : ChangeSpec := { name := "relrecPuts", fn := fun _ => fun
  | [d1, d2, d3] => { results := [.lit (.bool true)], args := [d1, d2, d3] }
  | _ => none }
def relrecPutsRow : OpenClaim := { program := "ytjmjebbjfjgbeaa", sum := "5e7e0021245d790081d4f191e6359a197cb9d645060b8ee1df4882199fb77b43", func := "graver/graverlaw09.RelrecPuts", spec := "relrecPuts", inPlace := ["internal/abi.NoEscape"], apart := false }
def RelrecPutsSaid : Prop := relrecPutsRow.holds Try.pinned (OpenSpec.ofChange relrecPutsSpec)

/-- ITS FALSE NEIGHBOUR: 'it returns false'. Refute it at one input. -/
def relrecPutsWrong : ChangeSpec := { name := "relrecPuts", fn := fun _ => fun
  | [d1, d2, d3] => { results := [.lit (.bool false)], args := [d1, d2, d3] }
  | _ => none }
def RelrecPutsWrongFalsely : Prop := relrecPutsRow.holds Try.pinned (OpenSpec.ofChange relrecPutsWrong)

/-- 'graverlaw09.RelrecReads': WHATEVER THE INPUT: true; the input reads as it did. -/
def relrecReadsSpec : ChangeSpec := { name := "relrecReads", fn := fun _ => fun
  | [d1, d2] => { results := [.lit (.bool true)], args := [d1, d2] }
  | _ => none }
def relrecReadsRow : OpenClaim := { program := "ytjmjebbjfjgbeaa", sum := "5e7e0021245d790081d4f191e6359a197cb9d645060b8ee1df4882199fb77b43", func := "graver/graverlaw09.RelrecReads", spec := "relrecReads", inPlace := ["internal/abi.NoEscape"], apart := false }
def RelrecReadsSaid : Prop := relrecReadsRow.holds Try.pinned (OpenSpec.ofChange relrecReadsSpec)

/-- ITS FALSE NEIGHBOUR: 'it returns false'. Refute it at one input. -/
def relrecReadsWrong : ChangeSpec := { name := "relrecReads", fn := fun _ => fun
  | [d1, d2] => { results := [.lit (.bool false)], args := [d1, d2] }
  | _ => none }
def RelrecReadsWrongFalsely : Prop := relrecReadsRow.holds Try.pinned (OpenSpec.ofChange relrecReadsWrong)

/-- 'graverlaw09.RelrecAll': WHATEVER THE INPUT: true; the input reads as it did. -/
def relrecAllSpec : ChangeSpec := { name := "relrecAll", fn := fun _ => fun
  | [d1, d2, d3] => { results := [.lit (.bool true)], args := [d1, d2, d3] }
  | _ => none }
def relrecAllRow : OpenClaim := { program := "ytjmjebbjfjgbeaa", sum := "5e7e0021245d790081d4f191e6359a197cb9d645060b8ee1df4882199fb77b43", func := "graver/graverlaw09.RelrecAll", spec := "relrecAll", inPlace := ["internal/abi.NoEscape"], apart := false }
def RelrecAllSaid : Prop := relrecAllRow.holds Try.pinned (OpenSpec.ofChange relrecAllSpec)

/-- ITS FALSE NEIGHBOUR: 'it returns false'. Refute it at one input. -/
def relrecAllWrong : ChangeSpec := { name := "relrecAll", fn := fun _ => fun
  | [d1, d2, d3] => { results := [.lit (.bool false)], args := [d1, d2, d3] }
  | _ => none }
def RelrecAllWrongFalsely : Prop := relrecAllRow.holds Try.pinned (OpenSpec.ofChange relrecAllWrong)

/-- 'graverlaw04.FormReads': WHATEVER THE INPUT: true; the input reads as it did. -/
def formReadsSpec : ChangeSpec := { name := "formReads", fn := fun _ => fun
  | [d] => { results := [.lit (.bool true)], args := [d] }
  | _ => none }
def formReadsRow : OpenClaim := { program := "ytjmjebbjfjgbeaa", sum := "5e7e0021245d790081d4f191e6359a197cb9d645060b8ee1df4882199fb77b43", func := "graver/graverlaw04.FormReads", spec := "formReads", inPlace := ["internal/abi.NoEscape", "internal/bytealg.MakeNoZero"], apart := false }
def FormReadsSaid : Prop := formReadsRow.holds Try.pinned (OpenSpec.ofChange formReadsSpec)

/-- ITS FALSE NEIGHBOUR: 'it returns false'. Refute it at one input. -/
def formReadsWrong : ChangeSpec := { name := "formReads", fn := fun _ => fun
  | [d] => { results := [.lit (.bool false)], args := [d] }
  | _ => none }
def FormReadsWrongFalsely : Prop := formReadsRow.holds Try.pinned (OpenSpec.ofChange formReadsWrong)

/-- 'graverlaw04.FormPads': WHATEVER THE INPUT: true; the input reads as it did. -/
def formPadsSpec : ChangeSpec := { name := "formPads", fn := fun _ => fun
  | [d1, d2, d3] => { results := [.lit (.bool true)], args := [d1, d2, d3] }
  | _ => none }
def formPadsRow : OpenClaim := { program := "ytjmjebbjfjgbeaa", sum := "5e7e0021245d790081d4f191e6359a197cb9d645060b8ee1df4882199fb77b43", func := "graver/graverlaw04.FormPads", spec := "formPads", inPlace := ["internal/abi.NoEscape", "internal/bytealg.MakeNoZero"], apart := false }
def FormPadsSaid : Prop := formPadsRow.holds Try.pinned (OpenSpec.ofChange formPadsSpec)

/-- ITS FALSE NEIGHBOUR: 'it returns false'. Refute it at one input. -/
def formPadsWrong : ChangeSpec := { name := "formPads", fn := fun _ => fun
  | [d1, d2, d3] => { results := [.lit (.bool false)], args := [d1, d2, d3] }
  | _ => none }
def FormPadsWrongFalsely : Prop := formPadsRow.holds Try.pinned (OpenSpec.ofChange formPadsWrong)

/- THE SECOND FORM. 'bulk': how many values and letters a reading holds, each counted each time it is reached (what is shared counts as often as it is met; a slice's spare places count too). A statement '..UptoSaid' is the law's where the arguments, and the package variables that the reading takes, are together of bulk at most 1048576: NARROWER than '..Said'. Prove '..Said' where nothing that the law and all that it calls make is longer than what came in: it says more and counts as full. Else prove '..UptoSaid'. A law counts once. -/
mutual
def uptoBulk {H : Type} : DataW H → Nat
  | .lit (.string bytes) => bytes.length + 1
  | .lit _ => 1
  | .nil => 1
  | .ptr d => uptoBulk d + 1
  | .slice elems spare => uptoBulkAll elems + uptoBulkAll spare + 1
  | .agg parts => uptoBulkAll parts + 1
  | .iface _ d => uptoBulk d + 1
  | .map entries => uptoBulkEntries entries + 1
  | .held _ => 1
def uptoBulkAll {H : Type} : List (DataW H) → Nat
  | [] => 0
  | d :: r => uptoBulk d + uptoBulkAll r
def uptoBulkEntries {H : Type} : List (Lit × DataW H) → Nat
  | [] => 0
  | x :: r => uptoBulkEntry x + uptoBulkEntries r
def uptoBulkEntry {H : Type} : Lit × DataW H → Nat
  | (.string bytes, d) => bytes.length + uptoBulk d + 1
  | (_, d) => uptoBulk d + 1
 end
def uptoSmall : (H : Type) → List (DataW H) → Bool := fun _ ds => decide (uptoBulkAll ds ≤ 1048576)
def OpenSpec.upto (s : _root_.Go.ChangeSpec) : _root_.Go.OpenSpec := { _root_.Go.OpenSpec.ofChange s with cond := some uptoSmall }

/-- 'graverlaw09.RelrecPuts', WHERE WHAT IT READS IS OF BULK AT MOST 1048576: true; the input reads as it did. -/
def relrecPutsUptoRow : OpenClaim := { program := "ytjmjebbjfjgbeaa", sum := "5e7e0021245d790081d4f191e6359a197cb9d645060b8ee1df4882199fb77b43", func := "graver/graverlaw09.RelrecPuts", spec := "relrecPuts", inPlace := ["internal/abi.NoEscape"], apart := false, narrowed := true }
def RelrecPutsUptoSaid : Prop := relrecPutsUptoRow.holds Try.pinned (OpenSpec.upto relrecPutsSpec)

/-- 'graverlaw09.RelrecReads', WHERE WHAT IT READS IS OF BULK AT MOST 1048576: true; the input reads as it did. -/
def relrecReadsUptoRow : OpenClaim := { program := "ytjmjebbjfjgbeaa", sum := "5e7e0021245d790081d4f191e6359a197cb9d645060b8ee1df4882199fb77b43", func := "graver/graverlaw09.RelrecReads", spec := "relrecReads", inPlace := ["internal/abi.NoEscape"], apart := false, narrowed := true }
def RelrecReadsUptoSaid : Prop := relrecReadsUptoRow.holds Try.pinned (OpenSpec.upto relrecReadsSpec)

/-- 'graverlaw09.RelrecAll', WHERE WHAT IT READS IS OF BULK AT MOST 1048576: true; the input reads as it did. -/
def relrecAllUptoRow : OpenClaim := { program := "ytjmjebbjfjgbeaa", sum := "5e7e0021245d790081d4f191e6359a197cb9d645060b8ee1df4882199fb77b43", func := "graver/graverlaw09.RelrecAll", spec := "relrecAll", inPlace := ["internal/abi.NoEscape"], apart := false, narrowed := true }
def RelrecAllUptoSaid : Prop := relrecAllUptoRow.holds Try.pinned (OpenSpec.upto relrecAllSpec)

/-- 'graverlaw04.FormReads', WHERE WHAT IT READS IS OF BULK AT MOST 1048576: true; the input reads as it did. -/
def formReadsUptoRow : OpenClaim := { program := "ytjmjebbjfjgbeaa", sum := "5e7e0021245d790081d4f191e6359a197cb9d645060b8ee1df4882199fb77b43", func := "graver/graverlaw04.FormReads", spec := "formReads", inPlace := ["internal/abi.NoEscape", "internal/bytealg.MakeNoZero"], apart := false, narrowed := true }
def FormReadsUptoSaid : Prop := formReadsUptoRow.holds Try.pinned (OpenSpec.upto formReadsSpec)

/-- 'graverlaw04.FormPads', WHERE WHAT IT READS IS OF BULK AT MOST 1048576: true; the input reads as it did. -/
def formPadsUptoRow : OpenClaim := { program := "ytjmjebbjfjgbeaa", sum := "5e7e0021245d790081d4f191e6359a197cb9d645060b8ee1df4882199fb77b43", func := "graver/graverlaw04.FormPads", spec := "formPads", inPlace := ["internal/abi.NoEscape", "internal/bytealg.MakeNoZero"], apart := false, narrowed := true }
def FormPadsUptoSaid : Prop := formPadsUptoRow.holds Try.pinned (OpenSpec.upto formPadsSpec)

end Rows
end Go.Proofs.Ytjmjebbjfjgbeaa
