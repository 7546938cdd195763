/-
  No cell of these rows narrows 'for every input' (looked for: loops, veiled, ifaces, maps, wideKeys, modest, calm, conditions, laid).
  DERIVED. THE GIVEN ROWS OF THIS SEAT. 6 by the template 'for every input the law returns true; each argument reads behind the call as it read before'; 0 by the template 'total and deterministic' (their statements: YthbkjppaimjpmaaTotals.lean).
  GIVEN WITH THE SEED: the statements are not yours to turn. If you find one false, say at which input.
  Laid BY PROGRAM, IN A SANDBOX (cutbox-rows.mjs): the forced cells as the released guide's own fill.sh prints them over the translation ed7694fe96094046… (all of the seat's roots in one cut). By AI agents, Wed Nov 11 2026. No macro, syntax, notation, axiom, sorry.
-/
import Derived.Test.YthbkjppaimjpmaaChecked
import GoSem.Claim
import GoSem.ClaimJoined
import GoSem.ClaimMapViews
import Derived.JoinedTies
import Derived.KernelRfl
namespace Go.Proofs.Ythbkjppaimjpmaa
/- THE CELL 'sum', in the pinned program and in every row, IS THE sha256 OF THE DUMP (.gsa) THAT YthbkjppaimjpmaaProg.lean LOADS. Nothing in Lean hashes anything: it is a label: what it is worth is what the hold of that sum in a sandbox is worth. -/
noncomputable def Try.pinned : Pinned := { name := "ythbkjppaimjpmaa", sum := "ed7694fe96094046c15d98d7c466c70ded63816bdac429eaa385d22c83889694", checked := Try.checked }
namespace Rows
def none {H : Type} : Left H := { results := [], args := [] }

/-- 'graverlaw01.OrderNumbers': WHATEVER THE INPUT: true; the input reads as it did. -/
def orderNumbersSpec : ChangeSpec := { name := "orderNumbers", fn := fun _ => fun
  | [d1, d2, d3] => { results := [.lit (.bool true)], args := [d1, d2, d3] }
  | _ => none }
def orderNumbersRow : OpenClaim := { program := "ythbkjppaimjpmaa", sum := "ed7694fe96094046c15d98d7c466c70ded63816bdac429eaa385d22c83889694", func := "graver/graverlaw01.OrderNumbers", spec := "orderNumbers", apart := false }
def OrderNumbersSaid : Prop := orderNumbersRow.holds Try.pinned (OpenSpec.ofChange orderNumbersSpec)

/-- ITS FALSE NEIGHBOUR: 'it returns false'. Refute it at one input. -/
def orderNumbersWrong : ChangeSpec := { name := "orderNumbers", fn := fun _ => fun
  | [d1, d2, d3] => { results := [.lit (.bool false)], args := [d1, d2, d3] }
  | _ => none }
def OrderNumbersWrongFalsely : Prop := orderNumbersRow.holds Try.pinned (OpenSpec.ofChange orderNumbersWrong)

/-- 'graverlaw01.OrderSigned': WHATEVER THE INPUT: true; the input reads as it did. -/
def orderSignedSpec : ChangeSpec := { name := "orderSigned", fn := fun _ => fun
  | [d1, d2, d3] => { results := [.lit (.bool true)], args := [d1, d2, d3] }
  | _ => none }
def orderSignedRow : OpenClaim := { program := "ythbkjppaimjpmaa", sum := "ed7694fe96094046c15d98d7c466c70ded63816bdac429eaa385d22c83889694", func := "graver/graverlaw01.OrderSigned", spec := "orderSigned", apart := false }
def OrderSignedSaid : Prop := orderSignedRow.holds Try.pinned (OpenSpec.ofChange orderSignedSpec)

/-- ITS FALSE NEIGHBOUR: 'it returns false'. Refute it at one input. -/
def orderSignedWrong : ChangeSpec := { name := "orderSigned", fn := fun _ => fun
  | [d1, d2, d3] => { results := [.lit (.bool false)], args := [d1, d2, d3] }
  | _ => none }
def OrderSignedWrongFalsely : Prop := orderSignedRow.holds Try.pinned (OpenSpec.ofChange orderSignedWrong)

/-- 'graverlaw01.OrderReads': WHATEVER THE INPUT: true; the input reads as it did. -/
def orderReadsSpec : ChangeSpec := { name := "orderReads", fn := fun _ => fun
  | [d1, d2, d3] => { results := [.lit (.bool true)], args := [d1, d2, d3] }
  | _ => none }
def orderReadsRow : OpenClaim := { program := "ythbkjppaimjpmaa", sum := "ed7694fe96094046c15d98d7c466c70ded63816bdac429eaa385d22c83889694", func := "graver/graverlaw01.OrderReads", spec := "orderReads", apart := false }
def OrderReadsSaid : Prop := orderReadsRow.holds Try.pinned (OpenSpec.ofChange orderReadsSpec)

/-- ITS FALSE NEIGHBOUR: 'it returns false'. Refute it at one input. -/
def orderReadsWrong : ChangeSpec := { name := "orderReads", fn := fun _ => fun
  | [d1, d2, d3] => { results := [.lit (.bool false)], args := [d1, d2, d3] }
  | _ => none }
def OrderReadsWrongFalsely : Prop := orderReadsRow.holds Try.pinned (OpenSpec.ofChange orderReadsWrong)

/-- 'graverlaw01.OrderFields': WHATEVER THE INPUT: true; the input reads as it did. -/
def orderFieldsSpec : ChangeSpec := { name := "orderFields", fn := fun _ => fun
  | [d1, d2, d3] => { results := [.lit (.bool true)], args := [d1, d2, d3] }
  | _ => none }
def orderFieldsRow : OpenClaim := { program := "ythbkjppaimjpmaa", sum := "ed7694fe96094046c15d98d7c466c70ded63816bdac429eaa385d22c83889694", func := "graver/graverlaw01.OrderFields", spec := "orderFields", inPlace := ["internal/abi.NoEscape"], apart := false }
def OrderFieldsSaid : Prop := orderFieldsRow.holds Try.pinned (OpenSpec.ofChange orderFieldsSpec)

/-- ITS FALSE NEIGHBOUR: 'it returns false'. Refute it at one input. -/
def orderFieldsWrong : ChangeSpec := { name := "orderFields", fn := fun _ => fun
  | [d1, d2, d3] => { results := [.lit (.bool false)], args := [d1, d2, d3] }
  | _ => none }
def OrderFieldsWrongFalsely : Prop := orderFieldsRow.holds Try.pinned (OpenSpec.ofChange orderFieldsWrong)

/-- 'graverlaw04.FormRecords': WHATEVER THE INPUT: true; the input reads as it did. -/
def formRecordsSpec : ChangeSpec := { name := "formRecords", fn := fun _ => fun
  | [d1, d2, d3] => { results := [.lit (.bool true)], args := [d1, d2, d3] }
  | _ => none }
def formRecordsRow : OpenClaim := { program := "ythbkjppaimjpmaa", sum := "ed7694fe96094046c15d98d7c466c70ded63816bdac429eaa385d22c83889694", func := "graver/graverlaw04.FormRecords", spec := "formRecords", inPlace := ["internal/abi.NoEscape"], apart := false }
def FormRecordsSaid : Prop := formRecordsRow.holds Try.pinned (OpenSpec.ofChange formRecordsSpec)

/-- ITS FALSE NEIGHBOUR: 'it returns false'. Refute it at one input. -/
def formRecordsWrong : ChangeSpec := { name := "formRecords", fn := fun _ => fun
  | [d1, d2, d3] => { results := [.lit (.bool false)], args := [d1, d2, d3] }
  | _ => none }
def FormRecordsWrongFalsely : Prop := formRecordsRow.holds Try.pinned (OpenSpec.ofChange formRecordsWrong)

/-- 'graverlaw09.RelrecSizes': WHATEVER THE INPUT: true; the input reads as it did. -/
def relrecSizesSpec : ChangeSpec := { name := "relrecSizes", fn := fun _ => fun
  | [d] => { results := [.lit (.bool true)], args := [d] }
  | _ => none }
def relrecSizesRow : OpenClaim := { program := "ythbkjppaimjpmaa", sum := "ed7694fe96094046c15d98d7c466c70ded63816bdac429eaa385d22c83889694", func := "graver/graverlaw09.RelrecSizes", spec := "relrecSizes", inPlace := ["internal/abi.NoEscape"], apart := false }
def RelrecSizesSaid : Prop := relrecSizesRow.holds Try.pinned (OpenSpec.ofChange relrecSizesSpec)

/-- ITS FALSE NEIGHBOUR: 'it returns false'. Refute it at one input. -/
def relrecSizesWrong : ChangeSpec := { name := "relrecSizes", fn := fun _ => fun
  | [d] => { results := [.lit (.bool false)], args := [d] }
  | _ => none }
def RelrecSizesWrongFalsely : Prop := relrecSizesRow.holds Try.pinned (OpenSpec.ofChange relrecSizesWrong)

/- THE SECOND FORM. 'bulk': how many values and letters a reading holds, each counted each time it is reached (what is shared counts as often as it is met; a slice's spare places count too). A statement '..UptoSaid' is the law's where the arguments, and the package variables that the reading takes, are together of bulk at most 1048576: NARROWER than '..Said'. Prove '..Said' where nothing that the law and all that it calls make is longer than what came in: it says more and counts as full. Else prove '..UptoSaid'. A law counts once. -/
mutual
def uptoBulk {H : Type} : DataW H → Nat
  | .lit (.string bytes) => bytes.length + 1
  | .lit _ => 1
  | .nil => 1
  | .ptr d => uptoBulk d + 1
  | .slice elems spare => uptoBulkAll elems + uptoBulkAll spare + 1
  | .agg parts => uptoBulkAll parts + 1
  | .iface _ d => uptoBulk d + 1
  | .map entries => uptoBulkEntries entries + 1
  | .held _ => 1
def uptoBulkAll {H : Type} : List (DataW H) → Nat
  | [] => 0
  | d :: r => uptoBulk d + uptoBulkAll r
def uptoBulkEntries {H : Type} : List (Lit × DataW H) → Nat
  | [] => 0
  | x :: r => uptoBulkEntry x + uptoBulkEntries r
def uptoBulkEntry {H : Type} : Lit × DataW H → Nat
  | (.string bytes, d) => bytes.length + uptoBulk d + 1
  | (_, d) => uptoBulk d + 1
 end
def uptoSmall : (H : Type) → List (DataW H) → Bool := fun _ ds => decide (uptoBulkAll ds ≤ 1048576)
def OpenSpec.upto (s : _root_.Go.ChangeSpec) : _root_.Go.OpenSpec := { _root_.Go.OpenSpec.ofChange s with cond := some uptoSmall }

/-- 'graverlaw01.OrderNumbers', WHERE WHAT IT READS IS OF BULK AT MOST 1048576: true; the input reads as it did. -/
def orderNumbersUptoRow : OpenClaim := { program := "ythbkjppaimjpmaa", sum := "ed7694fe96094046c15d98d7c466c70ded63816bdac429eaa385d22c83889694", func := "graver/graverlaw01.OrderNumbers", spec := "orderNumbers", apart := false, narrowed := true }
def OrderNumbersUptoSaid : Prop := orderNumbersUptoRow.holds Try.pinned (OpenSpec.upto orderNumbersSpec)

/-- 'graverlaw01.OrderSigned', WHERE WHAT IT READS IS OF BULK AT MOST 1048576: true; the input reads as it did. -/
def orderSignedUptoRow : OpenClaim := { program := "ythbkjppaimjpmaa", sum := "ed7694fe96094046c15d98d7c466c70ded63816bdac429eaa385d22c83889694", func := "graver/graverlaw01.OrderSigned", spec := "orderSigned", apart := false, narrowed := true }
def OrderSignedUptoSaid : Prop := orderSignedUptoRow.holds Try.pinned (OpenSpec.upto orderSignedSpec)

/-- 'graverlaw01.OrderReads', WHERE WHAT IT READS IS OF BULK AT MOST 1048576: true; the input reads as it did. -/
def orderReadsUptoRow : OpenClaim := { program := "ythbkjppaimjpmaa", sum := "ed7694fe96094046c15d98d7c466c70ded63816bdac429eaa385d22c83889694", func := "graver/graverlaw01.OrderReads", spec := "orderReads", apart := false, narrowed := true }
def OrderReadsUptoSaid : Prop := orderReadsUptoRow.holds Try.pinned (OpenSpec.upto orderReadsSpec)

/-- 'graverlaw01.OrderFields', WHERE WHAT IT READS IS OF BULK AT MOST 1048576: true; the input reads as it did. -/
def orderFieldsUptoRow : OpenClaim := { program := "ythbkjppaimjpmaa", sum := "ed7694fe96094046c15d98d7c466c70ded63816bdac429eaa385d22c83889694", func := "graver/graverlaw01.OrderFields", spec := "orderFields", inPlace := ["internal/abi.NoEscape"], apart := false, narrowed := true }
def OrderFieldsUptoSaid : Prop := orderFieldsUptoRow.holds Try.pinned (OpenSpec.upto orderFieldsSpec)

/-- 'graverlaw04.FormRecords', WHERE WHAT IT READS IS OF BULK AT MOST 1048576: true; the input reads as it did. -/
def formRecordsUptoRow : OpenClaim := { program := "ythbkjppaimjpmaa", sum := "ed7694fe96094046c15d98d7c466c70ded63816bdac429eaa385d22c83889694", func := "graver/graverlaw04.FormRecords", spec := "formRecords", inPlace := ["internal/abi.NoEscape"], apart := false, narrowed := true }
def FormRecordsUptoSaid : Prop := formRecordsUptoRow.holds Try.pinned (OpenSpec.upto formRecordsSpec)

/-- 'graverlaw09.RelrecSizes', WHERE WHAT IT READS IS OF BULK AT MOST 1048576: true; the input reads as it did. -/
def relrecSizesUptoRow : OpenClaim := { program := "ythbkjppaimjpmaa", sum := "ed7694fe96094046c15d98d7c466c70ded63816bdac429eaa385d22c83889694", func := "graver/graverlaw09.RelrecSizes", spec := "relrecSizes", inPlace := ["internal/abi.NoEscape"], apart := false, narrowed := true }
def RelrecSizesUptoSaid : Prop := relrecSizesUptoRow.holds Try.pinned (OpenSpec.upto relrecSizesSpec)

end Rows
end Go.Proofs.Ythbkjppaimjpmaa
