/-
  No cell of these rows narrows 'for every input' (looked for: loops, veiled, ifaces, maps, wideKeys, modest, calm, conditions, laid).
  DERIVED. THE GIVEN ROWS OF THIS SEAT. 7 by the template 'for every input the law returns true; each argument reads behind the call as it read before'; 0 by the template 'total and deterministic' (their statements: YtcicoepkmiahbaaTotals.lean).
  GIVEN WITH THE SEED: the statements are not yours to turn. If you find one false, say at which input.
  Laid BY PROGRAM, IN A SANDBOX (cutbox-rows.mjs): the forced cells as the released guide's own fill.sh prints them over the translation 9d8c43907d7b9e0b… (all of the seat's roots in one cut). By AI agents, Wed Nov 11 2026. No macro, syntax, notation, axiom, sorry.
-/
import Derived.Test.YtcicoepkmiahbaaChecked
import GoSem.Claim
import GoSem.ClaimJoined
import GoSem.ClaimMapViews
import Derived.JoinedTies
import Derived.KernelRfl
namespace Go.Proofs.Ytcicoepkmiahbaa
/- THE CELL 'sum', in the pinned program and in every row, IS THE sha256 OF THE DUMP (.gsa) THAT YtcicoepkmiahbaaProg.lean LOADS. Nothing in Lean hashes anything: it is a label: what it is worth is what the hold of that sum in a sandbox is worth. -/
noncomputable def Try.pinned : Pinned := { name := "ytcicoepkmiahbaa", sum := "9d8c43907d7b9e0b1e0356543986f5d1cae5aa5e31e65f5e5ad093ec2ee933cb", checked := Try.checked }
namespace Rows
def none {H : Type} : Left H := { results := [], args := [] }

/-- 'tithinglaw51.BudgetOf': WHATEVER THE INPUT: true; the input reads as it did. -/
def budgetOfSpec : ChangeSpec := { name := "budgetOf", fn := fun _ => fun
  | [d] => { results := [.lit (.bool true)], args := [d] }
  | _ => none }
def budgetOfRow : OpenClaim := { program := "ytcicoepkmiahbaa", sum := "9d8c43907d7b9e0b1e0356543986f5d1cae5aa5e31e65f5e5ad093ec2ee933cb", func := "tithing/tithinglaw51.BudgetOf", spec := "budgetOf", apart := false }
def BudgetOfSaid : Prop := budgetOfRow.holds Try.pinned (OpenSpec.ofChange budgetOfSpec)

/-- ITS FALSE NEIGHBOUR: 'it returns false'. Refute it at one input. -/
def budgetOfWrong : ChangeSpec := { name := "budgetOf", fn := fun _ => fun
  | [d] => { results := [.lit (.bool false)], args := [d] }
  | _ => none }
def BudgetOfWrongFalsely : Prop := budgetOfRow.holds Try.pinned (OpenSpec.ofChange budgetOfWrong)

/-- 'tithinglaw29.PaceTurns': WHATEVER THE INPUT: true; the input reads as it did. -/
def paceTurnsSpec : ChangeSpec := { name := "paceTurns", fn := fun _ => fun
  | [d1, d2, d3] => { results := [.lit (.bool true)], args := [d1, d2, d3] }
  | _ => none }
def paceTurnsRow : OpenClaim := { program := "ytcicoepkmiahbaa", sum := "9d8c43907d7b9e0b1e0356543986f5d1cae5aa5e31e65f5e5ad093ec2ee933cb", func := "tithing/tithinglaw29.PaceTurns", spec := "paceTurns", apart := false }
def PaceTurnsSaid : Prop := paceTurnsRow.holds Try.pinned (OpenSpec.ofChange paceTurnsSpec)

/-- ITS FALSE NEIGHBOUR: 'it returns false'. Refute it at one input. -/
def paceTurnsWrong : ChangeSpec := { name := "paceTurns", fn := fun _ => fun
  | [d1, d2, d3] => { results := [.lit (.bool false)], args := [d1, d2, d3] }
  | _ => none }
def PaceTurnsWrongFalsely : Prop := paceTurnsRow.holds Try.pinned (OpenSpec.ofChange paceTurnsWrong)

/-- 'tithinglaw29.PaceWaits': WHATEVER THE INPUT: true; the input reads as it did. -/
def paceWaitsSpec : ChangeSpec := { name := "paceWaits", fn := fun _ => fun
  | [d1, d2, d3] => { results := [.lit (.bool true)], args := [d1, d2, d3] }
  | _ => none }
def paceWaitsRow : OpenClaim := { program := "ytcicoepkmiahbaa", sum := "9d8c43907d7b9e0b1e0356543986f5d1cae5aa5e31e65f5e5ad093ec2ee933cb", func := "tithing/tithinglaw29.PaceWaits", spec := "paceWaits", apart := false }
def PaceWaitsSaid : Prop := paceWaitsRow.holds Try.pinned (OpenSpec.ofChange paceWaitsSpec)

/-- ITS FALSE NEIGHBOUR: 'it returns false'. Refute it at one input. -/
def paceWaitsWrong : ChangeSpec := { name := "paceWaits", fn := fun _ => fun
  | [d1, d2, d3] => { results := [.lit (.bool false)], args := [d1, d2, d3] }
  | _ => none }
def PaceWaitsWrongFalsely : Prop := paceWaitsRow.holds Try.pinned (OpenSpec.ofChange paceWaitsWrong)

/-- 'tithinglaw12.CounterUps': WHATEVER THE INPUT: true; the input reads as it did. -/
def counterUpsSpec : ChangeSpec := { name := "counterUps", fn := fun _ => fun
  | [d1, d2, d3] => { results := [.lit (.bool true)], args := [d1, d2, d3] }
  | _ => none }
def counterUpsRow : OpenClaim := { program := "ytcicoepkmiahbaa", sum := "9d8c43907d7b9e0b1e0356543986f5d1cae5aa5e31e65f5e5ad093ec2ee933cb", func := "tithing/tithinglaw12.CounterUps", spec := "counterUps", inPlace := ["sync/atomic.StoreInt64", "sync/atomic.LoadInt64", "sync/atomic.AddInt64"], apart := false }
def CounterUpsSaid : Prop := counterUpsRow.holds Try.pinned (OpenSpec.ofChange counterUpsSpec)

/-- ITS FALSE NEIGHBOUR: 'it returns false'. Refute it at one input. -/
def counterUpsWrong : ChangeSpec := { name := "counterUps", fn := fun _ => fun
  | [d1, d2, d3] => { results := [.lit (.bool false)], args := [d1, d2, d3] }
  | _ => none }
def CounterUpsWrongFalsely : Prop := counterUpsRow.holds Try.pinned (OpenSpec.ofChange counterUpsWrong)

/-- 'tithinglaw12.CounterNobody': WHATEVER THE INPUT: true; the input reads as it did. -/
def counterNobodySpec : ChangeSpec := { name := "counterNobody", fn := fun _ => fun
  | [d] => { results := [.lit (.bool true)], args := [d] }
  | _ => none }
def counterNobodyRow : OpenClaim := { program := "ytcicoepkmiahbaa", sum := "9d8c43907d7b9e0b1e0356543986f5d1cae5aa5e31e65f5e5ad093ec2ee933cb", func := "tithing/tithinglaw12.CounterNobody", spec := "counterNobody", inPlace := ["sync/atomic.LoadInt64", "sync/atomic.AddInt64", "sync/atomic.StoreInt64"], apart := false }
def CounterNobodySaid : Prop := counterNobodyRow.holds Try.pinned (OpenSpec.ofChange counterNobodySpec)

/-- ITS FALSE NEIGHBOUR: 'it returns false'. Refute it at one input. -/
def counterNobodyWrong : ChangeSpec := { name := "counterNobody", fn := fun _ => fun
  | [d] => { results := [.lit (.bool false)], args := [d] }
  | _ => none }
def CounterNobodyWrongFalsely : Prop := counterNobodyRow.holds Try.pinned (OpenSpec.ofChange counterNobodyWrong)

/-- 'tithinglaw52.RateWaits': WHATEVER THE INPUT: true; the input reads as it did. -/
def rateWaitsSpec : ChangeSpec := { name := "rateWaits", fn := fun _ => fun
  | [d1, d2] => { results := [.lit (.bool true)], args := [d1, d2] }
  | _ => none }
def rateWaitsRow : OpenClaim := { program := "ytcicoepkmiahbaa", sum := "9d8c43907d7b9e0b1e0356543986f5d1cae5aa5e31e65f5e5ad093ec2ee933cb", func := "tithing/tithinglaw52.RateWaits", spec := "rateWaits", apart := false }
def RateWaitsSaid : Prop := rateWaitsRow.holds Try.pinned (OpenSpec.ofChange rateWaitsSpec)

/-- ITS FALSE NEIGHBOUR: 'it returns false'. Refute it at one input. -/
def rateWaitsWrong : ChangeSpec := { name := "rateWaits", fn := fun _ => fun
  | [d1, d2] => { results := [.lit (.bool false)], args := [d1, d2] }
  | _ => none }
def RateWaitsWrongFalsely : Prop := rateWaitsRow.holds Try.pinned (OpenSpec.ofChange rateWaitsWrong)

/-- 'tithinglaw52.RateTurns': WHATEVER THE INPUT: true; the input reads as it did. -/
def rateTurnsSpec : ChangeSpec := { name := "rateTurns", fn := fun _ => fun
  | [d1, d2, d3] => { results := [.lit (.bool true)], args := [d1, d2, d3] }
  | _ => none }
def rateTurnsRow : OpenClaim := { program := "ytcicoepkmiahbaa", sum := "9d8c43907d7b9e0b1e0356543986f5d1cae5aa5e31e65f5e5ad093ec2ee933cb", func := "tithing/tithinglaw52.RateTurns", spec := "rateTurns", apart := false }
def RateTurnsSaid : Prop := rateTurnsRow.holds Try.pinned (OpenSpec.ofChange rateTurnsSpec)

/-- ITS FALSE NEIGHBOUR: 'it returns false'. Refute it at one input. -/
def rateTurnsWrong : ChangeSpec := { name := "rateTurns", fn := fun _ => fun
  | [d1, d2, d3] => { results := [.lit (.bool false)], args := [d1, d2, d3] }
  | _ => none }
def RateTurnsWrongFalsely : Prop := rateTurnsRow.holds Try.pinned (OpenSpec.ofChange rateTurnsWrong)

/- THE SECOND FORM. 'bulk': how many values and letters a reading holds, each counted each time it is reached (what is shared counts as often as it is met; a slice's spare places count too). A statement '..UptoSaid' is the law's where the arguments, and the package variables that the reading takes, are together of bulk at most 1048576: NARROWER than '..Said'. Prove '..Said' where nothing that the law and all that it calls make is longer than what came in: it says more and counts as full. Else prove '..UptoSaid'. A law counts once. -/
mutual
def uptoBulk {H : Type} : DataW H → Nat
  | .lit (.string bytes) => bytes.length + 1
  | .lit _ => 1
  | .nil => 1
  | .ptr d => uptoBulk d + 1
  | .slice elems spare => uptoBulkAll elems + uptoBulkAll spare + 1
  | .agg parts => uptoBulkAll parts + 1
  | .iface _ d => uptoBulk d + 1
  | .map entries => uptoBulkEntries entries + 1
  | .held _ => 1
def uptoBulkAll {H : Type} : List (DataW H) → Nat
  | [] => 0
  | d :: r => uptoBulk d + uptoBulkAll r
def uptoBulkEntries {H : Type} : List (Lit × DataW H) → Nat
  | [] => 0
  | x :: r => uptoBulkEntry x + uptoBulkEntries r
def uptoBulkEntry {H : Type} : Lit × DataW H → Nat
  | (.string bytes, d) => bytes.length + uptoBulk d + 1
  | (_, d) => uptoBulk d + 1
 end
def uptoSmall : (H : Type) → List (DataW H) → Bool := fun _ ds => decide (uptoBulkAll ds ≤ 1048576)
def OpenSpec.upto (s : _root_.Go.ChangeSpec) : _root_.Go.OpenSpec := { _root_.Go.OpenSpec.ofChange s with cond := some uptoSmall }

/-- 'tithinglaw51.BudgetOf', WHERE WHAT IT READS IS OF BULK AT MOST 1048576: true; the input reads as it did. -/
def budgetOfUptoRow : OpenClaim := { program := "ytcicoepkmiahbaa", sum := "9d8c43907d7b9e0b1e0356543986f5d1cae5aa5e31e65f5e5ad093ec2ee933cb", func := "tithing/tithinglaw51.BudgetOf", spec := "budgetOf", apart := false, narrowed := true }
def BudgetOfUptoSaid : Prop := budgetOfUptoRow.holds Try.pinned (OpenSpec.upto budgetOfSpec)

/-- 'tithinglaw29.PaceTurns', WHERE WHAT IT READS IS OF BULK AT MOST 1048576: true; the input reads as it did. -/
def paceTurnsUptoRow : OpenClaim := { program := "ytcicoepkmiahbaa", sum := "9d8c43907d7b9e0b1e0356543986f5d1cae5aa5e31e65f5e5ad093ec2ee933cb", func := "tithing/tithinglaw29.PaceTurns", spec := "paceTurns", apart := false, narrowed := true }
def PaceTurnsUptoSaid : Prop := paceTurnsUptoRow.holds Try.pinned (OpenSpec.upto paceTurnsSpec)

/-- 'tithinglaw29.PaceWaits', WHERE WHAT IT READS IS OF BULK AT MOST 1048576: true; the input reads as it did. -/
def paceWaitsUptoRow : OpenClaim := { program := "ytcicoepkmiahbaa", sum := "9d8c43907d7b9e0b1e0356543986f5d1cae5aa5e31e65f5e5ad093ec2ee933cb", func := "tithing/tithinglaw29.PaceWaits", spec := "paceWaits", apart := false, narrowed := true }
def PaceWaitsUptoSaid : Prop := paceWaitsUptoRow.holds Try.pinned (OpenSpec.upto paceWaitsSpec)

/-- 'tithinglaw12.CounterUps', WHERE WHAT IT READS IS OF BULK AT MOST 1048576: true; the input reads as it did. -/
def counterUpsUptoRow : OpenClaim := { program := "ytcicoepkmiahbaa", sum := "9d8c43907d7b9e0b1e0356543986f5d1cae5aa5e31e65f5e5ad093ec2ee933cb", func := "tithing/tithinglaw12.CounterUps", spec := "counterUps", inPlace := ["sync/atomic.StoreInt64", "sync/atomic.LoadInt64", "sync/atomic.AddInt64"], apart := false, narrowed := true }
def CounterUpsUptoSaid : Prop := counterUpsUptoRow.holds Try.pinned (OpenSpec.upto counterUpsSpec)

/-- 'tithinglaw12.CounterNobody', WHERE WHAT IT READS IS OF BULK AT MOST 1048576: true; the input reads as it did. -/
def counterNobodyUptoRow : OpenClaim := { program := "ytcicoepkmiahbaa", sum := "9d8c43907d7b9e0b1e0356543986f5d1cae5aa5e31e65f5e5ad093ec2ee933cb", func := "tithing/tithinglaw12.CounterNobody", spec := "counterNobody", inPlace := ["sync/atomic.LoadInt64", "sync/atomic.AddInt64", "sync/atomic.StoreInt64"], apart := false, narrowed := true }
def CounterNobodyUptoSaid : Prop := counterNobodyUptoRow.holds Try.pinned (OpenSpec.upto counterNobodySpec)

/-- 'tithinglaw52.RateWaits', WHERE WHAT IT READS IS OF BULK AT MOST 1048576: true; the input reads as it did. -/
def rateWaitsUptoRow : OpenClaim := { program := "ytcicoepkmiahbaa", sum := "9d8c43907d7b9e0b1e0356543986f5d1cae5aa5e31e65f5e5ad093ec2ee933cb", func := "tithing/tithinglaw52.RateWaits", spec := "rateWaits", apart := false, narrowed := true }
def RateWaitsUptoSaid : Prop := rateWaitsUptoRow.holds Try.pinned (OpenSpec.upto rateWaitsSpec)

/-- 'tithinglaw52.RateTurns', WHERE WHAT IT READS IS OF BULK AT MOST 1048576: true; the input reads as it did. -/
def rateTurnsUptoRow : OpenClaim := { program := "ytcicoepkmiahbaa", sum := "9d8c43907d7b9e0b1e0356543986f5d1cae5aa5e31e65f5e5ad093ec2ee933cb", func := "tithing/tithinglaw52.RateTurns", spec := "rateTurns", apart := false, narrowed := true }
def RateTurnsUptoSaid : Prop := rateTurnsUptoRow.holds Try.pinned (OpenSpec.upto rateTurnsSpec)

end Rows
end Go.Proofs.Ytcicoepkmiahbaa
