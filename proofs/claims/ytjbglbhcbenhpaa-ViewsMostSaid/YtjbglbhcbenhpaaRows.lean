/-
  No cell of these rows narrows 'for every input' (looked for: loops, veiled, ifaces, maps, wideKeys, modest, calm, conditions, laid).
  DERIVED. THE GIVEN ROWS OF THIS SEAT. 6 by the template 'for every input the law returns true; each argument reads behind the call as it read before'; 0 by the template 'total and deterministic' (their statements: YtjbglbhcbenhpaaTotals.lean).
  GIVEN WITH THE SEED: the statements are not yours to turn. If you find one false, say at which input.
  Laid BY PROGRAM, IN A SANDBOX (cutbox-rows.mjs): the forced cells as the released guide's own fill.sh prints them over the translation 398efc4fe31a64ea… (all of the seat's roots in one cut). By AI agents, Wed Nov 11 2026. No macro, syntax, notation, axiom, sorry.
-/
import Derived.Test.YtjbglbhcbenhpaaChecked
import GoSem.Claim
import GoSem.ClaimJoined
import GoSem.ClaimMapViews
import Derived.JoinedTies
import Derived.KernelRfl
namespace Go.Proofs.Ytjbglbhcbenhpaa
/- THE CELL 'sum', in the pinned program and in every row, IS THE sha256 OF THE DUMP (.gsa) THAT YtjbglbhcbenhpaaProg.lean LOADS. Nothing in Lean hashes anything: it is a label: what it is worth is what the hold of that sum in a sandbox is worth. -/
noncomputable def Try.pinned : Pinned := { name := "ytjbglbhcbenhpaa", sum := "398efc4fe31a64ea470e6faf711d8da8ee2c8edfe2ccb64401b2c200897a7395", checked := Try.checked }
namespace Rows
def none {H : Type} : Left H := { results := [], args := [] }

/-- 'tithinglaw36.BagActs': WHATEVER THE INPUT: true; the input reads as it did. -/
def bagActsSpec : ChangeSpec := { name := "bagActs", fn := fun _ => fun
  | [d1, d2] => { results := [.lit (.bool true)], args := [d1, d2] }
  | _ => none }
def bagActsRow : OpenClaim := { program := "ytjbglbhcbenhpaa", sum := "398efc4fe31a64ea470e6faf711d8da8ee2c8edfe2ccb64401b2c200897a7395", func := "tithing/tithinglaw36.BagActs", spec := "bagActs", unfollowed := true, recurses := true, apart := false }
def BagActsSaid : Prop := bagActsRow.holds Try.pinned (OpenSpec.ofChange bagActsSpec)

/-- ITS FALSE NEIGHBOUR: 'it returns false'. Refute it at one input. -/
def bagActsWrong : ChangeSpec := { name := "bagActs", fn := fun _ => fun
  | [d1, d2] => { results := [.lit (.bool false)], args := [d1, d2] }
  | _ => none }
def BagActsWrongFalsely : Prop := bagActsRow.holds Try.pinned (OpenSpec.ofChange bagActsWrong)

/-- 'tithinglaw36.BagNobody': WHATEVER THE INPUT: true; the input reads as it did. -/
def bagNobodySpec : ChangeSpec := { name := "bagNobody", fn := fun _ => fun
  | [d1, d2] => { results := [.lit (.bool true)], args := [d1, d2] }
  | _ => none }
def bagNobodyRow : OpenClaim := { program := "ytjbglbhcbenhpaa", sum := "398efc4fe31a64ea470e6faf711d8da8ee2c8edfe2ccb64401b2c200897a7395", func := "tithing/tithinglaw36.BagNobody", spec := "bagNobody", unfollowed := true, recurses := true, apart := false }
def BagNobodySaid : Prop := bagNobodyRow.holds Try.pinned (OpenSpec.ofChange bagNobodySpec)

/-- ITS FALSE NEIGHBOUR: 'it returns false'. Refute it at one input. -/
def bagNobodyWrong : ChangeSpec := { name := "bagNobody", fn := fun _ => fun
  | [d1, d2] => { results := [.lit (.bool false)], args := [d1, d2] }
  | _ => none }
def BagNobodyWrongFalsely : Prop := bagNobodyRow.holds Try.pinned (OpenSpec.ofChange bagNobodyWrong)

/-- 'tithinglaw24.LedgerOnce': WHATEVER THE INPUT: true; the input reads as it did. -/
def ledgerOnceSpec : ChangeSpec := { name := "ledgerOnce", fn := fun _ => fun
  | [d] => { results := [.lit (.bool true)], args := [d] }
  | _ => none }
def ledgerOnceRow : OpenClaim := { program := "ytjbglbhcbenhpaa", sum := "398efc4fe31a64ea470e6faf711d8da8ee2c8edfe2ccb64401b2c200897a7395", func := "tithing/tithinglaw24.LedgerOnce", spec := "ledgerOnce", inPlace := ["slices.overlaps[tithing/api.Account]", "internal/bytealg.abigen_runtime_cmpstring", "slices.overlaps[tithing/api.Pair]"], unfollowed := true, recurses := true, apart := false }
def LedgerOnceSaid : Prop := ledgerOnceRow.holds Try.pinned (OpenSpec.ofChange ledgerOnceSpec)

/-- ITS FALSE NEIGHBOUR: 'it returns false'. Refute it at one input. -/
def ledgerOnceWrong : ChangeSpec := { name := "ledgerOnce", fn := fun _ => fun
  | [d] => { results := [.lit (.bool false)], args := [d] }
  | _ => none }
def LedgerOnceWrongFalsely : Prop := ledgerOnceRow.holds Try.pinned (OpenSpec.ofChange ledgerOnceWrong)

/-- 'tithinglaw32.ViewsHears': WHATEVER THE INPUT: true; the input reads as it did. -/
def viewsHearsSpec : ChangeSpec := { name := "viewsHears", fn := fun _ => fun
  | [d1, d2, d3] => { results := [.lit (.bool true)], args := [d1, d2, d3] }
  | _ => none }
def viewsHearsRow : OpenClaim := { program := "ytjbglbhcbenhpaa", sum := "398efc4fe31a64ea470e6faf711d8da8ee2c8edfe2ccb64401b2c200897a7395", func := "tithing/tithinglaw32.ViewsHears", spec := "viewsHears", unfollowed := true, recurses := true, apart := false }
def ViewsHearsSaid : Prop := viewsHearsRow.holds Try.pinned (OpenSpec.ofChange viewsHearsSpec)

/-- ITS FALSE NEIGHBOUR: 'it returns false'. Refute it at one input. -/
def viewsHearsWrong : ChangeSpec := { name := "viewsHears", fn := fun _ => fun
  | [d1, d2, d3] => { results := [.lit (.bool false)], args := [d1, d2, d3] }
  | _ => none }
def ViewsHearsWrongFalsely : Prop := viewsHearsRow.holds Try.pinned (OpenSpec.ofChange viewsHearsWrong)

/-- 'tithinglaw32.ViewsRises': WHATEVER THE INPUT: true; the input reads as it did. -/
def viewsRisesSpec : ChangeSpec := { name := "viewsRises", fn := fun _ => fun
  | [d1, d2] => { results := [.lit (.bool true)], args := [d1, d2] }
  | _ => none }
def viewsRisesRow : OpenClaim := { program := "ytjbglbhcbenhpaa", sum := "398efc4fe31a64ea470e6faf711d8da8ee2c8edfe2ccb64401b2c200897a7395", func := "tithing/tithinglaw32.ViewsRises", spec := "viewsRises", unfollowed := true, recurses := true, apart := false }
def ViewsRisesSaid : Prop := viewsRisesRow.holds Try.pinned (OpenSpec.ofChange viewsRisesSpec)

/-- ITS FALSE NEIGHBOUR: 'it returns false'. Refute it at one input. -/
def viewsRisesWrong : ChangeSpec := { name := "viewsRises", fn := fun _ => fun
  | [d1, d2] => { results := [.lit (.bool false)], args := [d1, d2] }
  | _ => none }
def ViewsRisesWrongFalsely : Prop := viewsRisesRow.holds Try.pinned (OpenSpec.ofChange viewsRisesWrong)

/-- 'tithinglaw32.ViewsMost': WHATEVER THE INPUT: true; the input reads as it did. -/
def viewsMostSpec : ChangeSpec := { name := "viewsMost", fn := fun _ => fun
  | [d1, d2] => { results := [.lit (.bool true)], args := [d1, d2] }
  | _ => none }
def viewsMostRow : OpenClaim := { program := "ytjbglbhcbenhpaa", sum := "398efc4fe31a64ea470e6faf711d8da8ee2c8edfe2ccb64401b2c200897a7395", func := "tithing/tithinglaw32.ViewsMost", spec := "viewsMost", unfollowed := true, recurses := true, apart := false }
def ViewsMostSaid : Prop := viewsMostRow.holds Try.pinned (OpenSpec.ofChange viewsMostSpec)

/-- ITS FALSE NEIGHBOUR: 'it returns false'. Refute it at one input. -/
def viewsMostWrong : ChangeSpec := { name := "viewsMost", fn := fun _ => fun
  | [d1, d2] => { results := [.lit (.bool false)], args := [d1, d2] }
  | _ => none }
def ViewsMostWrongFalsely : Prop := viewsMostRow.holds Try.pinned (OpenSpec.ofChange viewsMostWrong)

/- THE SECOND FORM. 'bulk': how many values and letters a reading holds, each counted each time it is reached (what is shared counts as often as it is met; a slice's spare places count too). A statement '..UptoSaid' is the law's where the arguments, and the package variables that the reading takes, are together of bulk at most 1048576: NARROWER than '..Said'. Prove '..Said' where nothing that the law and all that it calls make is longer than what came in: it says more and counts as full. Else prove '..UptoSaid'. A law counts once. -/
mutual
def uptoBulk {H : Type} : DataW H → Nat
  | .lit (.string bytes) => bytes.length + 1
  | .lit _ => 1
  | .nil => 1
  | .ptr d => uptoBulk d + 1
  | .slice elems spare => uptoBulkAll elems + uptoBulkAll spare + 1
  | .agg parts => uptoBulkAll parts + 1
  | .iface _ d => uptoBulk d + 1
  | .map entries => uptoBulkEntries entries + 1
  | .held _ => 1
def uptoBulkAll {H : Type} : List (DataW H) → Nat
  | [] => 0
  | d :: r => uptoBulk d + uptoBulkAll r
def uptoBulkEntries {H : Type} : List (Lit × DataW H) → Nat
  | [] => 0
  | x :: r => uptoBulkEntry x + uptoBulkEntries r
def uptoBulkEntry {H : Type} : Lit × DataW H → Nat
  | (.string bytes, d) => bytes.length + uptoBulk d + 1
  | (_, d) => uptoBulk d + 1
 end
def uptoSmall : (H : Type) → List (DataW H) → Bool := fun _ ds => decide (uptoBulkAll ds ≤ 1048576)
def OpenSpec.upto (s : _root_.Go.ChangeSpec) : _root_.Go.OpenSpec := { _root_.Go.OpenSpec.ofChange s with cond := some uptoSmall }

/-- 'tithinglaw36.BagActs', WHERE WHAT IT READS IS OF BULK AT MOST 1048576: true; the input reads as it did. -/
def bagActsUptoRow : OpenClaim := { program := "ytjbglbhcbenhpaa", sum := "398efc4fe31a64ea470e6faf711d8da8ee2c8edfe2ccb64401b2c200897a7395", func := "tithing/tithinglaw36.BagActs", spec := "bagActs", unfollowed := true, recurses := true, apart := false, narrowed := true }
def BagActsUptoSaid : Prop := bagActsUptoRow.holds Try.pinned (OpenSpec.upto bagActsSpec)

/-- 'tithinglaw36.BagNobody', WHERE WHAT IT READS IS OF BULK AT MOST 1048576: true; the input reads as it did. -/
def bagNobodyUptoRow : OpenClaim := { program := "ytjbglbhcbenhpaa", sum := "398efc4fe31a64ea470e6faf711d8da8ee2c8edfe2ccb64401b2c200897a7395", func := "tithing/tithinglaw36.BagNobody", spec := "bagNobody", unfollowed := true, recurses := true, apart := false, narrowed := true }
def BagNobodyUptoSaid : Prop := bagNobodyUptoRow.holds Try.pinned (OpenSpec.upto bagNobodySpec)

/-- 'tithinglaw24.LedgerOnce', WHERE WHAT IT READS IS OF BULK AT MOST 1048576: true; the input reads as it did. -/
def ledgerOnceUptoRow : OpenClaim := { program := "ytjbglbhcbenhpaa", sum := "398efc4fe31a64ea470e6faf711d8da8ee2c8edfe2ccb64401b2c200897a7395", func := "tithing/tithinglaw24.LedgerOnce", spec := "ledgerOnce", inPlace := ["slices.overlaps[tithing/api.Account]", "internal/bytealg.abigen_runtime_cmpstring", "slices.overlaps[tithing/api.Pair]"], unfollowed := true, recurses := true, apart := false, narrowed := true }
def LedgerOnceUptoSaid : Prop := ledgerOnceUptoRow.holds Try.pinned (OpenSpec.upto ledgerOnceSpec)

/-- 'tithinglaw32.ViewsHears', WHERE WHAT IT READS IS OF BULK AT MOST 1048576: true; the input reads as it did. -/
def viewsHearsUptoRow : OpenClaim := { program := "ytjbglbhcbenhpaa", sum := "398efc4fe31a64ea470e6faf711d8da8ee2c8edfe2ccb64401b2c200897a7395", func := "tithing/tithinglaw32.ViewsHears", spec := "viewsHears", unfollowed := true, recurses := true, apart := false, narrowed := true }
def ViewsHearsUptoSaid : Prop := viewsHearsUptoRow.holds Try.pinned (OpenSpec.upto viewsHearsSpec)

/-- 'tithinglaw32.ViewsRises', WHERE WHAT IT READS IS OF BULK AT MOST 1048576: true; the input reads as it did. -/
def viewsRisesUptoRow : OpenClaim := { program := "ytjbglbhcbenhpaa", sum := "398efc4fe31a64ea470e6faf711d8da8ee2c8edfe2ccb64401b2c200897a7395", func := "tithing/tithinglaw32.ViewsRises", spec := "viewsRises", unfollowed := true, recurses := true, apart := false, narrowed := true }
def ViewsRisesUptoSaid : Prop := viewsRisesUptoRow.holds Try.pinned (OpenSpec.upto viewsRisesSpec)

/-- 'tithinglaw32.ViewsMost', WHERE WHAT IT READS IS OF BULK AT MOST 1048576: true; the input reads as it did. -/
def viewsMostUptoRow : OpenClaim := { program := "ytjbglbhcbenhpaa", sum := "398efc4fe31a64ea470e6faf711d8da8ee2c8edfe2ccb64401b2c200897a7395", func := "tithing/tithinglaw32.ViewsMost", spec := "viewsMost", unfollowed := true, recurses := true, apart := false, narrowed := true }
def ViewsMostUptoSaid : Prop := viewsMostUptoRow.holds Try.pinned (OpenSpec.upto viewsMostSpec)

end Rows
end Go.Proofs.Ytjbglbhcbenhpaa
