/- Laws over plain values, and what functions of the program hand back; no conditions. -/
import Derived.Test.YtjbglbhcbenhpaaDoorTAtt1
namespace Go.Proofs.YtjbglbhcbenhpaaDoor.Sha
open Go Go.Abs Go.Abs.Sha
set_option linter.unusedSimpArgs false
set_option linter.unusedVariables false
set_option maxRecDepth 100000
attribute [local irreducible] W Wops WopsD WL Wop WopD
variable {E : Env} {C : Abs.Spec} {l : List (Nat × Spec1)} {G : List (Nat × V)} {Q : R → List (Nat × V) → Prop}
set_option maxHeartbeats 1000000
def STg : Spec1
  | [x, .agg [.int .i64 a1, .int .i64 a2, .int .i64 a3, .int .i64 a4, .arr .u8 32 a5, .int .i64 a6, .arr .u8 32 a7, .arr .u8 32 a8]], G, Q => ∃ b, (byV x = some b ∧ b.length < 10000000000 ∧ ((⟨a1, a2, a3, a4, a5, a6, a7, a8⟩ : AttS)).wf ∧ ((⟨a1, a2, a3, a4, a5, a6, a7, a8⟩ : AttS)).May) ∧ Q (.own (.sli .u8 (b ++ ((⟨a1, a2, a3, a4, a5, a6, a7, a8⟩ : AttS)).said))) G
  | _, _, _ => False
theorem STg_eq {x a1 a2 a3 a4 a5 a6 a7 a8} : STg [x, .agg [.int .i64 a1, .int .i64 a2, .int .i64 a3, .int .i64 a4, .arr .u8 32 a5, .int .i64 a6, .arr .u8 32 a7, .arr .u8 32 a8]] G Q = (∃ b, (byV x = some b ∧ b.length < 10000000000 ∧ ((⟨a1, a2, a3, a4, a5, a6, a7, a8⟩ : AttS)).wf ∧ ((⟨a1, a2, a3, a4, a5, a6, a7, a8⟩ : AttS)).May) ∧ Q (.own (.sli .u8 (b ++ ((⟨a1, a2, a3, a4, a5, a6, a7, a8⟩ : AttS)).said))) G) := rfl
def ST8 : Spec1
  | [.agg [.int .i64 a1, .int .i64 a2, .int .i64 a3, .int .i64 a4, .arr .u8 32 a5, .int .i64 a6, .arr .u8 32 a7, .arr .u8 32 a8]], G, Q => (((⟨a1, a2, a3, a4, a5, a6, a7, a8⟩ : AttS)).wf ∧ ((⟨a1, a2, a3, a4, a5, a6, a7, a8⟩ : AttS)).May) ∧ Q (.own (.sli .u8 ((⟨a1, a2, a3, a4, a5, a6, a7, a8⟩ : AttS)).said)) G
  | _, _, _ => False
theorem ST8_eq {a1 a2 a3 a4 a5 a6 a7 a8} : ST8 [.agg [.int .i64 a1, .int .i64 a2, .int .i64 a3, .int .i64 a4, .arr .u8 32 a5, .int .i64 a6, .arr .u8 32 a7, .arr .u8 32 a8]] G Q = ((((⟨a1, a2, a3, a4, a5, a6, a7, a8⟩ : AttS)).wf ∧ ((⟨a1, a2, a3, a4, a5, a6, a7, a8⟩ : AttS)).May) ∧ Q (.own (.sli .u8 ((⟨a1, a2, a3, a4, a5, a6, a7, a8⟩ : AttS)).said)) G) := rfl
def STr8 (kt : List Int) : Spec1
  | [.agg [.int .i64 a1, .int .i64 a2, .int .i64 a3, .int .i64 a4, .arr .u8 32 a5, .int .i64 a6, .arr .u8 32 a7, .arr .u8 32 a8]], G, Q => (((⟨a1, a2, a3, a4, a5, a6, a7, a8⟩ : AttS)).wf ∧ ((⟨a1, a2, a3, a4, a5, a6, a7, a8⟩ : AttS)).May) ∧ Q (.v (.arr .u8 32 (((⟨a1, a2, a3, a4, a5, a6, a7, a8⟩ : AttS)).tag kt))) G
  | _, _, _ => False
theorem STr8_eq {kt a1 a2 a3 a4 a5 a6 a7 a8} : STr8 kt [.agg [.int .i64 a1, .int .i64 a2, .int .i64 a3, .int .i64 a4, .arr .u8 32 a5, .int .i64 a6, .arr .u8 32 a7, .arr .u8 32 a8]] G Q = ((((⟨a1, a2, a3, a4, a5, a6, a7, a8⟩ : AttS)).wf ∧ ((⟨a1, a2, a3, a4, a5, a6, a7, a8⟩ : AttS)).May) ∧ Q (.v (.arr .u8 32 (((⟨a1, a2, a3, a4, a5, a6, a7, a8⟩ : AttS)).tag kt))) G) := rfl
def SSi (kt : List Int) : Spec1
  | [.agg [.int .i64 a1, .int .i64 a2, .int .i64 a3, .int .i64 a4, .arr .u8 32 a5, .int .i64 a6, .arr .u8 32 a7, .arr .u8 32 a8]], G, Q => ((⟨a1, a2, a3, a4, a5, a6, a7, a8⟩ : AttS)).wf ∧ Q (.v (((⟨a1, a2, a3, a4, a5, a6, a7, a8⟩ : AttS)).sign kt).v) G
  | _, _, _ => False
theorem SSi_eq {kt a1 a2 a3 a4 a5 a6 a7 a8} : SSi kt [.agg [.int .i64 a1, .int .i64 a2, .int .i64 a3, .int .i64 a4, .arr .u8 32 a5, .int .i64 a6, .arr .u8 32 a7, .arr .u8 32 a8]] G Q = (((⟨a1, a2, a3, a4, a5, a6, a7, a8⟩ : AttS)).wf ∧ Q (.v (((⟨a1, a2, a3, a4, a5, a6, a7, a8⟩ : AttS)).sign kt).v) G) := rfl
def SRi (kt : List Int) : Spec1
  | [.agg [.int .i64 a1, .int .i64 a2, .int .i64 a3, .int .i64 a4, .arr .u8 32 a5, .int .i64 a6, .arr .u8 32 a7, .arr .u8 32 a8]], G, Q => ((⟨a1, a2, a3, a4, a5, a6, a7, a8⟩ : AttS)).wf ∧ Q (.v (.bool (((⟨a1, a2, a3, a4, a5, a6, a7, a8⟩ : AttS)).right kt))) G
  | _, _, _ => False
theorem SRi_eq {kt a1 a2 a3 a4 a5 a6 a7 a8} : SRi kt [.agg [.int .i64 a1, .int .i64 a2, .int .i64 a3, .int .i64 a4, .arr .u8 32 a5, .int .i64 a6, .arr .u8 32 a7, .arr .u8 32 a8]] G Q = (((⟨a1, a2, a3, a4, a5, a6, a7, a8⟩ : AttS)).wf ∧ Q (.v (.bool (((⟨a1, a2, a3, a4, a5, a6, a7, a8⟩ : AttS)).right kt))) G) := rfl
def SSr (kt : List Int) : Spec1
  | [.agg [.int .i64 a1, .int .i64 a2, .int .i64 a3, .int .i64 a4, .arr .u8 32 a5, .int .i64 a6, .arr .u8 32 a7, .arr .u8 32 a8]], G, Q => (((⟨a1, a2, a3, a4, a5, a6, a7, a8⟩ : AttS)).wf ∧ ((⟨a1, a2, a3, a4, a5, a6, a7, a8⟩ : AttS)).May) ∧ Q (.v (((⟨a1, a2, a3, a4, a5, a6, a7, a8⟩ : AttS)).signed kt).v) G
  | _, _, _ => False
theorem SSr_eq {kt a1 a2 a3 a4 a5 a6 a7 a8} : SSr kt [.agg [.int .i64 a1, .int .i64 a2, .int .i64 a3, .int .i64 a4, .arr .u8 32 a5, .int .i64 a6, .arr .u8 32 a7, .arr .u8 32 a8]] G Q = ((((⟨a1, a2, a3, a4, a5, a6, a7, a8⟩ : AttS)).wf ∧ ((⟨a1, a2, a3, a4, a5, a6, a7, a8⟩ : AttS)).May) ∧ Q (.v (((⟨a1, a2, a3, a4, a5, a6, a7, a8⟩ : AttS)).signed kt).v) G) := rfl
def SAl : Spec1
  | [.agg [.int .i64 a1, .int .i64 a2, .int .i64 a3, .int .i64 a4, .arr .u8 32 a5, .int .i64 a6, .arr .u8 32 a7, .arr .u8 32 a8], .agg [.int .i64 b1, .int .i64 b2, .int .i64 b3, .int .i64 b4, .arr .u8 32 b5, .int .i64 b6, .arr .u8 32 b7, .arr .u8 32 b8]], G, Q => Q (.v (.bool (((⟨a1, a2, a3, a4, a5, a6, a7, a8⟩ : AttS)).alike (⟨b1, b2, b3, b4, b5, b6, b7, b8⟩ : AttS)))) G
  | _, _, _ => False
theorem SAl_eq {a1 a2 a3 a4 a5 a6 a7 a8 b1 b2 b3 b4 b5 b6 b7 b8} : SAl [.agg [.int .i64 a1, .int .i64 a2, .int .i64 a3, .int .i64 a4, .arr .u8 32 a5, .int .i64 a6, .arr .u8 32 a7, .arr .u8 32 a8], .agg [.int .i64 b1, .int .i64 b2, .int .i64 b3, .int .i64 b4, .arr .u8 32 b5, .int .i64 b6, .arr .u8 32 b7, .arr .u8 32 b8]] G Q = (Q (.v (.bool (((⟨a1, a2, a3, a4, a5, a6, a7, a8⟩ : AttS)).alike (⟨b1, b2, b3, b4, b5, b6, b7, b8⟩ : AttS)))) G) := rfl
theorem u64_of {n : Int} (h : 0 ≤ n) (h2 : n ≤ 9223372036854775807) : IntKind.u64.wrap n = n := by simp only [IntKind.wrap, IntKind.bits, IntKind.signed]; simp; omega
end Go.Proofs.YtjbglbhcbenhpaaDoor.Sha
