/- Certificates: two quorums share one. -/
import Derived.Test.YtegamlopcdjiaaaDoorG10
namespace Go.Abs.Sha
open Go Go.Abs Go.Abs.Srt
set_option linter.unusedVariables false
set_option linter.unusedSimpArgs false
theorem riseI_from {n low k:Int} {l:List Int} {x:Int} (h:riseI n low (x::l)=true) (hk:k < x):riseI n k (x::l)=true:=by
 unfold riseI at h⊢
 split at h
 ·cases h
 ·rename_i hw
  rw[if_neg (by omega)];exact h
theorem riseI_tail {n low:Int} {l:List Int} {x:Int} (h:riseI n low (x::l)=true):low < x∧x≤n∧riseI n x l=true:=by
 unfold riseI at h
 split at h
 ·cases h
 ·rename_i hw
  exact⟨by omega,by omega,h⟩
theorem meet {n:Int}:∀(k:Nat) {l m:List Int} {low:Int},l.length+m.length=k→riseI n low l=true→riseI n low m=true→low≤n→(∀x∈l,x∉m)→(l.length:Int)+m.length≤n-low:=by
 intro k
 induction k with
 |zero=>intro l m low hk h1 h2 hl hd;omega
 |succ k ih=>
  intro l m low hk h1 h2 hl hd
  cases l with
  |nil=>
   rcases riseI_len h2 with rfl|h2
   ·simp at hk
   ·simp only[List.length_nil];omega
  |cons x l=>
   cases m with
   |nil=>
    rcases riseI_len h1 with h1|h1
    ·cases h1
    ·simp only[List.length_nil];omega
   |cons y m=>
    obtain⟨a1,a2,a3⟩:=riseI_tail h1
    obtain⟨b1,b2,b3⟩:=riseI_tail h2
    have hne:x≠y:=by rintro rfl;exact hd x (List.mem_cons_self ..) (List.mem_cons_self ..)
    simp only[List.length_cons]at hk
    by_cases hxy:x < y
    ·have:=ih (l:=l) (m:=y::m) (low:=x) (by simp only[List.length_cons];omega) a3 (riseI_from h2 hxy) a2 fun z hz=>hd z (List.mem_cons_of_mem _ hz)
     simp only[List.length_cons]at this⊢;omega
    ·have:=ih (l:=x::l) (m:=m) (low:=y) (by simp only[List.length_cons];omega) (riseI_from h1 (by omega)) b3 b2 fun z hz hz2=>hd z hz (List.mem_cons_of_mem _ hz2)
     simp only[List.length_cons]at this⊢;omega
end Go.Abs.Sha
