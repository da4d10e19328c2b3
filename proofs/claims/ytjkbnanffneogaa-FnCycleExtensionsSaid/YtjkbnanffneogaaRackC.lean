/- RackC -/
import Derived.Test.YtjkbnanffneogaaCmp
open Go Go.Proofs
namespace Go.Sx
set_option linter.unusedSimpArgs false
set_option linter.unusedVariables false
theorem firstO_some {α:Type} {n:Nat} {q:Nat→Option α} {r:α}:∀{k:Nat},firstO n q k=some r→∃i,q i=some r
  | 0,h=>by cases h
  | k+1,h=>by
    simp only [firstO,Option.or_eq_some_iff] at h
    rcases h with h | ⟨_,h⟩
    · exact ⟨_,h⟩
    · exact firstO_some h
theorem tmod_sub {a b m:Int} (ha:0≤a) (hb:0≤b) (hm:1≤m):a.tmod m=b.tmod m↔(a - b).tmod m=0:=by
  rw [Int.tmod_eq_emod_of_nonneg ha,Int.tmod_eq_emod_of_nonneg hb,Int.emod_eq_emod_iff_emod_sub_eq_zero]
  exact ⟨fun h=>Int.tmod_eq_zero_of_dvd (Int.dvd_of_emod_eq_zero h),fun h=>Int.emod_eq_zero_of_dvd (Int.dvd_of_tmod_eq_zero h)⟩
end Go.Sx
