/- ShpI -/
import Derived.Test.YtjkbnanffneogaaShpP
open Go Go.Proofs
namespace Go.Sx
set_option linter.unusedSimpArgs false
set_option linter.unusedVariables false
theorem drwS_ok {code:List Int} {m:Int} {n:Nat}:∀(j:Nat) (s:Ds),(∀r∈s.1,r.length≤13)→n≤13→0≤s.2.1→s.2.1≤(code.length:Int)→(drwS code m n j s).1.length=s.1.length+j∧∀r∈(drwS code m n j s).1,r.length≤13
  | 0,s,h,_,_,_=>⟨rfl,h⟩
  | j+1,s,h,hn,h0,h1=>by
    have D:=drL_len (code:=code) (m:=m) n ([],s.2.1,s.2.2) h0 h1
    have:=drwS_ok (code:=code) (m:=m) (n:=n) j (s.1++[(lsS code m n ([],s.2.1,s.2.2)).1],(lsS code m n ([],s.2.1,s.2.2)).2) (fun r hr=>by
      rcases List.mem_append.1 hr with hr | hr
      · exact h r hr
      · rw [List.mem_singleton.1 hr,D.1];show 0+n≤13;omega) hn D.2.1 D.2.2
    rw [List.length_append] at this
    refine ⟨?_,this.2⟩
    have e:=this.1
    show (drwS code m n j _).1.length=_
    rw [e];show s.1.length+1+j=_;omega
theorem set_rows {F:List (List Int)} {i j:Nat} {v:Int} (h:∀r∈F,r.length≤13):∀r∈F.set i ((F.getD i []).set j v),r.length≤13:=fun r hr=>by
  rcases List.mem_or_eq_of_mem_set hr with hr | rfl
  · exact h r hr
  · rw [List.length_set]
    by_cases e:i<F.length
    · rw [getD_lt F [] i e];exact h _ (List.getElem_mem e)
    · rw [List.getD_eq_getElem?_getD,List.getElem?_eq_none (by omega)];simp
theorem shE_ok {code:List Int} {n m b k:Int} {F:List (List Int)} (h:∀r∈F,r.length≤13) (hl:F.length≤13):(shE code n m (F,b,k)).1.length≤13∧∀r∈(shE code n m (F,b,k)).1,r.length≤13:=by
  by_cases z:nxV code b k 12=0
  · rw [shE0 z];exact ⟨by rw [List.length_set];exact hl,set_rows h⟩
  · by_cases z1:nxV code b k 12=1
    · rw [shE1 z z1];exact ⟨by rw [List.length_set];exact hl,set_rows h⟩
    · by_cases z2:nxV code b k 12=2
      · rw [shE2 z z1 z2];exact ⟨hl,h⟩
      · rw [shE3 z z1 z2];exact ⟨hl,h⟩
theorem shF_ok {code:List Int} {t:List (List Int)} {m a h:Int} (hn:t.length≤13) (h0:0≤a) (h1:a≤(code.length:Int)):(shF code t m a h).1.length≤13∧∀r∈(shF code t m a h).1,r.length≤13:=by
  have s:=nxA_in (n:=5) h0 h1
  unfold shF
  split
  · split
    · have D:=drwS_ok (code:=code) (m:=m) (n:=t.length) t.length ([],nxA code.length a 5,nxH h 5) (fun r hr=>(List.not_mem_nil hr).elim) hn s.1 s.2
      exact ⟨by show (drwS _ _ _ _ _).1.length≤13;rw [D.1];show 0+t.length≤13;omega,D.2⟩
    · refine shE_ok (fun r hr=>?_) (by rw [tabR_length];exact hn)
      simp only [tabR,List.mem_map] at hr
      obtain ⟨i,_,rfl⟩:=hr
      rw [tab_length];exact hn
  · have D:=drwS_ok (code:=code) (m:=m) (n:=t.length) t.length ([],a,h) (fun r hr=>(List.not_mem_nil hr).elim) hn h0 h1
    exact ⟨by show (drwS _ _ _ _ _).1.length≤13;rw [D.1];show 0+t.length≤13;omega,D.2⟩
end Go.Sx
