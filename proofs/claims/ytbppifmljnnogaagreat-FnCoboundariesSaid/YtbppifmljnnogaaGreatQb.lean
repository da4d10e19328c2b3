/- Ext Rb Inc Qb -/
import Derived.Test.YtbppifmljnnogaaGreatOwn2
import Derived.Test.YtbppifmljnnogaaGreatLists
section
open Go Go.Proofs
namespace Go.Sx
set_option linter.unusedSimpArgs false
set_option linter.unusedVariables false
theorem sq_le {n:Nat} (h:n≤12):n * n≤144:=Nat.mul_le_mul h h
end Go.Sx
end
section
section
open Go Go.Proofs
namespace Go.Sx
set_option linter.unusedSimpArgs false
set_option linter.unusedVariables false
theorem div_in {a n m:Int} (hm:1≤m) (h0:0≤a) (h:a<n * m):0≤a.tdiv m∧a.tdiv m<n∧0≤a.tmod m∧a.tmod m≤m - 1:=by
 have e1:a.tdiv m=a / m:=Int.tdiv_eq_ediv_of_nonneg h0
 rw [e1]
 have q:=tmod_in h0 hm
 exact ⟨Int.ediv_nonneg h0 (by omega),Int.ediv_lt_of_lt_mul (by omega) h,q.1,q.2⟩
def exI (t:List (List Int)) (m:Int) (f:List (List Int)) (x y:Int):Int:=(t.getD (x.tdiv m).toNat []).getD (y.tdiv m).toNat 0 * m+(y.tmod m+(f.getD (x.tdiv m).toNat []).getD (y.tdiv m).toNat 0).tmod m
def exR (t:List (List Int)) (m:Int) (f:List (List Int)):List (List Int):=tabR ((t.length:Int) * m).toNat fun x y=>exI t m f (x:Int) (y:Int)
theorem ex_in {t:List (List Int)} {m:Int} {f:List (List Int)} (h1:tabB t=true) (h2:matB (t.length:Int) m f=true) {x y:Int} (hx:0≤x) (hx2:x<(t.length:Int) * m) (hy:0≤y) (hy2:y<(t.length:Int) * m) :
  1≤m∧m≤12∧(f.length:Int)=(t.length:Int)∧0≤x.tdiv m∧x.tdiv m<(t.length:Int)∧0≤y.tdiv m∧y.tdiv m<(t.length:Int)∧0≤y.tmod m∧y.tmod m≤m - 1 ∧
  (t.getD (x.tdiv m).toNat []).length=t.length∧(f.getD (x.tdiv m).toNat []).length=t.length ∧
  0≤(f.getD (x.tdiv m).toNat []).getD (y.tdiv m).toNat 0∧(f.getD (x.tdiv m).toNat []).getD (y.tdiv m).toNat 0≤m - 1 ∧
  0≤(t.getD (x.tdiv m).toNat []).getD (y.tdiv m).toNat 0 * m∧(t.getD (x.tdiv m).toNat []).getD (y.tdiv m).toNat 0 * m≤144 ∧
  0≤(y.tmod m+(f.getD (x.tdiv m).toNat []).getD (y.tdiv m).toNat 0).tmod m∧(y.tmod m+(f.getD (x.tdiv m).toNat []).getD (y.tdiv m).toNat 0).tmod m≤m - 1:=by
 obtain ⟨n1,n2,ht⟩:=tabB_of h1
 obtain ⟨m1,m2,m3,hf⟩:=matB_of h2
 obtain ⟨a1,a2,_,_⟩:=div_in m1 hx hx2
 obtain ⟨b1,b2,b3,b4⟩:=div_in m1 hy hy2
 have c:=ht (x.tdiv m).toNat (by omega)
 have d:=c.2 (y.tdiv m).toNat (by omega)
 have e:=hf (x.tdiv m).toNat (by omega)
 have g:=e.2 (y.tdiv m).toNat (by omega)
 have p1:=Int.mul_nonneg d.1 (show 0≤m by omega)
 have p2:=Int.mul_le_mul (show (t.getD (x.tdiv m).toNat []).getD (y.tdiv m).toNat 0≤12 by omega) m2 (by omega) (by omega)
 have q:=tmod_in (a:=y.tmod m+(f.getD (x.tdiv m).toNat []).getD (y.tdiv m).toNat 0) (by omega) m1
 exact ⟨m1,m2,m3,a1,a2,b1,b2,b3,b4,c.1,by omega,g.1,g.2,p1,by omega,q.1,q.2⟩
theorem nm_in {t:List (List Int)} {m:Int} {f:List (List Int)} (h1:tabB t=true) (h2:matB (t.length:Int) m f=true):0≤(t.length:Int) * m∧(t.length:Int) * m≤144:=by
 have ht:=tabB_of h1
 obtain ⟨m1,m2,_⟩:=matB_of h2
 have p1:=Int.mul_nonneg (show 0≤(t.length:Int) by omega) (show 0≤m by omega)
 have p2:=Int.mul_le_mul (show (t.length:Int)≤12 by omega) m2 (by omega) (by omega)
 omega
end Go.Sx
end
section
open Go Go.Proofs
namespace Go.Sx
set_option linter.unusedSimpArgs false
set_option linter.unusedVariables false
end Go.Sx
end
section
open Go Go.Proofs
namespace Go.Sx
set_option linter.unusedSimpArgs false
set_option linter.unusedVariables false
def unitL (n:Nat):List Int:=tab n fun i=>(i:Int)
end Go.Sx
end
section
open Go Go.Proofs
namespace Go.Sx
set_option linter.unusedSimpArgs false
set_option linter.unusedVariables false
end Go.Sx
end
end
