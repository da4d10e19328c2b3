/- RxtA -/
import Derived.Test.YtjkbnanffneogaaInc
open Go Go.Proofs
namespace Go.Sx
set_option linter.unusedSimpArgs false
set_option linter.unusedVariables false
theorem fo_none {α:Type} {n:Nat} {q:Nat→Option α}:∀{k:Nat},k≤n→(firstO n q k=none↔∀i,n - k≤i→i<n→q i=none)
  | 0,_=>⟨fun _ i h1 h2=>by omega,fun _=>rfl⟩
  | k+1,hk=>by
    have ih:=fo_none (q:=q) (show k≤n by omega)
    rw [firstO]
    constructor
    · intro h i h1 h2
      have a:q (n - (k+1))=none:=by
        cases e:q (n - (k+1)) with
        | none=>rfl
        | some v=>rw [e] at h;cases h
      rw [a] at h
      by_cases e:i=n - (k+1)
      · rw [e];exact a
      · exact ih.1 h i (by omega) h2
    · intro h
      rw [h (n - (k+1)) (Nat.le_refl _) (by omega)]
      exact ih.2 fun i h1 h2=>h i (by omega) h2
theorem fo_none' {α:Type} {n:Nat} {q:Nat→Option α}:firstO n q n=none↔∀i,i<n→q i=none:=by
  rw [fo_none (Nat.le_refl n)]
  exact ⟨fun h i hi=>h i (by omega) hi,fun h i _ hi=>h i hi⟩
theorem dm_eq {M p q p' q':Nat} (hq:q<M) (hq':q'<M):p * M+q=p' * M+q'↔p=p'∧q=q':=by
  constructor
  · intro h
    have a:(p * M+q) / M=p:=by rw [Nat.mul_comm,Nat.mul_add_div (by omega),Nat.div_eq_of_lt hq,Nat.add_zero]
    have b:(p' * M+q') / M=p':=by rw [Nat.mul_comm,Nat.mul_add_div (by omega),Nat.div_eq_of_lt hq',Nat.add_zero]
    rw [h,b] at a
    subst a
    exact ⟨rfl,by omega⟩
  · rintro ⟨rfl,rfl⟩;rfl
theorem dm_lt {n M p q:Nat} (hp:p<n) (hq:q<M):p * M+q<n * M:=by
  have:=Nat.mul_le_mul_right M (show p+1≤n by omega)
  rw [Nat.succ_mul] at this
  omega
theorem dm_of {n M a:Nat} (h:a<n * M):∃p q,p<n∧q<M∧a=p * M+q:=by
  have m0:0<M:=by
    rcases Nat.eq_zero_or_pos M with e | e
    · subst e;simp at h
    · exact e
  refine ⟨a / M,a % M,Nat.div_lt_of_lt_mul (by rw [Nat.mul_comm];exact h),Nat.mod_lt _ m0,?_⟩
  have:=Nat.div_add_mod a M
  rw [Nat.mul_comm];omega
theorem tabB_mk {n:Nat} {F:Nat→Nat→Int} (h1:1≤n) (h2:n≤12) (hF:∀x y,x<n→y<n→0≤F x y∧F x y≤(n:Int) - 1):tabB (tabR n F)=true:=by
  simp only [tabB,tabR_length,Bool.and_eq_true,decide_eq_true_eq,List.all_eq_true]
  refine ⟨by omega,fun r hr=>?_⟩
  simp only [tabR,List.mem_map,List.mem_range] at hr
  obtain ⟨x,hx,rfl⟩:=hr
  simp only [rowB,Bool.and_eq_true,decide_eq_true_eq,allW,List.all_eq_true]
  refine ⟨by rw [tab_length],fun v hv=>?_⟩
  simp only [tab,List.mem_map,List.mem_range] at hv
  obtain ⟨y,hy,rfl⟩:=hv
  exact hF x y hx hy
section
variable {t f:List (List Int)} {m:Int}
theorem ex_en (ht:tabB t=true) (hf:matB (t.length:Int) m f=true) {x s y u:Nat} (hx:x<t.length) (hs:s<m.toNat) (hy:y<t.length) (hu:u<m.toNat) :
    en (exR t m f) (x * m.toNat+s) (y * m.toNat+u)=(((en t x y).toNat * m.toNat+(u+(en f x y).toNat) % m.toNat:Nat):Int):=by
  obtain ⟨m1,m2,m3,hf'⟩:=matB_of hf
  obtain ⟨n1,n2,ht'⟩:=tabB_of ht
  have eK:((t.length:Int) * m).toNat=t.length * m.toNat:=by
    have:(t.length:Int) * m=((t.length * m.toNat:Nat):Int):=by rw [Int.natCast_mul];congr 1;omega
    rw [this];rfl
  have d:∀p q:Nat,q<m.toNat→((((p * m.toNat+q:Nat):Int)).tdiv m).toNat=p∧(((p * m.toNat+q:Nat):Int)).tmod m=(q:Int):=fun p q hq=>by
    obtain ⟨M,rfl⟩:∃M:Nat,m=(M:Int):=⟨m.toNat,by omega⟩
    rw [Int.toNat_natCast] at hq ⊢
    rw [Int.tdiv_eq_ediv_of_nonneg (by omega),Int.tmod_eq_emod_of_nonneg (by omega)]
    constructor
    · have:(p * M+q) / M=p:=by rw [Nat.mul_comm,Nat.mul_add_div (by omega),Nat.div_eq_of_lt hq,Nat.add_zero]
      have e:((p * M+q:Nat):Int) / (M:Int)=((p:Nat):Int):=by exact_mod_cast this
      rw [e];rfl
    · have:(p * M+q) % M=q:=by rw [Nat.mul_comm,Nat.mul_add_mod,Nat.mod_eq_of_lt hq]
      exact_mod_cast this
  rw [en,exR,eK,tabR_getD _ _ _ (dm_lt hx hs),tab_getD _ _ _ (dm_lt hy hu),exI,(d x s hs).1,(d y u hu).1,(d y u hu).2]
  have a:=(ht' x hx).2 y hy
  have b:=(hf' x (by omega)).2 y (by have:=(hf' x (by omega)).1;omega)
  have ea:(t.getD x []).getD y 0=(((en t x y).toNat:Nat):Int):=by unfold en;omega
  have eb:(f.getD x []).getD y 0=(((en f x y).toNat:Nat):Int):=by unfold en;omega
  rw [ea,eb]
  obtain ⟨M,rfl⟩:∃M:Nat,m=(M:Int):=⟨m.toNat,by omega⟩
  rw [Int.toNat_natCast,Int.tmod_eq_emod_of_nonneg (by omega)]
  simp
theorem ex_len (hm:1≤m):(exR t m f).length=t.length * m.toNat:=by
  rw [exR,tabR_length]
  have:(t.length:Int) * m=((t.length * m.toNat:Nat):Int):=by rw [Int.natCast_mul];congr 1;omega
  rw [this];rfl
theorem en_in (ht:tabB t=true) {x y:Nat} (hx:x<t.length) (hy:y<t.length):en t x y=(((en t x y).toNat:Nat):Int)∧(en t x y).toNat<t.length:=by
  obtain ⟨n1,n2,ht'⟩:=tabB_of ht
  have a:=(ht' x hx).2 y hy
  unfold en
  omega
theorem fm_in (hf:matB (t.length:Int) m f=true) {x y:Nat} (hx:x<t.length) (hy:y<t.length):en f x y=(((en f x y).toNat:Nat):Int)∧(en f x y).toNat<m.toNat:=by
  obtain ⟨m1,m2,m3,hf'⟩:=matB_of hf
  have b:=(hf' x (by omega)).2 y (by have:=(hf' x (by omega)).1;omega)
  unfold en
  omega
theorem ex_tab (ht:tabB t=true) (hf:matB (t.length:Int) m f=true) (hk:(t.length:Int) * m≤12):tabB (exR t m f)=true:=by
  obtain ⟨m1,m2,m3,hf'⟩:=matB_of hf
  obtain ⟨n1,n2,ht'⟩:=tabB_of ht
  have e:(t.length:Int) * m=((t.length * m.toNat:Nat):Int):=by rw [Int.natCast_mul];congr 1;omega
  have eK:((t.length:Int) * m).toNat=t.length * m.toNat:=by rw [e];rfl
  have K1:1≤t.length * m.toNat:=Nat.mul_le_mul n1 (show 1≤m.toNat by omega)
  have E:=ex_len (t:=t) (f:=f) m1
  rw [exR,eK]
  refine tabB_mk K1 (by omega) fun a b ha hb=>?_
  obtain ⟨x,s,hx,hs,rfl⟩:=dm_of ha
  obtain ⟨y,u,hy,hu,rfl⟩:=dm_of hb
  have q:=ex_en ht hf hx hs hy hu
  rw [en,exR,eK,tabR_getD _ _ _ (dm_lt hx hs),tab_getD _ _ _ (dm_lt hy hu)] at q
  rw [q]
  have:=dm_lt (en_in ht hx hy).2 (Nat.mod_lt (u+(en f x y).toNat) (show 0<m.toNat by omega))
  omega
theorem ex_perm (ht:tabB t=true) (hp:t.all permB=true) (hf:matB (t.length:Int) m f=true):(exR t m f).all permB=true:=by
  obtain ⟨m1,m2,m3,hf'⟩:=matB_of hf
  obtain ⟨n1,n2,ht'⟩:=tabB_of ht
  have e:(t.length:Int) * m=((t.length * m.toNat:Nat):Int):=by rw [Int.natCast_mul];congr 1;omega
  have eK:((t.length:Int) * m).toNat=t.length * m.toNat:=by rw [e];rfl
  rw [List.all_eq_true]
  intro r hr
  obtain ⟨a,ha,rfl⟩:=List.mem_iff_getElem.1 hr
  have hl:=ex_len (t:=t) (f:=f) m1
  have ga:(exR t m f)[a]=tab (t.length * m.toNat) fun b=>exI t m f (a:Int) (b:Int):=by
    have:(exR t m f).getD a []=(exR t m f)[a]:=by simp [List.getD,ha]
    rw [←this,exR,eK,tabR_getD _ _ _ (by omega)]
  have rl:((exR t m f)[a]).length=t.length * m.toNat:=by rw [ga,tab_length]
  rw [perm_all,rl]
  intro v v0 v1
  obtain ⟨x,s,hx,hs,rfl⟩:=dm_of (show a<t.length * m.toNat by omega)
  obtain ⟨z,r,hz,hr2,hv⟩:=dm_of (show v.toNat<t.length * m.toNat by omega)
  have px:=List.all_eq_true.1 hp (t.getD x []) (by rw [show t.getD x []=t[x] by simp [List.getD,hx]];exact List.getElem_mem hx)
  have row:=(ht' x hx).1
  have mz:=perm_all.1 px (z:Int) (by omega) (by omega)
  obtain ⟨y,hy,ey⟩:=List.mem_iff_getElem.1 mz
  have hy:y<t.length:=by omega
  have exy:(en t x y).toNat=z:=by
    rw [en,getD_lt (t.getD x []) 0 y (by omega),ey];rfl
  have fl:=(fm_in hf hx hy).2
  have hM:0<m.toNat:=by omega
  have q:=ex_en ht hf hx hs hy (Nat.mod_lt (r+(m.toNat - (en f x y).toNat)) hM)
  have eu:((r+(m.toNat - (en f x y).toNat)) % m.toNat+(en f x y).toNat) % m.toNat=r:=by
    rw [Nat.mod_add_mod,show r+(m.toNat - (en f x y).toNat)+(en f x y).toNat=r+m.toNat by omega,Nat.add_mod_right,Nat.mod_eq_of_lt hr2]
  rw [exy,eu,←hv] at q
  have bl:=dm_lt hy (Nat.mod_lt (r+(m.toNat - (en f x y).toNat)) hM)
  have q2:((exR t m f)[x * m.toNat+s]).getD (y * m.toNat+(r+(m.toNat - (en f x y).toNat)) % m.toNat) 0=v:=by
    have:en (exR t m f) (x * m.toNat+s) (y * m.toNat+(r+(m.toNat - (en f x y).toNat)) % m.toNat)=((exR t m f)[x * m.toNat+s]).getD (y * m.toNat+(r+(m.toNat - (en f x y).toNat)) % m.toNat) 0:=by
      rw [en,show (exR t m f).getD (x * m.toNat+s) []=(exR t m f)[x * m.toNat+s] by simp [List.getD,ha]]
    rw [←this,q];omega
  rw [←q2]
  exact getD_mem _ 0 _ (by rw [rl];exact bl)
theorem mod_cancel {M r a b:Nat}:(r+a) % M=(r+b) % M↔a % M=b % M:=by
  constructor
  · intro h
    have e:∀c:Nat,(r+c) % M=((r % M)+(c % M)) % M:=fun c=>Nat.add_mod r c M
    rcases Nat.eq_zero_or_pos M with e0 | e0
    · subst e0;simp only [Nat.mod_zero] at h ⊢;omega
    · have h2:(r+a+(M - r % M)) % M=(r+b+(M - r % M)) % M:=by rw [Nat.add_mod,h,←Nat.add_mod]
      have l:=Nat.mod_lt r e0
      have d:=Nat.div_add_mod r M
      have k:∀c:Nat,(r+c+(M - r % M)) % M=c % M:=fun c=>by
        rw [show r+c+(M - r % M)=c+M * (r / M+1) by rw [Nat.mul_add,Nat.mul_one];omega,Nat.add_mul_mod_self_left]
      rw [k,k] at h2
      exact h2
  · intro h
    rw [Nat.add_mod,h,←Nat.add_mod]
end
end Go.Sx
