/- CbdB -/
import Derived.Test.YtjkbnanffneogaaCbdA
open Go Go.Proofs
namespace Go.Sx
set_option linter.unusedSimpArgs false
set_option linter.unusedVariables false
def baD (code:List Int) (a h n:Int):Dq :=
  let d:=tbF code a h n
  let c:=nxV code d.2.1 d.2.2 30
  let a1:=nxA code.length d.2.1 30
  let h1:=nxH d.2.2 30
  if c=0 then (d.1++[unitL n.toNat],a1,h1)
  else if c=1 then (d.1.set 0 (d.1.getD 0 []++[0]),a1,h1)
  else if c=2 then (d.1.set 0 ((d.1.getD 0 []).set 0 ([-1,n,1099511627776].getD (nxV code a1 h1 3).toNat 0)),nxA code.length a1 3,nxH h1 3)
  else if c=3 then ([],a1,h1)
  else if c=4 then tbF code a1 h1 13
  else (d.1,a1,h1)
def okB (code:List Int) (d:Dq):Prop:=d.1.length≤13∧(∀r∈d.1,r.length≤13)∧0≤d.2.1∧d.2.1≤(code.length:Int)
theorem set_row {F:List (List Int)} {i:Nat} {v:List Int} {k:Nat} (h:∀r∈F,r.length≤k) (hv:v.length≤k):∀r∈F.set i v,r.length≤k:=fun r hr=>by
  rcases List.mem_or_eq_of_mem_set hr with hr | rfl
  · exact h r hr
  · exact hv
theorem baD_ok {code:List Int} (hb:bytesB code) {a h n:Int} (hn:1≤n) (hn2:n≤6) (h0:0≤a) (h1:a≤(code.length:Int)):okB code (baD code a h n):=by
  obtain ⟨t1,t2,t3,t4⟩:=tbF_ok hb (h:=h) hn h0 h1
  unfold baD
  dsimp only
  generalize tbF code a h n=d at *
  have s:=nxA_in (n:=30) t3 t4
  have s3:=nxA_in (n:=3) s.1 s.2
  have R:∀r∈d.1,r.length≤6:=fun r hr=>by have:=t1 r hr;omega
  have R':∀r∈d.1,r.length≤13:=fun r hr=>by have:=R r hr;omega
  have r0:(d.1.getD 0 []).length≤6:=R _ (getD_mem d.1 [] 0 (by omega))
  split
  · refine ⟨by show (d.1++[unitL n.toNat]).length≤13;rw [List.length_append,List.length_singleton];omega,fun r hr=>?_,s⟩
    rcases List.mem_append.1 hr with hr | hr
    · exact R' r hr
    · rw [List.mem_singleton.1 hr,unitL,tab_length];omega
  · split
    · exact ⟨by show (d.1.set _ _).length≤13;rw [List.length_set];omega,set_row R' (by rw [List.length_append,List.length_singleton];omega),s⟩
    · split
      · exact ⟨by show (d.1.set _ _).length≤13;rw [List.length_set];omega,set_row R' (by rw [List.length_set];omega),s3⟩
      · split
        · exact ⟨by simp,by simp,s⟩
        · split
          · obtain ⟨u1,u2,u3,u4⟩:=tbF_ok hb (h:=nxH d.2.2 30) (n:=13) (by omega) s.1 s.2
            exact ⟨by omega,fun r hr=>by have:=u1 r hr;omega,u3,u4⟩
          · exact ⟨by show d.1.length≤13;omega,R',s⟩
def l01Bad_p (code:List Int) (a:Int) (h:Int) (n:Int):Post:=⟨bytesB code∧0≤a∧a≤(code.length:Int)∧code.length≤4096∧1≤n∧n≤6,.c (.rows 41 2 .i64 ((baD code a h n).1)),[.bx [.ints .u8 (code),.int .i64 ((baD code a h n).2.1),.int .u64 ((baD code a h n).2.2)]]⟩
def l01Bad_ct:List AD→Option Post
  | [.box [.ints .u8 (code),.int .i64 (a),.int .u64 (h)],.c (.int .i64 (n))]=>some (l01Bad_p code a h n)
  | _=>none
def l01Bad_G:List (Nat×Ctr):=[(99,⟨[(0,0)],l01Tables_ct⟩),(57,⟨[(0,0)],l01Next_ct⟩),(92,⟨[],l01UnitG_ct⟩),(88,⟨[(0,0)],l01Pick_ct⟩)]
def l01Bad_V (code:List Int) (a:Int) (h:Int) (n:Int):Prop :=
 ((((bytesB code)∧(((0:Int)≤a)∧((a≤(↑(code.length):Int))∧((code.length≤(4096:Nat))∧(((1:Int)≤n)∧(n≤(13:Int)))))))∧((code=code)∧True))∧((((bytesB code)∧(((0:Int)≤((tbF code a h n).2).1)∧(((tbF code a h n).2).1≤(1099511627776:Int))))∧((code=code)∧True))∧(BrP (nxV code (((tbF code a h n).2).1) (((tbF code a h n).2).2) (30:Int) == (0:Int)) (((((0:Int)≤n)∧(n≤(1099511627776:Int)))∧True)∧((room (((tbF code a h n).1).length+(unitL (n.toNat)::([]:List (List Int))).length))∧(((tbF code a h n).1++unitL (n.toNat)::([]:List (List Int))=(baD code a h n).1)∧(((code=code)∧((nxA (code.length) (((tbF code a h n).2).1) (30:Int)=((baD code a h n).2).1)∧((nxH (((tbF code a h n).2).2) (30:Int)=((baD code a h n).2).2)∧True)))∧True)))) (BrP (nxV code (((tbF code a h n).2).1) (((tbF code a h n).2).2) (30:Int) == (1:Int)) ((inB (0:Int) (((tbF code a h n).1).length))∧((room ((((tbF code a h n).1).getD (0:Nat) []).length+[(0:Int)].length))∧((inB (0:Int) (((tbF code a h n).1).length))∧(((0:Nat)=(0:Nat))∧((List.set ((tbF code a h n).1) (0:Nat) (((tbF code a h n).1).getD (0:Nat) []++[(0:Int)])=(baD code a h n).1)∧(((code=code)∧((nxA (code.length) (((tbF code a h n).2).1) (30:Int)=((baD code a h n).2).1)∧((nxH (((tbF code a h n).2).2) (30:Int)=((baD code a h n).2).2)∧True)))∧True)))))) (BrP (nxV code (((tbF code a h n).2).1) (((tbF code a h n).2).2) (30:Int) == (2:Int)) ((inB (0:Int) (((tbF code a h n).1).length))∧((((bytesB code) ∧
 (((0:Int)≤nxA (code.length) (((tbF code a h n).2).1) (30:Int))∧((nxA (code.length) (((tbF code a h n).2).1) (30:Int)≤(1099511627776:Int))∧(((1:Nat)≤[(-1:Int),n,(1099511627776:Int)].length)∧([(-1:Int),n,(1099511627776:Int)].length≤(100:Nat))))))∧((code=code)∧True))∧((inB (0:Int) ((((tbF code a h n).1).getD (0:Nat) []).length))∧((List.set ((tbF code a h n).1) (0:Nat) (List.set (((tbF code a h n).1).getD (0:Nat) []) (0:Nat) ([(-1:Int),n,(1099511627776:Int)].getD ((nxV code (nxA (code.length) (((tbF code a h n).2).1) (30:Int)) (nxH (((tbF code a h n).2).2) (30:Int)) (↑([(-1:Int),n,(1099511627776:Int)].length):Int)).toNat) (0:Int)))=(baD code a h n).1)∧(((code=code)∧((nxA (code.length) (nxA (code.length) (((tbF code a h n).2).1) (30:Int)) (↑([(-1:Int),n,(1099511627776:Int)].length):Int)=((baD code a h n).2).1)∧((nxH (nxH (((tbF code a h n).2).2) (30:Int)) (↑([(-1:Int),n,(1099511627776:Int)].length):Int)=((baD code a h n).2).2)∧True)))∧True))))) (BrP (nxV code (((tbF code a h n).2).1) (((tbF code a h n).2).2) (30:Int) == (3:Int)) ((([]:List (List Int))=(baD code a h n).1)∧(((code=code)∧((nxA (code.length) (((tbF code a h n).2).1) (30:Int)=((baD code a h n).2).1)∧((nxH (((tbF code a h n).2).2) (30:Int)=((baD code a h n).2).2)∧True)))∧True)) (BrP (nxV code (((tbF code a h n).2).1) (((tbF code a h n).2).2) (30:Int) == (4:Int)) ((((bytesB code)∧(((0:Int)≤nxA (code.length) (((tbF code a h n).2).1) (30:Int)) ∧
 ((nxA (code.length) (((tbF code a h n).2).1) (30:Int)≤(↑(code.length):Int))∧((code.length≤(4096:Nat))∧(((1:Int)≤(13:Int))∧((13:Int)≤(13:Int)))))))∧((code=code)∧True))∧(((tbF code (nxA (code.length) (((tbF code a h n).2).1) (30:Int)) (nxH (((tbF code a h n).2).2) (30:Int)) (13:Int)).1=(baD code a h n).1)∧(((code=code)∧((((tbF code (nxA (code.length) (((tbF code a h n).2).1) (30:Int)) (nxH (((tbF code a h n).2).2) (30:Int)) (13:Int)).2).1=((baD code a h n).2).1)∧((((tbF code (nxA (code.length) (((tbF code a h n).2).1) (30:Int)) (nxH (((tbF code a h n).2).2) (30:Int)) (13:Int)).2).2=((baD code a h n).2).2)∧True)))∧True))) (((tbF code a h n).1=(baD code a h n).1)∧(((code=code)∧((nxA (code.length) (((tbF code a h n).2).1) (30:Int)=((baD code a h n).2).1)∧((nxH (((tbF code a h n).2).2) (30:Int)=((baD code a h n).2).2)∧True)))∧True)))))))))
theorem l01Bad_vc (code:List Int) (a:Int) (h:Int) (n:Int):runF Try.prog (gam l01Bad_G) noWr noAnn Try.f87 (bodyOf Try.f87) [(0,0)] [.box [.ints .u8 (code),.int .i64 (a),.int .u64 (h)],.c (.int .i64 (n))] (l01Bad_p code a h n)=l01Bad_V code a h n:=by kernel_rfl
theorem l01Bad_ok (code:List Int) (a:Int) (h:Int) (n:Int) (hpre:(l01Bad_p code a h n).pre):l01Bad_V code a h n:=by
  simp only [l01Bad_p,l01Bad_V,BrP_iff,u1,u2,u3,u4,u5,u6,u7,u8,u9,v1,v2,v3,v4,v5,v6,v7,v8,v9,w1,w2,w3,w4,markL_length,inB,InR,room,bdsOk] at hpre ⊢
  obtain ⟨hb,h0,h1,hc,n0,n1⟩:=hpre
  obtain ⟨t1,t2,t3,t4⟩:=tbF_ok hb (h:=h) n0 h0 h1
  have e:baD code a h n=let d:=tbF code a h n;let c:=nxV code d.2.1 d.2.2 30;let a1:=nxA code.length d.2.1 30;let h1:=nxH d.2.2 30
    if c=0 then (d.1++[unitL n.toNat],a1,h1) else if c=1 then (d.1.set 0 (d.1.getD 0 []++[0]),a1,h1)
    else if c=2 then (d.1.set 0 ((d.1.getD 0 []).set 0 ([-1,n,1099511627776].getD (nxV code a1 h1 3).toNat 0)),nxA code.length a1 3,nxH h1 3)
    else if c=3 then ([],a1,h1) else if c=4 then tbF code a1 h1 13 else (d.1,a1,h1):=rfl
  dsimp only at e
  generalize tbF code a h n=d at *
  have s:=nxA_in (n:=30) t3 t4
  have r0:=t1 _ (getD_mem d.1 [] 0 (by omega))
  refine ⟨⟨hb,h0,h1,hc,n0,by omega⟩,⟨hb,t3,by omega⟩,fun z=>?_,fun z=>⟨fun z1=>?_,fun z1=>⟨fun z2=>?_,fun z2=>⟨fun z3=>?_,fun z3=>⟨fun z4=>?_,fun z4=>?_⟩⟩⟩⟩⟩
  · rw [e,if_pos z];exact ⟨⟨by omega,by omega⟩,by simp;omega,rfl,rfl,rfl⟩
  · rw [e,if_neg z,if_pos z1];exact ⟨by omega,by omega,by omega,rfl,rfl,rfl⟩
  · rw [e,if_neg z,if_neg z1,if_pos z2];exact ⟨by omega,⟨hb,s.1,by omega,by simp,by simp⟩,by omega,rfl,rfl,rfl⟩
  · rw [e,if_neg z,if_neg z1,if_neg z2,if_pos z3];exact ⟨rfl,rfl,rfl⟩
  · rw [e,if_neg z,if_neg z1,if_neg z2,if_neg z3,if_pos z4];exact ⟨⟨hb,s.1,s.2,hc,by omega,by omega⟩,rfl,rfl,rfl⟩
  · rw [e,if_neg z,if_neg z1,if_neg z2,if_neg z3,if_neg z4];exact ⟨rfl,rfl,rfl⟩
theorem l01Bad_fits:Fits Try.prog 87 ⟨[(0,0)],l01Bad_ct⟩:=by
  refine ffn (Γ:=gam l01Bad_G) (gok_cons l01Tables_fits (gok_cons l01Next_fits (gok_cons l01UnitG_fits (gok_cons l01Pick_fits gok_nil)))) Try.func87 fun ds p h hp=>?_
  unfold l01Bad_ct at h
  split at h
  · cases h
    exact ⟨noWr,noAnn,by rw [l01Bad_vc];exact l01Bad_ok _ _ _ _  hp⟩
  · cases h
def moD (code:List Int) (a h n:Int):Int×Int×Int :=
  let a1:=nxA code.length a 20
  let h1:=nxH h 20
  if nxV code a h 20=0 then ([0,13,-1,12].getD (nxV code a1 h1 4).toNat 0,nxA code.length a1 4,nxH h1 4)
  else if n<1∨6<n then (1+nxV code a1 h1 4,nxA code.length a1 4,nxH h1 4)
  else (1+nxV code a1 h1 ((12:Int).tdiv n),nxA code.length a1 ((12:Int).tdiv n),nxH h1 ((12:Int).tdiv n))
theorem moD_in {code:List Int} (hb:bytesB code) {a h n:Int} (h0:0≤a) (h1:a≤(code.length:Int)) (hn:0≤n):-1≤(moD code a h n).1∧(moD code a h n).1≤13∧0≤(moD code a h n).2.1∧(moD code a h n).2.1≤(code.length:Int):=by
  have s:=nxA_in (n:=20) h0 h1
  have s4:=nxA_in (n:=4) s.1 s.2
  unfold moD
  dsimp only
  split
  · have v:=nxV_in hb (nxA code.length a 20) (nxH h 20) (n:=4) (by omega)
    have:(nxV code (nxA code.length a 20) (nxH h 20) 4).toNat<4:=by omega
    have g:∀i:Nat,i<4→-1≤[(0:Int),13,-1,12].getD i 0∧[(0:Int),13,-1,12].getD i 0≤13:=by decide
    exact ⟨(g _ this).1,(g _ this).2,s4⟩
  · split
    · have v:=nxV_in hb (nxA code.length a 20) (nxH h 20) (n:=4) (by omega)
      exact ⟨by show -1≤1+_;omega,by show 1+_≤(13:Int);omega,s4⟩
    · rename_i hh
      have d1:1≤(12:Int).tdiv n∧(12:Int).tdiv n≤12:=by
        have:n=1∨n=2∨n=3∨n=4∨n=5∨n=6:=by omega
        rcases this with e | e | e | e | e | e <;> subst e <;> decide
      have v:=nxV_in hb (nxA code.length a 20) (nxH h 20) (n:=(12:Int).tdiv n) d1.1
      exact ⟨by show -1≤1+_;omega,by show 1+_≤(13:Int);omega,nxA_in s.1 s.2⟩
def l14Modulus_p (code:List Int) (a:Int) (h:Int) (n:Int):Post:=⟨bytesB code∧0≤a∧a≤(code.length:Int)∧code.length≤4096∧0≤n∧n≤13,.c (.int .i64 ((moD code a h n).1)),[.bx [.ints .u8 (code),.int .i64 ((moD code a h n).2.1),.int .u64 ((moD code a h n).2.2)]]⟩
def l14Modulus_ct:List AD→Option Post
  | [.box [.ints .u8 (code),.int .i64 (a),.int .u64 (h)],.c (.int .i64 (n))]=>some (l14Modulus_p code a h n)
  | _=>none
def l14Modulus_G:List (Nat×Ctr):=[(57,⟨[(0,0)],l01Next_ct⟩),(88,⟨[(0,0)],l01Pick_ct⟩)]
def l14Modulus_V (code:List Int) (a:Int) (h:Int) (n:Int):Prop :=
 ((((bytesB code)∧(((0:Int)≤a)∧(a≤(1099511627776:Int))))∧((code=code)∧True))∧(BrP (nxV code a h (20:Int) == (0:Int)) ((((bytesB code)∧(((0:Int)≤nxA (code.length) a (20:Int))∧((nxA (code.length) a (20:Int)≤(1099511627776:Int))∧(((1:Nat)≤[(0:Int),(13:Int),(-1:Int),(12:Int)].length)∧([(0:Int),(13:Int),(-1:Int),(12:Int)].length≤(100:Nat))))))∧((code=code)∧True))∧(([(0:Int),(13:Int),(-1:Int),(12:Int)].getD ((nxV code (nxA (code.length) a (20:Int)) (nxH h (20:Int)) (↑([(0:Int),(13:Int),(-1:Int),(12:Int)].length):Int)).toNat) (0:Int)=(moD code a h n).1)∧(((code=code)∧((nxA (code.length) (nxA (code.length) a (20:Int)) (↑([(0:Int),(13:Int),(-1:Int),(12:Int)].length):Int)=((moD code a h n).2).1)∧((nxH (nxH h (20:Int)) (↑([(0:Int),(13:Int),(-1:Int),(12:Int)].length):Int)=((moD code a h n).2).2)∧True)))∧True))) (BrP (decide (n<(1:Int))) ((((bytesB code)∧(((0:Int)≤nxA (code.length) a (20:Int))∧(nxA (code.length) a (20:Int)≤(1099511627776:Int))))∧((code=code)∧True))∧((InR ((1:Int)+nxV code (nxA (code.length) a (20:Int)) (nxH h (20:Int)) (4:Int)))∧(((1:Int)+nxV code (nxA (code.length) a (20:Int)) (nxH h (20:Int)) (4:Int)=(moD code a h n).1)∧(((code=code)∧((nxA (code.length) (nxA (code.length) a (20:Int)) (4:Int)=((moD code a h n).2).1)∧((nxH (nxH h (20:Int)) (4:Int)=((moD code a h n).2).2)∧True)))∧True)))) (BrP (decide ((6:Int)<n)) ((((bytesB code)∧(((0:Int)≤nxA (code.length) a (20:Int)) ∧
 (nxA (code.length) a (20:Int)≤(1099511627776:Int))))∧((code=code)∧True))∧((InR ((1:Int)+nxV code (nxA (code.length) a (20:Int)) (nxH h (20:Int)) (4:Int)))∧(((1:Int)+nxV code (nxA (code.length) a (20:Int)) (nxH h (20:Int)) (4:Int)=(moD code a h n).1)∧(((code=code)∧((nxA (code.length) (nxA (code.length) a (20:Int)) (4:Int)=((moD code a h n).2).1)∧((nxH (nxH h (20:Int)) (4:Int)=((moD code a h n).2).2)∧True)))∧True)))) (((n≠(0:Int))∧(InR (Int.tdiv (12:Int) n)))∧((((bytesB code)∧(((0:Int)≤nxA (code.length) a (20:Int))∧(nxA (code.length) a (20:Int)≤(1099511627776:Int))))∧((code=code)∧True))∧((InR ((1:Int)+nxV code (nxA (code.length) a (20:Int)) (nxH h (20:Int)) (Int.tdiv (12:Int) n)))∧(((1:Int)+nxV code (nxA (code.length) a (20:Int)) (nxH h (20:Int)) (Int.tdiv (12:Int) n)=(moD code a h n).1)∧(((code=code)∧((nxA (code.length) (nxA (code.length) a (20:Int)) (Int.tdiv (12:Int) n)=((moD code a h n).2).1)∧((nxH (nxH h (20:Int)) (Int.tdiv (12:Int) n)=((moD code a h n).2).2)∧True)))∧True)))))))))
theorem l14Modulus_vc (code:List Int) (a:Int) (h:Int) (n:Int):runF Try.prog (gam l14Modulus_G) noWr noAnn Try.f53 (bodyOf Try.f53) [(0,0)] [.box [.ints .u8 (code),.int .i64 (a),.int .u64 (h)],.c (.int .i64 (n))] (l14Modulus_p code a h n)=l14Modulus_V code a h n:=by kernel_rfl
theorem l14Modulus_ok (code:List Int) (a:Int) (h:Int) (n:Int) (hpre:(l14Modulus_p code a h n).pre):l14Modulus_V code a h n:=by
  simp only [l14Modulus_p,l14Modulus_V,BrP_iff,u1,u2,u3,u4,u5,u6,u7,u8,u9,v1,v2,v3,v4,v5,v6,v7,v8,v9,w1,w2,w3,w4,markL_length,inB,InR,room,bdsOk] at hpre ⊢
  obtain ⟨hb,h0,h1,hc,n0,n1⟩:=hpre
  have s:=nxA_in (n:=20) h0 h1
  refine ⟨⟨hb,by omega,by omega⟩,fun z=>?_,fun z=>⟨fun y=>?_,fun y=>⟨fun y2=>?_,fun y2=>?_⟩⟩⟩
  · have e:moD code a h n=([0,13,-1,12].getD (nxV code (nxA code.length a 20) (nxH h 20) 4).toNat 0,nxA code.length (nxA code.length a 20) 4,nxH (nxH h 20) 4):=if_pos z
    rw [e]
    exact ⟨⟨hb,s.1,by omega,by omega,by omega⟩,rfl,rfl,rfl⟩
  · have e:moD code a h n=(1+nxV code (nxA code.length a 20) (nxH h 20) 4,nxA code.length (nxA code.length a 20) 4,nxH (nxH h 20) 4):=(if_neg z).trans (if_pos (.inl y))
    have v:=nxV_in hb (nxA code.length a 20) (nxH h 20) (n:=4) (by omega)
    rw [e]
    exact ⟨⟨hb,s.1,by omega⟩,by omega,rfl,rfl,rfl⟩
  · have e:moD code a h n=(1+nxV code (nxA code.length a 20) (nxH h 20) 4,nxA code.length (nxA code.length a 20) 4,nxH (nxH h 20) 4):=(if_neg z).trans (if_pos (.inr y2))
    have v:=nxV_in hb (nxA code.length a 20) (nxH h 20) (n:=4) (by omega)
    rw [e]
    exact ⟨⟨hb,s.1,by omega⟩,by omega,rfl,rfl,rfl⟩
  · have e:moD code a h n=(1+nxV code (nxA code.length a 20) (nxH h 20) ((12:Int).tdiv n),nxA code.length (nxA code.length a 20) ((12:Int).tdiv n),nxH (nxH h 20) ((12:Int).tdiv n)):=(if_neg z).trans (if_neg (by omega))
    have d1:1≤(12:Int).tdiv n∧(12:Int).tdiv n≤12:=by
      have:n=1∨n=2∨n=3∨n=4∨n=5∨n=6:=by omega
      rcases this with e | e | e | e | e | e <;> subst e <;> decide
    have v:=nxV_in hb (nxA code.length a 20) (nxH h 20) (n:=(12:Int).tdiv n) d1.1
    rw [e]
    exact ⟨⟨by omega,by omega,by omega⟩,⟨hb,s.1,by omega⟩,by omega,rfl,rfl,rfl⟩
theorem l14Modulus_fits:Fits Try.prog 53 ⟨[(0,0)],l14Modulus_ct⟩:=by
  refine ffn (Γ:=gam l14Modulus_G) (gok_cons l01Next_fits (gok_cons l01Pick_fits gok_nil)) Try.func53 fun ds p h hp=>?_
  unfold l14Modulus_ct at h
  split at h
  · cases h
    exact ⟨noWr,noAnn,by rw [l14Modulus_vc];exact l14Modulus_ok _ _ _ _  hp⟩
  · cases h
end Go.Sx
