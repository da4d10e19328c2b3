/- Spl -/
import Derived.Test.YtjkbnanffneogaaCbdB
open Go Go.Proofs
namespace Go.Sx
set_option linter.unusedSimpArgs false
set_option linter.unusedVariables false
def spD (code:List Int) (a h most:Int):Dr :=
  let c:=c5D code a h most
  let n:Int:=(c.1.length:Int)
  let a1:=nxA code.length c.2.1 20
  let h1:=nxH c.2.2 20
  let x:=nxV code a1 h1 n
  let a2:=nxA code.length a1 n
  let h2:=nxH h1 n
  if nxV code c.2.1 c.2.2 20=0 then (c.1.set x.toNat (duF code n a2 h2).1,(duF code n a2 h2).2)
  else if nxV code c.2.1 c.2.2 20=1 then baD code a1 h1 n
  else if nxV code c.2.1 c.2.2 20=2 then (c.1.set x.toNat ((c.1.getD x.toNat []).set (nxV code a2 h2 n).toNat (nxV code (nxA code.length a2 n) (nxH h2 n) n)),nxA code.length (nxA code.length a2 n) n,nxH (nxH h2 n) n)
  else (c.1,a1,h1)
theorem spD_ok {code:List Int} (hb:bytesB code) {a h most:Int} (h1:1≤most) (h6:most≤6) (ha:0≤a) (ha2:a≤(code.length:Int)):okB code (spD code a h most):=by
  have R:=c5D_ok hb (h:=h) h1 h6 ha ha2
  unfold spD
  dsimp only
  generalize c5D code a h most=c at *
  obtain ⟨K1,K2,K3,K4,K5⟩:=R
  have rr:=sq_rows K3
  have s:=nxA_in (n:=20) K4 K5
  have s2:=nxA_in (n:=(c.1.length:Int)) s.1 s.2
  have s3:=nxA_in (n:=(c.1.length:Int)) s2.1 s2.2
  have s4:=nxA_in (n:=(c.1.length:Int)) s3.1 s3.2
  have R13:∀r∈c.1,r.length≤13:=fun r hr=>by have:=rr r hr;omega
  split
  · obtain ⟨d1,d2⟩:=duF_in hb (n:=(c.1.length:Int)) (a:=nxA code.length (nxA code.length c.2.1 20) (c.1.length:Int)) (h:=nxH (nxH c.2.2 20) (c.1.length:Int)) (by omega) s2.1 s2.2
    refine ⟨by show (c.1.set _ _).length≤13;rw [List.length_set];omega,set_row R13 ?_,d2⟩
    have:=d1.1
    omega
  · split
    · exact baD_ok hb (by omega) (by omega) s.1 s.2
    · split
      · refine ⟨by show (c.1.set _ _).length≤13;rw [List.length_set];omega,?_,s4⟩
        have hx:=nxV_in hb (nxA code.length c.2.1 20) (nxH c.2.2 20) (n:=(c.1.length:Int)) (by omega)
        exact set_row R13 (by rw [List.length_set];exact R13 _ (getD_mem c.1 [] _ (by omega)))
      · exact ⟨by show c.1.length≤13;omega,R13,s⟩
def l05Spoil_p (code:List Int) (a:Int) (h:Int) (most:Int):Post:=⟨bytesB code∧0≤a∧a≤(code.length:Int)∧code.length≤4096∧1≤most∧most≤6,.agg [.rows 41 2 .i64 ((spD code a h most).1)],[.bx [.ints .u8 (code),.int .i64 ((spD code a h most).2.1),.int .u64 ((spD code a h most).2.2)]]⟩
def l05Spoil_ct:List AD→Option Post
  | [.box [.ints .u8 (code),.int .i64 (a),.int .u64 (h)],.c (.int .i64 (most))]=>some (l05Spoil_p code a h most)
  | _=>none
def l05Spoil_G:List (Nat×Ctr):=[(86,⟨[(0,0)],l05Draw_ct⟩),(57,⟨[(0,0)],l01Next_ct⟩),(58,⟨[(0,0)],l01DrawU_ct⟩),(87,⟨[(0,0)],l01Bad_ct⟩)]
def l05Spoil_c1 (code:List Int) (a:Int) (h:Int) (most:Int):=(↑(((c5D code a h most).1).length):Int)
def l05Spoil_c2 (code:List Int) (a:Int) (h:Int) (most:Int):=(nxA (code.length) (((c5D code a h most).2).1) (20:Int))
def l05Spoil_c3 (code:List Int) (a:Int) (h:Int) (most:Int):=(nxV code (l05Spoil_c2 code a h most) (nxH (((c5D code a h most).2).2) (20:Int)) (l05Spoil_c1 code a h most))
def l05Spoil_c4 (code:List Int) (a:Int) (h:Int) (most:Int):=(nxA (code.length) (l05Spoil_c2 code a h most) (l05Spoil_c1 code a h most))
def l05Spoil_c5 (code:List Int) (a:Int) (h:Int) (most:Int):=(nxH (nxH (((c5D code a h most).2).2) (20:Int)) (l05Spoil_c1 code a h most))
def l05Spoil_V (code:List Int) (a:Int) (h:Int) (most:Int):Prop :=
 ((((bytesB code)∧(((0:Int)≤a)∧((a≤(↑(code.length):Int))∧((code.length≤(4096:Nat))∧(((1:Int)≤most)∧(most≤(6:Int)))))))∧((code=code)∧True))∧((((bytesB code)∧(((0:Int)≤((c5D code a h most).2).1)∧(((c5D code a h most).2).1≤(1099511627776:Int))))∧((code=code)∧True))∧(BrP (nxV code (((c5D code a h most).2).1) (((c5D code a h most).2).2) (20:Int) == (0:Int)) ((((bytesB code)∧(((0:Int)≤nxA (code.length) (((c5D code a h most).2).1) (20:Int))∧(nxA (code.length) (((c5D code a h most).2).1) (20:Int)≤(1099511627776:Int))))∧((code=code)∧True))∧((((bytesB code)∧(((0:Int)≤nxA (code.length) (l05Spoil_c2 code a h most) (l05Spoil_c1 code a h most))∧((nxA (code.length) (l05Spoil_c2 code a h most) (l05Spoil_c1 code a h most)≤(↑(code.length):Int))∧((code.length≤(4096:Nat))∧(((1:Int)≤(l05Spoil_c1 code a h most))∧((l05Spoil_c1 code a h most)≤(144:Int)))))))∧((code=code)∧True))∧((inB (l05Spoil_c3 code a h most) (((c5D code a h most).1).length))∧(((List.set ((c5D code a h most).1) ((l05Spoil_c3 code a h most).toNat) ((duF code (l05Spoil_c1 code a h most) (l05Spoil_c4 code a h most) (l05Spoil_c5 code a h most)).1)=(spD code a h most).1)∧True)∧(((code=code)∧((((duF code (l05Spoil_c1 code a h most) (l05Spoil_c4 code a h most) (l05Spoil_c5 code a h most)).2).1=((spD code a h most).2).1)∧((((duF code (l05Spoil_c1 code a h most) (l05Spoil_c4 code a h most) (l05Spoil_c5 code a h most)).2).2=((spD code a h most).2).2)∧True)))∧True)))))
 (BrP (nxV code (((c5D code a h most).2).1) (((c5D code a h most).2).2) (20:Int) == (1:Int)) ((((bytesB code)∧(((0:Int)≤nxA (code.length) (((c5D code a h most).2).1) (20:Int))∧((nxA (code.length) (((c5D code a h most).2).1) (20:Int)≤(↑(code.length):Int))∧((code.length≤(4096:Nat))∧(((1:Int)≤(l05Spoil_c1 code a h most))∧((l05Spoil_c1 code a h most)≤(6:Int)))))))∧((code=code)∧True))∧((((baD code (l05Spoil_c2 code a h most) (nxH (((c5D code a h most).2).2) (20:Int)) (l05Spoil_c1 code a h most)).1=(spD code a h most).1)∧True)∧(((code=code)∧((((baD code (l05Spoil_c2 code a h most) (nxH (((c5D code a h most).2).2) (20:Int)) (l05Spoil_c1 code a h most)).2).1=((spD code a h most).2).1)∧((((baD code (l05Spoil_c2 code a h most) (nxH (((c5D code a h most).2).2) (20:Int)) (l05Spoil_c1 code a h most)).2).2=((spD code a h most).2).2)∧True)))∧True))) (BrP (nxV code (((c5D code a h most).2).1) (((c5D code a h most).2).2) (20:Int) == (2:Int)) ((((bytesB code)∧(((0:Int)≤nxA (code.length) (((c5D code a h most).2).1) (20:Int))∧(nxA (code.length) (((c5D code a h most).2).1) (20:Int)≤(1099511627776:Int))))∧((code=code)∧True))∧((inB (l05Spoil_c3 code a h most) (((c5D code a h most).1).length))∧((((bytesB code)∧(((0:Int)≤nxA (code.length) (l05Spoil_c2 code a h most) (l05Spoil_c1 code a h most))∧(nxA (code.length) (l05Spoil_c2 code a h most) (l05Spoil_c1 code a h most)≤(1099511627776:Int))))∧((code=code)∧True))∧((((bytesB code) ∧
 (((0:Int)≤nxA (code.length) (l05Spoil_c4 code a h most) (l05Spoil_c1 code a h most))∧(nxA (code.length) (l05Spoil_c4 code a h most) (l05Spoil_c1 code a h most)≤(1099511627776:Int))))∧((code=code)∧True))∧((inB (nxV code (l05Spoil_c4 code a h most) (l05Spoil_c5 code a h most) (l05Spoil_c1 code a h most)) ((((c5D code a h most).1).getD ((l05Spoil_c3 code a h most).toNat) []).length))∧(((List.set ((c5D code a h most).1) ((l05Spoil_c3 code a h most).toNat) (List.set (((c5D code a h most).1).getD ((l05Spoil_c3 code a h most).toNat) []) ((nxV code (l05Spoil_c4 code a h most) (l05Spoil_c5 code a h most) (l05Spoil_c1 code a h most)).toNat) (nxV code (nxA (code.length) (l05Spoil_c4 code a h most) (l05Spoil_c1 code a h most)) (nxH (l05Spoil_c5 code a h most) (l05Spoil_c1 code a h most)) (l05Spoil_c1 code a h most)))=(spD code a h most).1)∧True)∧(((code=code)∧((nxA (code.length) (nxA (code.length) (l05Spoil_c4 code a h most) (l05Spoil_c1 code a h most)) (l05Spoil_c1 code a h most)=((spD code a h most).2).1)∧((nxH (nxH (l05Spoil_c5 code a h most) (l05Spoil_c1 code a h most)) (l05Spoil_c1 code a h most)=((spD code a h most).2).2)∧True)))∧True))))))) ((((c5D code a h most).1=(spD code a h most).1)∧True)∧(((code=code)∧((nxA (code.length) (((c5D code a h most).2).1) (20:Int)=((spD code a h most).2).1)∧((nxH (((c5D code a h most).2).2) (20:Int)=((spD code a h most).2).2)∧True)))∧True)))))))
theorem l05Spoil_vc (code:List Int) (a:Int) (h:Int) (most:Int):runF Try.prog (gam l05Spoil_G) noWr noAnn Try.f52 (bodyOf Try.f52) [(0,0)] [.box [.ints .u8 (code),.int .i64 (a),.int .u64 (h)],.c (.int .i64 (most))] (l05Spoil_p code a h most)=l05Spoil_V code a h most:=by kernel_rfl
theorem l05Spoil_ok (code:List Int) (a:Int) (h:Int) (most:Int) (hpre:(l05Spoil_p code a h most).pre):l05Spoil_V code a h most:=by
  simp only [l05Spoil_p,l05Spoil_V,l05Spoil_c1,l05Spoil_c2,l05Spoil_c3,l05Spoil_c4,l05Spoil_c5,BrP_iff,u1,u2,u3,u4,u5,u6,u7,u8,u9,v1,v2,v3,v4,v5,v6,v7,v8,v9,w1,w2,w3,w4,markL_length,inB,InR,room,bdsOk] at hpre ⊢
  obtain ⟨hb,h0,h1,h2,h3,h4⟩:=hpre
  have R:=c5D_ok hb (h:=h) h3 h4 h0 h1
  have e:spD code a h most=if nxV code (c5D code a h most).2.1 (c5D code a h most).2.2 20=0 then ((c5D code a h most).1.set (nxV code (nxA code.length (c5D code a h most).2.1 20) (nxH (c5D code a h most).2.2 20) ((c5D code a h most).1.length:Int)).toNat (duF code ((c5D code a h most).1.length:Int) (nxA code.length (nxA code.length (c5D code a h most).2.1 20) ((c5D code a h most).1.length:Int)) (nxH (nxH (c5D code a h most).2.2 20) ((c5D code a h most).1.length:Int))).1,(duF code ((c5D code a h most).1.length:Int) (nxA code.length (nxA code.length (c5D code a h most).2.1 20) ((c5D code a h most).1.length:Int)) (nxH (nxH (c5D code a h most).2.2 20) ((c5D code a h most).1.length:Int))).2)
    else if nxV code (c5D code a h most).2.1 (c5D code a h most).2.2 20=1 then baD code (nxA code.length (c5D code a h most).2.1 20) (nxH (c5D code a h most).2.2 20) ((c5D code a h most).1.length:Int)
    else if nxV code (c5D code a h most).2.1 (c5D code a h most).2.2 20=2 then ((c5D code a h most).1.set (nxV code (nxA code.length (c5D code a h most).2.1 20) (nxH (c5D code a h most).2.2 20) ((c5D code a h most).1.length:Int)).toNat (((c5D code a h most).1.getD (nxV code (nxA code.length (c5D code a h most).2.1 20) (nxH (c5D code a h most).2.2 20) ((c5D code a h most).1.length:Int)).toNat []).set (nxV code (nxA code.length (nxA code.length (c5D code a h most).2.1 20) ((c5D code a h most).1.length:Int)) (nxH (nxH (c5D code a h most).2.2 20) ((c5D code a h most).1.length:Int)) ((c5D code a h most).1.length:Int)).toNat (nxV code (nxA code.length (nxA code.length (nxA code.length (c5D code a h most).2.1 20) ((c5D code a h most).1.length:Int)) ((c5D code a h most).1.length:Int)) (nxH (nxH (nxH (c5D code a h most).2.2 20) ((c5D code a h most).1.length:Int)) ((c5D code a h most).1.length:Int)) ((c5D code a h most).1.length:Int))),nxA code.length (nxA code.length (nxA code.length (nxA code.length (c5D code a h most).2.1 20) ((c5D code a h most).1.length:Int)) ((c5D code a h most).1.length:Int)) ((c5D code a h most).1.length:Int),nxH (nxH (nxH (nxH (c5D code a h most).2.2 20) ((c5D code a h most).1.length:Int)) ((c5D code a h most).1.length:Int)) ((c5D code a h most).1.length:Int))
    else ((c5D code a h most).1,nxA code.length (c5D code a h most).2.1 20,nxH (c5D code a h most).2.2 20):=rfl
  rw [e]
  clear e
  generalize c5D code a h most=c at *
  obtain ⟨K1,K2,K3,K4,K5⟩:=R
  have rr:=sq_rows K3
  have s:=nxA_in (n:=20) K4 K5
  have s2:=nxA_in (n:=(c.1.length:Int)) s.1 s.2
  have s3:=nxA_in (n:=(c.1.length:Int)) s2.1 s2.2
  have v1:=nxV_in hb (nxA code.length c.2.1 20) (nxH c.2.2 20) (n:=(c.1.length:Int)) (by omega)
  have v2:=nxV_in hb (nxA code.length (nxA code.length c.2.1 20) (c.1.length:Int)) (nxH (nxH c.2.2 20) (c.1.length:Int)) (n:=(c.1.length:Int)) (by omega)
  refine ⟨⟨hb,h0,h1,h2,h3,h4⟩,⟨hb,K4,by omega⟩,fun z=>?_,fun z=>⟨fun z1=>?_,fun z1=>⟨fun z2=>?_,fun z2=>?_⟩⟩⟩
  · rw [if_pos z]
    exact ⟨⟨hb,s.1,by omega⟩,⟨hb,s2.1,s2.2,h2,by omega,by omega⟩,by omega,rfl,rfl,rfl⟩
  · rw [if_neg z,if_pos z1]
    exact ⟨⟨hb,s.1,s.2,h2,by omega,by omega⟩,rfl,rfl,rfl⟩
  · rw [if_neg z,if_neg z1,if_pos z2]
    have rl:=rr _ (getD_mem c.1 [] (nxV code (nxA code.length c.2.1 20) (nxH c.2.2 20) (c.1.length:Int)).toNat (by omega))
    exact ⟨⟨hb,s.1,by omega⟩,by omega,⟨hb,s2.1,by omega⟩,⟨hb,s3.1,by omega⟩,by omega,rfl,rfl,rfl⟩
  · rw [if_neg z,if_neg z1,if_neg z2]
    exact ⟨rfl,rfl,rfl⟩
theorem l05Spoil_fits:Fits Try.prog 52 ⟨[(0,0)],l05Spoil_ct⟩:=by
  refine ffn (Γ:=gam l05Spoil_G) (gok_cons l05Draw_fits (gok_cons l01Next_fits (gok_cons l01DrawU_fits (gok_cons l01Bad_fits gok_nil)))) Try.func52 fun ds p h hp=>?_
  unfold l05Spoil_ct at h
  split at h
  · cases h
    exact ⟨noWr,noAnn,by rw [l05Spoil_vc];exact l05Spoil_ok _ _ _ _  hp⟩
  · cases h
end Go.Sx
