/- IdcA -/
import Derived.Test.YtcdmndagoafcgaaGreatSoc
import Derived.Test.YtcdmndagoafcgaaGreatStar
import Derived.Test.YtcdmndagoafcgaaGreatCirB
open Go Go.Proofs
namespace Go.Sx
set_option linter.unusedSimpArgs false
set_option linter.unusedVariables false
def cu (a c:List (List Int)) (s:Int):Bool×Int:=if cR a c s=0 then (aR a c s,0) else (false,cR a c s)
def sL (a:List (List Int)) (c:List (List Int)) (s:Int):Post:=⟨au a∧au c,.tup [.inl (.bool ((cu a c s).1)),.inl (.int .i64 ((cu a c s).2))],[]⟩
def zz:List AD→Option Post
 | [.agg [.rows .i64 (a),.rows .i64 (c)],.c (.int .i64 (s))]=>some (sL a c s)
 | _=>none
def Hv:List (Nat×Ctr):=[(84,⟨[],uW⟩),(86,⟨[],kT⟩),(85,⟨[],pf⟩)]
def zA (a:List (List Int)) (c:List (List Int)) (s:Int):Prop :=
 ((((au a)∧(au c))∧True)∧(ac (cR a c s != (0:Int)) (((false=(cu a c s).1)∧((cR a c s=(cu a c s).2)∧True))∧True) (((bM a c)∧True)∧((((bM a c)∧((aO a c=aO a c)∧(bu a s)))∧True)∧(((aR a c s=(cu a c s).1)∧(((0:Int)=(cu a c s).2)∧True))∧True)))))
theorem PH (a:List (List Int)) (c:List (List Int)) (s:Int):aC Tryz.prog (af Hv) ah am Tryz.f32 (aE Tryz.f32) [] [.agg [.rows .i64 (a),.rows .i64 (c)],.c (.int .i64 (s))] (sL a c s)=zA a c s:=by kernel_rfl
theorem PI (a:List (List Int)) (c:List (List Int)) (s:Int) (Yh:(sL a c s).pre):zA a c s:=by
 simp only [sL,zA,aG,u1,u2,u3,u4,u5,u6,u7,u8,u9,v1,v2,v3,v4,v5,v6,v7,v8,v9,w1,w2,w3,w4,aH,aa,ab,ae,ar] at Yh ⊢;refine ⟨Yh,fun h=>by rw [cu,if_neg h];exact ⟨rfl,rfl⟩,fun h=>?_⟩
 obtain ⟨g,so⟩:=mc h;rw [cu,if_pos h];exact ⟨g,⟨g,so⟩,rfl,rfl⟩
theorem PJ:Fits Tryz.prog 32 ⟨[],zz⟩:=by
 refine aJ (Γ:=af Hv) (aj Kf (aj nD (aj Ao aF))) Tryz.func32 fun ds p h hp=>?_
 unfold zz at h;split at h
 ·cases h
  exact ⟨ah,am,by rw [PH];exact PI _ _ _  hp⟩
 ·cases h
def sM (a:List (List Int)) (c:List (List Int)) (s:Int):Post:=⟨au a∧au c,.tup [.inl (.bool ((cu a c s).1)),.inl (.int .i64 ((cu a c s).2))],[]⟩
def zB:List AD→Option Post
 | [.agg [.rows .i64 (a),.rows .i64 (c)],.c (.int .i64 (s))]=>some (sM a c s)
 | _=>none
def Hw:List (Nat×Ctr):=[(89,⟨[],uY⟩),(90,⟨[],pm⟩)]
def zC (a:List (List Int)) (c:List (List Int)) (s:Int):Prop :=
 ((((au a)∧(au c))∧True)∧(ac (cR a c s != (0:Int)) (((false=(cu a c s).1)∧((cR a c s=(cu a c s).2)∧True))∧True) ((((bM a c)∧(bu a s))∧True)∧(((aR a c s=(cu a c s).1)∧(((0:Int)=(cu a c s).2)∧True))∧True))))
theorem PK (a:List (List Int)) (c:List (List Int)) (s:Int):aC Tryz.prog (af Hw) ah am Tryz.f33 (aE Tryz.f33) [] [.agg [.rows .i64 (a),.rows .i64 (c)],.c (.int .i64 (s))] (sM a c s)=zC a c s:=by kernel_rfl
theorem PM (a:List (List Int)) (c:List (List Int)) (s:Int) (Yh:(sM a c s).pre):zC a c s:=by
 simp only [sM,zC,aG,u1,u2,u3,u4,u5,u6,u7,u8,u9,v1,v2,v3,v4,v5,v6,v7,v8,v9,w1,w2,w3,w4,aH,aa,ab,ae,ar] at Yh ⊢;refine ⟨Yh,fun h=>by rw [cu,if_neg h];exact ⟨rfl,rfl⟩,fun h=>?_⟩
 obtain ⟨g,so⟩:=mc h;rw [cu,if_pos h];exact ⟨⟨g,so⟩,rfl,rfl⟩
theorem PN:Fits Tryz.prog 33 ⟨[],zB⟩:=by
 refine aJ (Γ:=af Hw) (aj Kh (aj Ax aF)) Tryz.func33 fun ds p h hp=>?_
 unfold zB at h;split at h
 ·cases h
  exact ⟨ah,am,by rw [PK];exact PM _ _ _  hp⟩
 ·cases h
def iY (c:List (List Int)):List Int→Int→Int
 | [],u=>u
 | x::l,u=>iY c l (if c.getD x.toNat []=(cI c).getD x.toNat [] then ((u.toNat ||| 2 ^ x.toNat:Nat):Int) else u)
def d6 (a c:List (List Int)):Int:=iY c (ag (bt a c) 12) 0
def sN (a:List (List Int)) (c:List (List Int)):Post:=⟨au a∧au c,.tup [.inl (.int .i64 (if aK a c=true then d6 a c else 0)),.inl (.int .i64 (if aK a c=true then 0 else 1))],[]⟩
def zD:List AD→Option Post
 | [.agg [.rows .i64 (a),.rows .i64 (c)]]=>some (sN a c)
 | _=>none
def Hx (a:List (List Int)) (c:List (List Int)):Nat→Option Ann
 | 0=>some (Ann.mk ((Nat)×(Nat)) (fun x=>match x with | (i,w)=>⟨[(1,.c (.ptr 1 0)),(4,.c (.own (13))),(5,.c (.int .i64 ((w:Int)))),(16,.c (.own (16))),(17,.c (.int .i64 (((ag (bt a c) 12).length:Int)))),(18,.c (.int .i64 ((i:Int))))],[(1,some (.box [.ro (.rows .i64 (a)),.ro (.rows .i64 (c))])),(13,some (.rows 0 57 2 .i64 (cI c))),(16,some (.ints 2 .i64 (ag (bt a c) 12)))]⟩) (fun x=>match x with | (i,w)=>i≤(ag (bt a c) 12).length∧w<4096∧aK a c=true∧iY c ((ag (bt a c) 12).drop i) (w:Int)=d6 a c) (fun x=>match x with | (i,w)=>(ag (bt a c) 12).length - i) (fun _=>am))
 | _=>none
def Hy:List (Nat×Ctr):=[(44,⟨[],gT⟩),(91,⟨[],rp⟩),(76,⟨[],rx⟩),(92,⟨[],lQ⟩),(93,⟨[],rk⟩)]
def jY (a:List (List Int)) (c:List (List Int)) (x0:Nat×Nat):=((ag (bt a c) (12:Nat)).getD ((↑x0.1:Int).toNat) (0:Int))
def zE (a:List (List Int)) (c:List (List Int)):Prop :=
 ((((au a)∧(au c))∧True)∧(ac (!aK a c) ((((0:Int)=if aK a c=true then d6 a c else (0:Int))∧(((1:Int)=if aK a c=true then (0:Int) else (1:Int))∧True))∧True) (((aW c=true)∧True)∧((((aW a=true)∧((aW c=true)∧(c.length=a.length)))∧True)∧(((((0:Int)≤bt a c)∧(bt a c<(4096:Int)))∧True)∧((∃x0:Nat×Nat,(((x0.1≤(ag (bt a c) (12:Nat)).length)∧((x0.2<(4096:Nat))∧((aK a c=true)∧(iY c (List.drop (x0.1) (ag (bt a c) (12:Nat))) (↑(x0.2):Int)=d6 a c))))∧(((0:Int)=(↑x0.2:Int))∧(((↑((ag (bt a c) (12:Nat)).length):Int)=(↑((ag (bt a c) (12:Nat)).length):Int))∧(((0:Int)=(↑x0.1:Int))∧((a=a)∧((c=c)∧((cI c=cI c)∧(ag (bt a c) (12:Nat)=ag (bt a c) (12:Nat))))))))))∧(∀x1:Nat×Nat,(((x1.1≤(ag (bt a c) (12:Nat)).length)∧((x1.2<(4096:Nat))∧((aK a c=true)∧(iY c (List.drop (x1.1) (ag (bt a c) (12:Nat))) (↑(x1.2):Int)=d6 a c))))→(ac (decide ((↑x1.1:Int)<(↑((ag (bt a c) (12:Nat)).length):Int))) ((aa (↑x1.1:Int) ((ag (bt a c) (12:Nat)).length))∧((aa (jY a c x1) (c.length))∧((aa (jY a c x1) ((cI c).length))∧(((((c.getD ((jY a c x1).toNat) []).length≤(9223372036854775807:Nat))∧(((cI c).getD ((jY a c x1).toNat) []).length≤(9223372036854775807:Nat)))∧True)∧(ac (decide (c.getD (((ag (bt a c) (12:Nat)).getD ((↑x1.1:Int).toNat) (0:Int)).toNat) []=(cI c).getD (((ag (bt a c) (12:Nat)).getD ((↑x1.1:Int).toNat) (0:Int)).toNat) []))
 (((((0:Int)≤(ag (bt a c) (12:Nat)).getD ((↑x1.1:Int).toNat) (0:Int))∧((ag (bt a c) (12:Nat)).getD ((↑x1.1:Int).toNat) (0:Int)≤(62:Int)))∧(ab ((1:Int) * (2:Int) ^ (jY a c x1).toNat)))∧(((IntKind.i64=IntKind.i64)∧((((0:Int)≤(↑x1.2:Int))∧((↑x1.2:Int)≤(9223372036854775807:Int)))∧(((0:Int)≤(1:Int) * (2:Int) ^ (jY a c x1).toNat)∧((1:Int) * (2:Int) ^ (jY a c x1).toNat≤(9223372036854775807:Int)))))∧((ab ((↑x1.1:Int)+(1:Int)))∧(∃x2:Nat×Nat,(((x2.1≤(ag (bt a c) (12:Nat)).length)∧((x2.2<(4096:Nat))∧((aK a c=true)∧(iY c (List.drop (x2.1) (ag (bt a c) (12:Nat))) (↑(x2.2):Int)=d6 a c))))∧(((ag (bt a c) (12:Nat)).length - x2.1<(ag (bt a c) (12:Nat)).length - x1.1)∧(((↑((↑x1.2:Int).toNat ||| ((1:Int) * (2:Int) ^ (jY a c x1).toNat).toNat):Int)=(↑x2.2:Int))∧(((↑((ag (bt a c) (12:Nat)).length):Int)=(↑((ag (bt a c) (12:Nat)).length):Int))∧(((↑x1.1:Int)+(1:Int)=(↑x2.1:Int))∧((a=a)∧((c=c)∧((cI c=cI c)∧(ag (bt a c) (12:Nat)=ag (bt a c) (12:Nat)))))))))))))) ((ab ((↑x1.1:Int)+(1:Int)))∧(∃x3:Nat×Nat,(((x3.1≤(ag (bt a c) (12:Nat)).length)∧((x3.2<(4096:Nat))∧((aK a c=true)∧(iY c (List.drop (x3.1) (ag (bt a c) (12:Nat))) (↑(x3.2):Int)=d6 a c))))∧(((ag (bt a c) (12:Nat)).length - x3.1<(ag (bt a c) (12:Nat)).length - x1.1)∧(((↑x1.2:Int)=(↑x3.2:Int))∧(((↑((ag (bt a c) (12:Nat)).length):Int)=(↑((ag (bt a c) (12:Nat)).length):Int))∧(((↑x1.1:Int)+(1:Int)=(↑x3.1:Int)) ∧
 ((a=a)∧((c=c)∧((cI c=cI c)∧(ag (bt a c) (12:Nat)=ag (bt a c) (12:Nat))))))))))))))))) ((((↑x1.2:Int)=if aK a c=true then d6 a c else (0:Int))∧(((0:Int)=if aK a c=true then (0:Int) else (1:Int))∧True))∧True))))))))))
theorem PO (a:List (List Int)) (c:List (List Int)):aC Tryz.prog (af Hy) ah (Hx a c) Tryz.f35 (aE Tryz.f35) [] [.agg [.rows .i64 (a),.rows .i64 (c)]] (sN a c)=zE a c:=by kernel_rfl
theorem PP (a:List (List Int)) (c:List (List Int)) (Yh:(sN a c).pre):zE a c:=by
 simp only [sN,zE,jY,aG,u1,u2,u3,u4,u5,u6,u7,u8,u9,v1,v2,v3,v4,v5,v6,v7,v8,v9,w1,w2,w3,w4,aH,aa,ab,ae,ar] at Yh ⊢;refine ⟨Yh,fun b=>by simp [b],fun b=>?_⟩
 obtain ⟨ta,tc,hl,_⟩:=Cr b;have so:=Cq ta c
 have S:=gv so
 obtain ⟨n1,n2,ht⟩:=bA ta;obtain ⟨_,_,htc⟩:=bA tc;have E:=pc so
 have eL:=nv (bt a c) 12
 have hT:(cI c).length=c.length:=fK _ _
 refine ⟨tc,⟨ta,tc,hl⟩,S,⟨⟨0,0⟩,⟨by dsimp only;omega,by dsimp only;omega,b,rfl⟩,rfl,rfl⟩,fun ⟨i,w⟩ ⟨hi,hw,_,he⟩=>⟨fun h=>?_,fun h=>?_⟩⟩
 ·dsimp only at hi hw he h ⊢
  have A:=E i (by omega)
  have r1:=(htc ((ag (bt a c) 12).getD i 0).toNat (by omega)).1
  have r2:((cI c).getD ((ag (bt a c) 12).getD i 0).toNat []).length=c.length:=by rw [cI,eZ _ _ _ (by omega),cf]
  rw [drop_cons' _ 0 i (by omega),iY] at he
  generalize (ag (bt a c) 12).getD i 0=x at *
  have pn:(1 * (2:Int) ^ x.toNat)=((2 ^ x.toNat:Nat):Int):=by rw [Int.one_mul,Int.natCast_pow];rfl
  have p12:2 ^ x.toNat<2 ^ 12:=Nat.pow_lt_pow_right (by omega) (by omega)
  have pp:=Int.natCast_nonneg (2 ^ x.toNat)
  have o12:w ||| 2 ^ x.toNat<2 ^ 12:=Nat.or_lt_two_pow (by omega) p12
  rw [pn,Int.toNat_natCast];refine ⟨by omega,by omega,by omega,by omega,fun e=>⟨by omega,by omega,by omega,⟨i+1,w ||| 2 ^ x.toNat⟩,⟨by dsimp only;omega,o12,b,?_⟩,by dsimp only;omega,rfl,by dsimp only;omega⟩,fun e=>⟨by omega,⟨i+1,w⟩,⟨by dsimp only;omega,hw,b,?_⟩,by dsimp only;omega,rfl,by dsimp only;omega⟩⟩
  ·rw [if_pos e,Int.toNat_natCast] at he;exact he
  ·rw [if_neg e] at he;exact he
 ·dsimp only at hi hw he h ⊢
  rw [List.drop_of_length_le (by omega),iY] at he
  rw [if_pos b,if_pos b,he];exact ⟨rfl,rfl⟩
theorem PQ:Fits Tryz.prog 35 ⟨[],zD⟩:=by
 refine aJ (Γ:=af Hy) (aj iZ (aj Ga (aj Ge (aj oY (aj F7 aF))))) Tryz.func35 fun ds p h hp=>?_
 unfold zD at h;split at h
 ·cases h
  exact ⟨ah,Hx _ _ ,by rw [PO];exact PP _ _  hp⟩
 ·cases h
def ig (a c:List (List Int)) (s:Int):Bool:=cQ a s&&cJ a.length (aO a c) s
def gt (a c:List (List Int)) (s:Int):Bool:=cQ a s&&cQ c s
def sO (s:Int) (a:List (List Int)) (c:List (List Int)) (l:List (List Int)):Post:=⟨bM a c∧l=aO a c∧bu a s,.c (.bool (ig a c s)),[]⟩
def zF:List AD→Option Post
 | [.c (.int .i64 (s)),.box [.rows .i64 (a),.rows .i64 (c)],.box [.rows .i64 (l)]]=>some (sO s a c l)
 | _=>none
def Hz:List (Nat×Ctr):=[(98,⟨[],tB⟩)]
def zG (s:Int) (a:List (List Int)) (c:List (List Int)) (l:List (List Int)):Prop :=
 ((((bu a s)∧(tw (a.length) l))∧True)∧(((cQ a s&&cJ (a.length) l s)=ig a c s)∧True))
theorem PR (s:Int) (a:List (List Int)) (c:List (List Int)) (l:List (List Int)):aC Tryz.prog (af Hz) ah am Tryz.f97 (aE Tryz.f97) [] [.c (.int .i64 (s)),.box [.rows .i64 (a),.rows .i64 (c)],.box [.rows .i64 (l)]] (sO s a c l)=zG s a c l:=by kernel_rfl
theorem PS (s:Int) (a:List (List Int)) (c:List (List Int)) (l:List (List Int)) (Yh:(sO s a c l).pre):zG s a c l:=by
 simp only [sO,zG,aG,u1,u2,u3,u4,u5,u6,u7,u8,u9,v1,v2,v3,v4,v5,v6,v7,v8,v9,w1,w2,w3,w4,aH,aa,ab,ae,ar] at Yh ⊢;obtain ⟨g,rfl,so⟩:=Yh;exact ⟨⟨so,lX g⟩,rfl⟩
theorem PT:Fits Tryz.prog 97 ⟨[],zF⟩:=by
 refine aJ (Γ:=af Hz) (aj H6 aF) Tryz.func97 fun ds p h hp=>?_
 unfold zF at h;split at h
 ·cases h
  exact ⟨ah,am,by rw [PR];exact PS _ _ _ _  hp⟩
 ·cases h
def sP (a:List (List Int)) (c:List (List Int)):Post:=⟨au a∧au c,.tup [.inl (.ints 2 .i64 (if aK a c=true then aL (ig a c) (2 ^ (a.length - 1)) else [])),.inl (.int .i64 (if aK a c=true then 0 else 1))],[]⟩
def zH:List AD→Option Post
 | [.agg [.rows .i64 (a),.rows .i64 (c)]]=>some (sP a c)
 | _=>none
def HA:List (Nat×Ctr):=[(44,⟨[],gT⟩),(86,⟨[],kT⟩),(96,⟨[],pC⟩),(97,⟨[],zF⟩)]
def zI (a:List (List Int)) (c:List (List Int)):Prop :=
 ((((au a)∧(au c))∧True)∧(ac (!aK a c) ((([]=if aK a c=true then aL (ig a c) ((2:Nat) ^ (a.length - (1:Nat))) else [])∧(((1:Int)=if aK a c=true then (0:Int) else (1:Int))∧True))∧True) (((bM a c)∧True)∧((((aW a=true)∧(∀(s:Int),bu a s→bM a c∧aO a c=aO a c∧bu a s))∧True)∧(((aL (fun (x:Int)=>ig a c x) ((2:Nat) ^ (a.length - (1:Nat)))=if aK a c=true then aL (ig a c) ((2:Nat) ^ (a.length - (1:Nat))) else [])∧(((0:Int)=if aK a c=true then (0:Int) else (1:Int))∧True))∧True)))))
theorem PU (a:List (List Int)) (c:List (List Int)):aC Tryz.prog (af HA) ah am Tryz.f38 (aE Tryz.f38) [] [.agg [.rows .i64 (a),.rows .i64 (c)]] (sP a c)=zI a c:=by kernel_rfl
theorem PV (a:List (List Int)) (c:List (List Int)) (Yh:(sP a c).pre):zI a c:=by
 simp only [sP,zI,aG,u1,u2,u3,u4,u5,u6,u7,u8,u9,v1,v2,v3,v4,v5,v6,v7,v8,v9,w1,w2,w3,w4,aH,aa,ab,ae,ar] at Yh ⊢;refine ⟨Yh,fun b=>by simp [b],fun b=>?_⟩
 have g:bM a c:=⟨(dq b).1,(dq b).2.1,(dq b).2.2.1⟩
 exact ⟨g,⟨dh g.1,fun s hs=>⟨g,hs⟩⟩,by rw [if_pos b],by rw [if_pos b]⟩
theorem PW:Fits Tryz.prog 38 ⟨[],zH⟩:=by
 refine aJ (Γ:=af HA) (aj iZ (aj nD (aj AQ (aj PT aF)))) Tryz.func38 fun ds p h hp=>?_
 unfold zH at h;split at h
 ·cases h
  exact ⟨ah,am,by rw [PU];exact PV _ _  hp⟩
 ·cases h
def sQ (s:Int) (a:List (List Int)) (c:List (List Int)):Post:=⟨bM a c∧bu a s,.c (.bool (gt a c s)),[]⟩
def zJ:List AD→Option Post
 | [.c (.int .i64 (s)),.box [.rows .i64 (a),.rows .i64 (c)]]=>some (sQ s a c)
 | _=>none
def HB:List (Nat×Ctr):=[(100,⟨[],tp⟩)]
def zK (s:Int) (a:List (List Int)) (c:List (List Int)):Prop :=
 (((bu a s)∧True)∧(ac (cQ a s) (((bu c s)∧True)∧((cQ c s=gt a c s)∧True)) ((false=gt a c s)∧True)))
theorem PX (s:Int) (a:List (List Int)) (c:List (List Int)):aC Tryz.prog (af HB) ah am Tryz.f99 (aE Tryz.f99) [] [.c (.int .i64 (s)),.box [.rows .i64 (a),.rows .i64 (c)]] (sQ s a c)=zK s a c:=by kernel_rfl
theorem PY (s:Int) (a:List (List Int)) (c:List (List Int)) (Yh:(sQ s a c).pre):zK s a c:=by
 simp only [sQ,zK,aG,u1,u2,u3,u4,u5,u6,u7,u8,u9,v1,v2,v3,v4,v5,v6,v7,v8,v9,w1,w2,w3,w4,aH,aa,ab,ae,ar] at Yh ⊢;obtain ⟨g,so⟩:=Yh;refine ⟨so,fun h=>⟨⟨dh g.2.1,so.2.1,by rw [←g.2.2];exact so.2.2⟩,by rw [gt,h,Bool.true_and]⟩,fun h=>by rw [gt,h,Bool.false_and]⟩
theorem PZ:Fits Tryz.prog 99 ⟨[],zJ⟩:=by
 refine aJ (Γ:=af HB) (aj H1 aF) Tryz.func99 fun ds p h hp=>?_
 unfold zJ at h;split at h
 ·cases h
  exact ⟨ah,am,by rw [PX];exact PY _ _ _  hp⟩
 ·cases h
def sR (a:List (List Int)) (c:List (List Int)):Post:=⟨au a∧au c,.tup [.inl (.ints 2 .i64 (if aK a c=true then aL (gt a c) (2 ^ (a.length - 1)) else [])),.inl (.int .i64 (if aK a c=true then 0 else 1))],[]⟩
def zL:List AD→Option Post
 | [.agg [.rows .i64 (a),.rows .i64 (c)]]=>some (sR a c)
 | _=>none
def HC:List (Nat×Ctr):=[(44,⟨[],gT⟩),(96,⟨[],pC⟩),(99,⟨[],zJ⟩)]
def zM (a:List (List Int)) (c:List (List Int)):Prop :=
 ((((au a)∧(au c))∧True)∧(ac (!aK a c) ((([]=if aK a c=true then aL (gt a c) ((2:Nat) ^ (a.length - (1:Nat))) else [])∧(((1:Int)=if aK a c=true then (0:Int) else (1:Int))∧True))∧True) ((((aW a=true)∧(∀(s:Int),bu a s→bM a c∧bu a s))∧True)∧(((aL (fun (x:Int)=>gt a c x) ((2:Nat) ^ (a.length - (1:Nat)))=if aK a c=true then aL (gt a c) ((2:Nat) ^ (a.length - (1:Nat))) else [])∧(((0:Int)=if aK a c=true then (0:Int) else (1:Int))∧True))∧True))))
theorem P0 (a:List (List Int)) (c:List (List Int)):aC Tryz.prog (af HC) ah am Tryz.f39 (aE Tryz.f39) [] [.agg [.rows .i64 (a),.rows .i64 (c)]] (sR a c)=zM a c:=by kernel_rfl
theorem P1 (a:List (List Int)) (c:List (List Int)) (Yh:(sR a c).pre):zM a c:=by
 simp only [sR,zM,aG,u1,u2,u3,u4,u5,u6,u7,u8,u9,v1,v2,v3,v4,v5,v6,v7,v8,v9,w1,w2,w3,w4,aH,aa,ab,ae,ar] at Yh ⊢;refine ⟨Yh,fun b=>by simp [b],fun b=>?_⟩
 have g:bM a c:=⟨(dq b).1,(dq b).2.1,(dq b).2.2.1⟩
 exact ⟨⟨dh g.1,fun s hs=>⟨g,hs⟩⟩,by rw [if_pos b],by rw [if_pos b]⟩
theorem P2:Fits Tryz.prog 39 ⟨[],zL⟩:=by
 refine aJ (Γ:=af HC) (aj iZ (aj AQ (aj PZ aF))) Tryz.func39 fun ds p h hp=>?_
 unfold zL at h;split at h
 ·cases h
  exact ⟨ah,am,by rw [P0];exact P1 _ _  hp⟩
 ·cases h
def sS (r:List Int) (x:Int):Post:=⟨0≤x∧x<(r.length:Int),.c (.bool (decide (r.getD x.toNat 0≠x))),[]⟩
def zN:List AD→Option Post
 | [.c (.ints .i64 (r)),.box [.int .i64 (x)]]=>some (sS r x)
 | _=>none
def HD:List (Nat×Ctr):=[]
def zO (r:List Int) (x:Int):Prop :=
 ((aa x (r.length))∧(((r.getD (x.toNat) (0:Int) != x)=decide (r.getD (x.toNat) (0:Int)≠x))∧True))
theorem P3 (r:List Int) (x:Int):aC Tryz.prog (af HD) ah am Tryz.f102 (aE Tryz.f102) [] [.c (.ints .i64 (r)),.box [.int .i64 (x)]] (sS r x)=zO r x:=by kernel_rfl
theorem P4 (r:List Int) (x:Int) (Yh:(sS r x).pre):zO r x:=by
 simp only [sS,zO,aG,u1,u2,u3,u4,u5,u6,u7,u8,u9,v1,v2,v3,v4,v5,v6,v7,v8,v9,w1,w2,w3,w4,aH,aa,ab,ae,ar] at Yh ⊢;refine ⟨Yh,?_⟩
 rw [Bool.eq_iff_iff,decide_eq_true_eq,bne_iff_ne]
theorem P5:Fits Tryz.prog 102 ⟨[],zN⟩:=by
 refine aJ (Γ:=af HD) aF Tryz.func102 fun ds p h hp=>?_
 unfold zN at h;split at h
 ·cases h
  exact ⟨ah,am,by rw [P3];exact P4 _ _  hp⟩
 ·cases h
def fA (a c:List (List Int)) (x:Nat):Bool:=!(aO a c).any fun r=>decide (r.getD x 0≠(x:Int))
def gS (a c:List (List Int)):Int:=((dW (fA a c) a.length:Nat):Int)
def sT (a:List (List Int)) (c:List (List Int)):Post:=⟨au a∧au c,.tup [.inl (.int .i64 (if aK a c=true then gS a c else 0)),.inl (.int .i64 (if aK a c=true then 0 else 1))],[]⟩
def zP:List AD→Option Post
 | [.agg [.rows .i64 (a),.rows .i64 (c)]]=>some (sT a c)
 | _=>none
def HE (a:List (List Int)) (c:List (List Int)):Nat→Option Ann
 | 0=>some (Ann.mk ((Nat)) (fun i=>⟨[(1,.c (.ptr 1 0)),(4,.c (.int .i64 (((dW (fA a c) i:Nat):Int)))),(11,.c (.int .i64 ((a.length:Int)))),(12,.c (.int .i64 ((i:Int))))],[(1,some (.box [.ro (.rows .i64 (a)),.ro (.rows .i64 (c))]))]⟩) (fun i=>i≤a.length∧aK a c=true) (fun i=>a.length - i) (fun _=>am))
 | _=>none
def HF:List (Nat×Ctr):=[(44,⟨[],gT⟩),(86,⟨[],kT⟩),(101,⟨[],qT⟩),(102,⟨[],zN⟩)]
def zQ (a:List (List Int)) (c:List (List Int)):Prop :=
 ((((au a)∧(au c))∧True)∧(ac (!aK a c) ((((0:Int)=if aK a c=true then gS a c else (0:Int))∧(((1:Int)=if aK a c=true then (0:Int) else (1:Int))∧True))∧True) ((∃x0:Nat,(((x0≤a.length)∧(aK a c=true))∧(((0:Int)=(↑(dW (fA a c) x0):Int))∧(((↑(a.length):Int)=(↑(a.length):Int))∧(((0:Int)=(↑x0:Int))∧((a=a)∧(c=c)))))))∧(∀x1:Nat,(((x1≤a.length)∧(aK a c=true))→(ac (decide ((↑x1:Int)<(↑(a.length):Int))) (((bM a c)∧True)∧(((((aO a c).length≤(1099511627776:Nat))∧(∀(x:List Int),x∈aO a c→(0:Int)≤(↑x1:Int)∧(↑x1:Int)<(↑(x.length):Int)))∧True)∧(ac (!List.any (aO a c) fun (x:List Int)=>decide (x.getD ((↑x1:Int).toNat) (0:Int)≠(↑x1:Int))) (((((0:Int)≤(↑x1:Int))∧((↑x1:Int)≤(62:Int)))∧(ab ((1:Int) * (2:Int) ^ (↑x1:Int).toNat)))∧(((IntKind.i64=IntKind.i64)∧((((0:Int)≤(↑(dW (fA a c) x1):Int))∧((↑(dW (fA a c) x1):Int)≤(9223372036854775807:Int)))∧(((0:Int)≤(1:Int) * (2:Int) ^ (↑x1:Int).toNat)∧((1:Int) * (2:Int) ^ (↑x1:Int).toNat≤(9223372036854775807:Int)))))∧((ab ((↑x1:Int)+(1:Int)))∧(∃x2:Nat,(((x2≤a.length)∧(aK a c=true))∧((a.length - x2<a.length - x1)∧(((↑((↑(dW (fA a c) x1):Int).toNat ||| ((1:Int) * (2:Int) ^ (↑x1:Int).toNat).toNat):Int)=(↑(dW (fA a c) x2):Int))∧(((↑(a.length):Int)=(↑(a.length):Int))∧(((↑x1:Int)+(1:Int)=(↑x2:Int))∧((a=a)∧(c=c))))))))))) ((ab ((↑x1:Int)+(1:Int)))∧(∃x3:Nat,(((x3≤a.length)∧(aK a c=true)) ∧
 ((a.length - x3<a.length - x1)∧(((↑(dW (fA a c) x1):Int)=(↑(dW (fA a c) x3):Int))∧(((↑(a.length):Int)=(↑(a.length):Int))∧(((↑x1:Int)+(1:Int)=(↑x3:Int))∧((a=a)∧(c=c)))))))))))) ((((↑(dW (fA a c) x1):Int)=if aK a c=true then gS a c else (0:Int))∧(((0:Int)=if aK a c=true then (0:Int) else (1:Int))∧True))∧True)))))))
theorem P6 (a:List (List Int)) (c:List (List Int)):aC Tryz.prog (af HF) ah (HE a c) Tryz.f40 (aE Tryz.f40) [] [.agg [.rows .i64 (a),.rows .i64 (c)]] (sT a c)=zQ a c:=by kernel_rfl
theorem P7 (a:List (List Int)) (c:List (List Int)) (Yh:(sT a c).pre):zQ a c:=by
 simp only [sT,zQ,aG,u1,u2,u3,u4,u5,u6,u7,u8,u9,v1,v2,v3,v4,v5,v6,v7,v8,v9,w1,w2,w3,w4,aH,aa,ab,ae,ar] at Yh ⊢;refine ⟨Yh,fun b=>by simp [b],fun b=>?_⟩
 have g:bM a c:=⟨(dq b).1,(dq b).2.1,(dq b).2.2.1⟩
 obtain ⟨n1,n2,ht⟩:=bA (dh g.1);have lk:=lX g
 have ll:(aO a c).length=a.length:=fK _ _
 refine ⟨⟨0,⟨by omega,b⟩,rfl,rfl⟩,fun i ⟨hi,_⟩=>⟨fun h=>⟨g,⟨by omega,fun r hr=>?_⟩,fun e=>?_,fun e=>?_⟩,fun h=>?_⟩⟩
 ·obtain ⟨j,hj,rfl⟩:=List.getElem_of_mem hr
  have r:=(lk.2 j (by omega)).1
  rw [ce _ [] j hj] at r;omega
 ·have ml:=oX (fA a c) i
  have p12:=lV (n:=i) (by omega)
  have pp:=Int.natCast_nonneg (2 ^ i)
  have pn:(1 * (2:Int) ^ i)=((2 ^ i:Nat):Int):=by rw [Int.one_mul,Int.natCast_pow];rfl
  rw [pn,Int.toNat_natCast];have q:fA a c i=true:=by unfold fA;rw [e];rfl
  refine ⟨by omega,by omega,by omega,i+1,⟨by omega,b⟩,by omega,?_,by omega⟩
  simp only [dW];rw [if_pos q]
 ·have q:¬ fA a c i=true:=by unfold fA;rw [e];decide
  refine ⟨by omega,i+1,⟨by omega,b⟩,by omega,?_,by omega⟩
  simp only [dW];rw [if_neg q]
 ·rw [if_pos b,if_pos b,gS,show i=a.length by omega];exact ⟨rfl,rfl⟩
theorem P8:Fits Tryz.prog 40 ⟨[],zP⟩:=by
 refine aJ (Γ:=af HF) (aj iZ (aj nD (aj FD (aj P5 aF)))) Tryz.func40 fun ds p h hp=>?_
 unfold zP at h;split at h
 ·cases h
  exact ⟨ah,HE _ _ ,by rw [P6];exact P7 _ _  hp⟩
 ·cases h
def sU (a:List (List Int)) (c:List (List Int)):Post:=⟨au a∧au c,.tup [.inl (.bool (if aK a c=true then decide (1<(a.length:Int))&&decide ((aL (aR a c) (2 ^ (a.length - 1))).length=2) else false)),.inl (.int .i64 (if aK a c=true then 0 else 1))],[]⟩
def zR:List AD→Option Post
 | [.agg [.rows .i64 (a),.rows .i64 (c)]]=>some (sU a c)
 | _=>none
def HG:List (Nat×Ctr):=[(44,⟨[],gT⟩),(95,⟨[],pD⟩)]
def zS (a:List (List Int)) (c:List (List Int)):Prop :=
 ((((au a)∧(au c))∧True)∧(ac (!aK a c) (((false=if aK a c=true then decide ((1:Int)<(↑(a.length):Int))&&decide ((aL (aR a c) ((2:Nat) ^ (a.length - (1:Nat)))).length=(2:Nat)) else false)∧(((1:Int)=if aK a c=true then (0:Int) else (1:Int))∧True))∧True) (ac (decide ((1:Int)<(↑(a.length):Int))) (((bM a c)∧True)∧(((((↑((aL (aR a c) ((2:Nat) ^ (a.length - (1:Nat)))).length):Int) == (2:Int))=if aK a c=true then decide ((1:Int)<(↑(a.length):Int))&&decide ((aL (aR a c) ((2:Nat) ^ (a.length - (1:Nat)))).length=(2:Nat)) else false)∧(((0:Int)=if aK a c=true then (0:Int) else (1:Int))∧True))∧True)) (((false=if aK a c=true then decide ((1:Int)<(↑(a.length):Int))&&decide ((aL (aR a c) ((2:Nat) ^ (a.length - (1:Nat)))).length=(2:Nat)) else false)∧(((0:Int)=if aK a c=true then (0:Int) else (1:Int))∧True))∧True))))
theorem P9 (a:List (List Int)) (c:List (List Int)):aC Tryz.prog (af HG) ah am Tryz.f41 (aE Tryz.f41) [] [.agg [.rows .i64 (a),.rows .i64 (c)]] (sU a c)=zS a c:=by kernel_rfl
theorem Qa (a:List (List Int)) (c:List (List Int)) (Yh:(sU a c).pre):zS a c:=by
 simp only [sU,zS,aG,u1,u2,u3,u4,u5,u6,u7,u8,u9,v1,v2,v3,v4,v5,v6,v7,v8,v9,w1,w2,w3,w4,aH,aa,ab,ae,ar] at Yh ⊢;refine ⟨Yh,fun b=>by simp [b],fun b=>?_⟩
 have g:bM a c:=⟨(dq b).1,(dq b).2.1,(dq b).2.2.1⟩
 refine ⟨fun h=>⟨g,?_,by rw [if_pos b]⟩,fun h=>?_⟩
 ·rw [if_pos b,decide_eq_true h,Bool.true_and,Bool.eq_iff_iff]
  simp only [beq_iff_eq,decide_eq_true_eq];omega
 ·rw [if_pos b,if_pos b,decide_eq_false h,Bool.false_and];exact ⟨rfl,rfl⟩
theorem Qb:Fits Tryz.prog 41 ⟨[],zR⟩:=by
 refine aJ (Γ:=af HG) (aj iZ (aj AV aF)) Tryz.func41 fun ds p h hp=>?_
 unfold zR at h;split at h
 ·cases h
  exact ⟨ah,am,by rw [P9];exact Qa _ _  hp⟩
 ·cases h
def sV (l:List Int) (x:Int):Post:=⟨l.length≤1099511627776,.c (.bool (l.any fun y=>decide (y=x))),[]⟩
def zT:List AD→Option Post
 | [.c (.ints .i64 (l)),.c (.int .i64 (x))]=>some (sV l x)
 | _=>none
def HH (l:List Int) (x:Int):Nat→Option Ann
 | 0=>some (Ann.mk ((Nat)) (fun i=>⟨[(0,.c (.ro (.ints .i64 (l)))),(1,.c (.int .i64 (x))),(5,.c (.int .i64 ((i:Int))))],[]⟩) (fun i=>i≤l.length∧(l.any fun y=>decide (y=x))=((l.drop i).any fun y=>decide (y=x))) (fun i=>l.length - i) (fun _=>am))
 | _=>none
def HI:List (Nat×Ctr):=[]
def zU (l:List Int) (x:Int):Prop :=
 ((∃x0:Nat,(((x0≤l.length)∧((List.any l fun (y:Int)=>decide (y=x))=List.any (List.drop x0 l) fun (y:Int)=>decide (y=x)))∧((l=l)∧((x=x)∧((0:Int)=(↑x0:Int))))))∧(∀x1:Nat,(((x1≤l.length)∧((List.any l fun (y:Int)=>decide (y=x))=List.any (List.drop x1 l) fun (y:Int)=>decide (y=x)))→(ac (decide ((↑x1:Int)<(↑(l.length):Int))) ((aa (↑x1:Int) (l.length))∧(ac (l.getD ((↑x1:Int).toNat) (0:Int) == x) ((true=List.any l fun (y:Int)=>decide (y=x))∧True) ((ab ((↑x1:Int)+(1:Int)))∧(∃x2:Nat,(((x2≤l.length)∧((List.any l fun (y:Int)=>decide (y=x))=List.any (List.drop x2 l) fun (y:Int)=>decide (y=x)))∧((l.length - x2<l.length - x1)∧((l=l)∧((x=x)∧((↑x1:Int)+(1:Int)=(↑x2:Int)))))))))) ((false=List.any l fun (y:Int)=>decide (y=x))∧True)))))
theorem Qc (l:List Int) (x:Int):aC Tryz.prog (af HI) ah (HH l x) Tryz.f42 (aE Tryz.f42) [] [.c (.ints .i64 (l)),.c (.int .i64 (x))] (sV l x)=zU l x:=by kernel_rfl
theorem Qd (l:List Int) (x:Int) (Yh:(sV l x).pre):zU l x:=by
 simp only [sV,zU,aG,u1,u2,u3,u4,u5,u6,u7,u8,u9,v1,v2,v3,v4,v5,v6,v7,v8,v9,w1,w2,w3,w4,aH,aa,ab,ae,ar] at Yh ⊢;refine ⟨⟨0,⟨by omega,rfl⟩,rfl⟩,fun i ⟨hi,he⟩=>⟨fun h=>?_,fun h=>?_⟩⟩
 ·rw [drop_cons' l 0 i (by omega),List.any_cons] at he
  refine ⟨by omega,fun e=>by rw [he,decide_eq_true e];rfl,fun e=>⟨by omega,i+1,⟨by omega,?_⟩,by omega,by omega⟩⟩
  rw [he,decide_eq_false e,Bool.false_or]
 ·rw [he,List.drop_of_length_le (by omega)];rfl
theorem Qe:Fits Tryz.prog 42 ⟨[],zT⟩:=by
 refine aJ (Γ:=af HI) aF Tryz.func42 fun ds p h hp=>?_
 unfold zT at h;split at h
 ·cases h
  exact ⟨ah,HH _ _ ,by rw [Qc];exact Qd _ _  hp⟩
 ·cases h
end Go.Sx
