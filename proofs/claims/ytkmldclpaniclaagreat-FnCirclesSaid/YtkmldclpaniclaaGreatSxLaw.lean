/- SxLaw -/
import Derived.Test.YtkmldclpaniclaaGreatCcsP
import Derived.Test.YtkmldclpaniclaaGreatRows
import Derived.JoinedOf
import Derived.KernelRfl
import Derived.Test.YtkmldclpaniclaaGreatSxZ
import Derived.ProofKit
import Derived.OpenShut
import Derived.Lib.SmallJoins
import Derived.Deep.Matrix
set_option linter.unusedSimpArgs false
set_option linter.unusedVariables false
set_option linter.defProp false
section
open Go Go.Proofs
namespace Go.Sx
def bA(η:D1):D3:=bw (ak η) (aa (ak η))
def c9(η:D1):D2:=aa (ak η)
def bY(η:D1):D2:=fN (bE (ak η) (aa (ak η)) (ak η).length 0)
def bt(η:D1):D3:=oA (ak η) (aa (ak η))
def gp(η:D1)(i:Nat):Nat:=(((bt η).take i).map fun c=>(c9 η).length / (bF [ak η,c] [ak η,c]).length).sum
def jL(η:D1):Prop:=aC (ak η)=true/\(ak η).length<=7
theorem YE{t:D2}{cs:D3}{i:Nat}(h:i<cs.length):(bB t cs).getD i ([],[])=(t,cs.getD i []):=by
 rw[bB,jT _ _ [] _ _ h]
theorem Pp(t:D2)(cs:D3):(bB t cs).length=cs.length:=by simp[bB]
theorem Pq{η:D1}{j:Nat}(h:j<(bt η).length):gp η (j+1)=gp η j+(c9 η).length / (bF [ak η,(bt η).getD j []] [ak η,(bt η).getD j []]).length:=by
 rw[gp,<-dZ _ [] j h,Bf,List.sum_append];simp[gp]
structure CgOk (η:D1):Prop where
 G:GrpT (ak η).length (ak η)
 la:(c9 η).length<=49
 lc:(bA η).length<=2401
 lf:(bt η).length<=2401
 lh:(bY η).length=(ak η).length*(aa (ak η)).length
 hm:∀r,r∈bY η↔r∈bE (ak η) (aa (ak η)) (ak η).length 0
 hr:∀r∈bY η,r.length=(ak η).length
 ct:∀c∈bA η,aA (ak η).length c
 cb:∀c∈bA η,gx (ak η) c=true
 fc:∀c∈bt η,c∈bA η
 st:∀c∈bt η,1<=(bF [ak η,c] [ak η,c]).length/\(bF [ak η,c] [ak η,c]).length<=49
 sm:gp η (bt η).length=(bA η).length
theorem YF{η:D1}(h:jL η):CgOk η:=by
 obtain⟨hg,hn⟩:=h;have G:=gN hg
 have hN:=LX G hn (a:=(ak η).length) (i:=0) (.inr ⟨by omega,rfl⟩)
 obtain⟨s1,s2,s3⟩:=Ec _ _ rfl hN;have la:=iq G hn
 have lc:=xf G hn
 have fc:∀c∈bt η,c∈bA η:=fun c hc=>(An.1 hc).1
 have st:∀c∈bt η,(bF [ak η,c] [ak η,c]).length=ju (ak η).length (ak η) c:=fun c hc=>SX G hn (kj G hn (fc c hc))
 refine⟨G,la,lc,Ar (List.length_filter_le _ _) lc,s3.trans (JJ _ _ _),s2,fun r hr=>?_,fun c hc=>kj G hn hc,fun c hc=>SP hg hn hc,fc,fun c hc=>?_,?_⟩
 ·obtain⟨x,f,_,hf,rfl⟩:=LW ((s2 r).1 hr)
  rw[fL,(gS G hn hf).len]
 ·rw[st c hc]
  exact⟨JP G hn (kj G hn (fc c hc)),Ar List.countP_le_length la⟩
 ·rw[gp,Bh]
  have e:(bt η).map (fun c=>(c9 η).length / (bF [ak η,c] [ak η,c]).length)=(bt η).map fun c=>(aa (ak η)).length / ju (ak η).length (ak η) c:=Bk fun c hc=>by rw[st c hc];rfl
  rw[e];exact SW G hn
theorem Pr{η:D1}(K:CgOk η):∀j,j<=(bt η).length->gp η j<=j*49
 |0,_=>by simp[gp]
 |j+1,h=>by
  have ih:=Pr K j (by omega)
  have la:=K.la
  have:=Nat.div_le_self (c9 η).length (bF [ak η,(bt η).getD j []] [ak η,(bt η).getD j []]).length
  rw[Pq (by omega),BW];omega
theorem YG{t:D2}(h:(cf t).2=0):aC t=true/\t.length<=7:=by
 cases hg:aC t with
 |false=>rw[oy hg]at h;exact absurd h (by decide)
 |true =>
  by_cases h7:t.length<=7
  ·exact⟨rfl,h7⟩
  ·rw[oz hg (by omega)]at h;exact absurd h (by decide)
theorem YH{t:D2}(h:(cf t).2≠0):(eN t).1=[]:=by
 cases hg:aC t with
 |false=>rw[N9 hg]
 |true =>
  by_cases h7:t.length<=7
  ·rw[mG hg h7]at h;exact absurd rfl h
  ·rw[Oa hg (by omega)]
def Hx:List AD->Option Post
 | [.c (.ints .u8 η)]=>some ⟨cO η,.c (.bool true),[]⟩
 |_=>none
def Ps(η:D1):Nat->Option Ann
 |0=>T' (fun i=>⟨⟨[(3,M' 500),(4,I' (bA η)),(8,.c (.ro (.p3 .i64 (bB (ak η) (bt η))))),(10,G' (bY η)),(12,G' (c9 η)),(14,A' i)],[(500,P' [.ro (.rows .i64 (ak η))])]⟩,jL η/\i<=(bA η).length,(bA η).length-i⟩) (fun i b_=>match b_ with|2=>T' (fun y=>⟨⟨[(3,M' 500),(4,I' (bA η)),(8,.c (.ro (.p3 .i64 (bB (ak η) (bt η))))),(10,G' (bY η)),(12,G' (c9 η)),(14,A' i),(15,A' y)],[(500,P' [.ro (.rows .i64 (ak η))])]⟩,i<(bA η).length/\y<=(ak η).length,(ak η).length-y⟩) (fun y b_=>match b_ with|4=>Q' fun k=>⟨⟨[(3,M' 500),(4,I' (bA η)),(8,.c (.ro (.p3 .i64 (bB (ak η) (bt η))))),(10,G' (bY η)),(12,G' (c9 η)),(14,A' i),(15,A' y),(16,.c (.bool (((bY η).take k).any fun r=>decide (r=((bA η).getD i []).getD y [])))),(17,A' k)],[(500,P' [.ro (.rows .i64 (ak η))])]⟩,y<(ak η).length/\k<=(bY η).length,(bY η).length-k⟩|_=>none)|_=>none)
 |6=>Q' fun j=>⟨⟨[(3,M' 500),(4,I' (bA η)),(8,.c (.ro (.p3 .i64 (bB (ak η) (bt η))))),(12,G' (c9 η)),(18,A' (gp η j:Int)),(19,A' j)],[(500,P' [.ro (.rows .i64 (ak η))])]⟩,jL η/\j<=(bt η).length,(bt η).length-j⟩
 |_=>none
def ji(η:D1)(x0:Nat):=(((bB (ak η) (bt η)).getD (↑x0:Int).toNat (([]:D2),([]:D2))).1::((bB (ak η) (bt η)).getD (↑x0:Int).toNat (([]:D2),([]:D2))).2::([]:D3))
def o5(η:D1)(x0:Nat):=((bB (ak η) (bt η)).getD (↑x0:Int).toNat (([]:D2),([]:D2)))
theorem YL:Fits Tryz.prog 8 ⟨[],Hx⟩:=by
 refine ffv (Γ:=ah [(18,⟨[],FG⟩),(41,⟨[],yl⟩),(42,⟨[],Fw⟩),(43,⟨[],FA⟩),(44,⟨[],yx⟩),(12,⟨[],FE⟩),(45,⟨[],Ft⟩),(46,⟨[],yn⟩),(36,⟨[],se⟩),(47,⟨[],uH⟩),(48,⟨[],yt⟩),(39,⟨[],rV⟩)]) (aw W9 (aw Su (aw WR (aw WX (aw SK (aw W6 (aw WO (aw Sy (aw JV (aw Oi (aw SF (aw JF aI)))))))))))) Tryz.func8 fun ds p h ξ=>?_
 unfold Hx at h;split at h<;>cases h
 rename_i η
 refine⟨aj,Ps η,(True/\True)/\ab (decide ((4096:Int)<(η.length:Int))) (true=true/\True) (((cO η/\η.length<=(4096:Nat))/\True)/\(aS (ak η)/\True)/\(aS (ak η)/\True)/\ab ((cf (ak η)).2 != (cf (ak η)).2) (false=true/\True) ((uA ((cf (ak η)).1)/\True)/\ab (!decide ((cf (ak η)).1=(cf (ak η)).1)) (false=true/\True) ((aS (ak η)/\True)/\(aS (ak η)/\True)/\ab ((cf (ak η)).2 != (0:Int)) (ab ((eN (ak η)).2 == (cf (ak η)).2) (ab ((if aC (ak η)=true then if(ak η).length<=(7:Nat)then(0:Int)else(3:Int)else(1:Int)) == (cf (ak η)).2) (((↑(FC.len (FC.p3 IntKind.i64 ((eN (ak η)).1))):Int) == (0:Int))=true/\True) (false=true/\True)) (false=true/\True)) (((aS (ak η)/\aC (ak η)=true/\(ak η).length<=(7:Nat))/\True)/\ab ((eN (ak η)).2 != (0:Int)) (false=true/\True) (ab ((if aC (ak η)=true then if(ak η).length<=(7:Nat)then(0:Int)else(3:Int)else(1:Int)) != (0:Int)) (false=true/\True) (af ((↑((ak η).length):Int)*(↑((aa (ak η)).length):Int))/\ab ((↑((if aC (ak η)=true then if(ak η).length<=(7:Nat)then fN (bE (ak η) (aa (ak η)) (ak η).length (0:Nat))else([]:D2)else([]:D2)).length):Int) != (↑((ak η).length):Int)*(↑((aa (ak η)).length):Int)) (false=true/\True) ((∃x0:Nat,(jL η/\x0<=(bA η).length)/\(cf (ak η)).1=bA η/\(eN (ak η)).1=bB (ak η) (bt η)/\(if aC (ak η)=true then if(ak η).length<=(7:Nat)then fN (bE (ak η) (aa (ak η)) (ak η).length (0:Nat))else([]:D2)else([]:D2))=bY η/\aa (ak η)=c9 η/\(0:Int)=(x0:Int)/\ak η=ak η)/\∀x1:Nat,jL η/\x1<=(bA η).length->ab (decide ((x1:Int)<(↑((bA η).length):Int))) (ac (x1:Int) (bA η).length/\((aS (ak η)/\aS ((bA η).getD (x1:Int).toNat ([]:D2)))/\True)/\ab (!gx (ak η) ((bA η).getD (x1:Int).toNat ([]:D2))) (false=true/\True) ((∃x2:Nat,(x1<(bA η).length/\x2<=(ak η).length)/\bA η=bA η/\bB (ak η) (bt η)=bB (ak η) (bt η)/\bY η=bY η/\c9 η=c9 η/\(x1:Int)=(x1:Int)/\(0:Int)=(x2:Int)/\ak η=ak η)/\∀x3:Nat,x1<(bA η).length/\x3<=(ak η).length->ac (x1:Int) (bA η).length/\ab (decide ((x3:Int)<(↑(((bA η).getD (x1:Int).toNat ([]:D2)).length):Int))) ((∃x4:Nat,(x3<(ak η).length/\x4<=(bY η).length)/\bA η=bA η/\bB (ak η) (bt η)=bB (ak η) (bt η)/\bY η=bY η/\c9 η=c9 η/\(x1:Int)=(x1:Int)/\(x3:Int)=(x3:Int)/\(false=List.any (List.take x4 (bY η)) fun(r:D1)=>decide (r=(List.getD (bA η) x1 ([]:D2)).getD x3 []))/\(0:Int)=(x4:Int)/\ak η=ak η)/\∀x5:Nat,x3<(ak η).length/\x5<=(bY η).length->ab (decide ((x5:Int)<(↑((bY η).length):Int))) (ab (List.any (List.take x5 (bY η)) fun(r:D1)=>decide (r=(List.getD (bA η) x1 ([]:D2)).getD x3 [])) (af ((x5:Int)+(1:Int))/\∃x6:Nat,(x3<(ak η).length/\x6<=(bY η).length)/\(bY η).length-x6<(bY η).length-x5/\bA η=bA η/\bB (ak η) (bt η)=bB (ak η) (bt η)/\bY η=bY η/\c9 η=c9 η/\(x1:Int)=(x1:Int)/\(x3:Int)=(x3:Int)/\(true=List.any (List.take x6 (bY η)) fun(r:D1)=>decide (r=(List.getD (bA η) x1 ([]:D2)).getD x3 []))/\(x5:Int)+(1:Int)=(x6:Int)/\ak η=ak η) (ac (x5:Int) (bY η).length/\ac (x1:Int) (bA η).length/\ac (x3:Int) (((bA η).getD (x1:Int).toNat ([]:D2)).length)/\(am (((bY η).getD (x5:Int).toNat []).length)/\True)/\af ((x5:Int)+(1:Int))/\∃x7:Nat,(x3<(ak η).length/\x7<=(bY η).length)/\(bY η).length-x7<(bY η).length-x5/\bA η=bA η/\bB (ak η) (bt η)=bB (ak η) (bt η)/\bY η=bY η/\c9 η=c9 η/\(x1:Int)=(x1:Int)/\(x3:Int)=(x3:Int)/\(decide ((bY η).getD (x5:Int).toNat []=(List.getD (bA η) (x1:Int).toNat ([]:D2)).getD (x3:Int).toNat [])=List.any (List.take x7 (bY η)) fun(r:D1)=>decide (r=(List.getD (bA η) x1 ([]:D2)).getD x3 []))/\(x5:Int)+(1:Int)=(x7:Int)/\ak η=ak η)) (ab (!List.any (List.take x5 (bY η)) fun(r:D1)=>decide (r=(List.getD (bA η) x1 ([]:D2)).getD x3 [])) (false=true/\True) (af ((x3:Int)+(1:Int))/\∃x8:Nat,(x1<(bA η).length/\x8<=(ak η).length)/\(ak η).length-x8<(ak η).length-x3/\bA η=bA η/\bB (ak η) (bt η)=bB (ak η) (bt η)/\bY η=bY η/\c9 η=c9 η/\(x1:Int)=(x1:Int)/\(x3:Int)+(1:Int)=(x8:Int)/\ak η=ak η))) (af ((x1:Int)+(1:Int))/\∃x9:Nat,(jL η/\x9<=(bA η).length)/\(bA η).length-x9<(bA η).length-x1/\bA η=bA η/\bB (ak η) (bt η)=bB (ak η) (bt η)/\bY η=bY η/\c9 η=c9 η/\(x1:Int)+(1:Int)=(x9:Int)/\ak η=ak η))) ((∃x10:Nat,(jL η/\x10<=(bt η).length)/\bA η=bA η/\bB (ak η) (bt η)=bB (ak η) (bt η)/\c9 η=c9 η/\(0:Int)=(gp η x10:Int)/\(0:Int)=(x10:Int)/\ak η=ak η)/\∀x11:Nat,jL η/\x11<=(bt η).length->ab (decide ((x11:Int)<(↑((bB (ak η) (bt η)).length):Int))) (ac (x11:Int) ((bB (ak η) (bt η)).length)/\((aS (o5 η x11).1/\aS (o5 η x11).2/\gx (o5 η x11).1 (o5 η x11).2=true/\(bF (ji η x11) (ji η x11)).length<=(1000000000:Nat))/\True)/\ab (decide ((↑((bF (((bB (ak η) (bt η)).getD (x11:Int).toNat (([]:D2),([]:D2))).1::((bB (ak η) (bt η)).getD (x11:Int).toNat (([]:D2),([]:D2))).2::([]:D3)) (((bB (ak η) (bt η)).getD (x11:Int).toNat (([]:D2),([]:D2))).1::((bB (ak η) (bt η)).getD (x11:Int).toNat (([]:D2),([]:D2))).2::([]:D3))).length):Int)<(1:Int))) (false=true/\True) (ac (x11:Int) ((bB (ak η) (bt η)).length)/\(aS (o5 η x11).1/\True)/\ab (!decide (((bB (ak η) (bt η)).getD (x11:Int).toNat (([]:D2),([]:D2))).1=ak η)) (false=true/\True) (((↑((bF (ji η x11) (ji η x11)).length):Int)≠(0:Int)/\af (Int.tdiv (↑((c9 η).length):Int) (↑((bF (ji η x11) (ji η x11)).length):Int)))/\af ((gp η x11:Int)+Int.tdiv (↑((c9 η).length):Int) (↑((bF (ji η x11) (ji η x11)).length):Int))/\af ((x11:Int)+(1:Int))/\∃x12:Nat,(jL η/\x12<=(bt η).length)/\(bt η).length-x12<(bt η).length-x11/\bA η=bA η/\bB (ak η) (bt η)=bB (ak η) (bt η)/\c9 η=c9 η/\(gp η x11:Int)+Int.tdiv (↑((c9 η).length):Int) (↑((bF (ji η x11) (ji η x11)).length):Int)=(gp η x12:Int)/\(x11:Int)+(1:Int)=(x12:Int)/\ak η=ak η))) (((gp η x11:Int) == (↑((bA η).length):Int))=true/\True))))))))),by kernel_rfl,?_⟩
 simp only[ji,o5,aJ]at ξ⊢;have R:=Sn ξ
 refine⟨fun _=>trivial,fun hlen=>⟨⟨ξ,by omega⟩,R,R,fun h=>absurd rfl h,fun _=>⟨(W0 _).1,fun h=>absurd trivial h,fun _=>⟨R,R,fun hc=>⟨fun _=>⟨fun _=>(by rw[YH hc];rfl),fun h=>absurd rfl h⟩,fun h=>absurd (Od _) h⟩,fun hc=>?_⟩⟩⟩⟩
 have hO:jL η:=YG hc
 obtain⟨hg,h7⟩:=hO;have K:=YF ⟨hg,h7⟩
 have la:=K.la
 have lc:=K.lc
 have lf:=K.lf
 have lh:=K.lh
 have hn:1<=(ak η).length:=K.G.pos
 have hm:(ak η).length*(aa (ak η)).length<=7*49:=Be h7 la
 have hmI:((ak η).length:Int)*((aa (ak η)).length:Int)=(((ak η).length*(aa (ak η)).length:Nat):Int):=by simp
 rw[AA hg,AA h7,AA hg,AA h7,hmI,show fN (bE (ak η) (aa (ak η)) (ak η).length 0)=bY η from rfl]
 refine⟨⟨R,hg,h7⟩,fun h=>absurd ((Od _).trans hc) h,fun _=>⟨fun h=>absurd rfl h,fun _=>⟨by omega,fun h=>absurd (by rw[lh]) h,fun _=>⟨⟨0,⟨⟨hg,h7⟩,by omega⟩,by rw[mG hg h7];rfl,by rw[Oc hg h7];rfl,rfl,rfl,rfl⟩,fun i ⟨_,hi⟩=>⟨fun ψ=>?_,fun hge=>⟨⟨0,⟨⟨hg,h7⟩,by omega⟩,by simp[gp],rfl⟩,fun j ⟨_,hj⟩=>⟨fun hjl=>?_,fun hjl=>?_⟩⟩⟩⟩⟩⟩⟩
 ·have hi1:i<(bA η).length:=by omega
  have hc:=bI (bA η) [] i hi1
  have tc:=K.ct _ hc
  have row:∀y,y<(ak η).length->((bA η).getD i []).getD y []∈bY η:=fun y hy=>(K.hm _).2 (SQ K.G h7 hc hy)
  have bc:=K.cb _ hc
  have lcc:=tc.1
  have rmc:=FD tc (by omega)
  refine⟨by omega,⟨R,rmc⟩,fun h=>(by rw[bc]at h;cases h),fun _=>⟨⟨0,⟨hi1,by omega⟩,rfl⟩,fun y ⟨_,hy⟩=>⟨by omega,fun hyl=>⟨⟨0,⟨by omega,by omega⟩,by simp,rfl⟩,fun k ⟨hyn,hk⟩=>⟨fun hkl=>?_,fun hkl=>?_⟩⟩,fun hyl=>⟨by omega,i+1,⟨⟨hg,h7⟩,by omega⟩,by omega,by omega⟩⟩⟩⟩
  ·have hk1:k<(bY η).length:=by omega
   have S:=dZ (bY η) [] k hk1
   have rl:=K.hr _ (bI (bY η) [] k hk1)
   refine⟨fun ht=>⟨by omega,k+1,⟨hyn,by omega⟩,by omega,?_,by omega⟩,fun hf=>⟨by omega,by omega,by omega,by omega,by omega,k+1,⟨hyn,by omega⟩,by omega,?_,by omega⟩⟩
   ·rw[<-S,List.any_append,ht];rfl
   ·rw[<-S,List.any_append,hf];simp
  ·refine⟨fun hf=>?_,fun _=>⟨by omega,y+1,⟨hi1,by omega⟩,by omega,by omega⟩⟩
   rw[AU (by omega),List.any_eq_false]at hf
   exact absurd (Aa rfl) (hf _ (row y hyn))
 ·have lp:=Pp (ak η) (bt η)
  have hj1:j<(bt η).length:=by omega
  have hc:=bI (bt η) [] j hj1
  have S:=Pq hj1
  have B:=Pr K j (by omega)
  have D:=Nat.div_le_self (c9 η).length (bF [ak η,(bt η).getD j []] [ak η,(bt η).getD j []]).length
  obtain⟨s1,s2⟩:=K.st _ hc;have bc:=K.cb _ (K.fc _ hc)
  have rmc:=FD (K.ct _ (K.fc _ hc)) (by omega)
  rw[YE hj1];generalize (bt η).getD j []=c at *
  simp only;generalize (bF [ak η,c] [ak η,c]).length=m at *
  have e:((c9 η).length:Int).tdiv (m:Int)=(((c9 η).length / m:Nat):Int):=by
   rw[Dv (by omega)];rfl
  rw[e];have Q:=Br 49 (show j<=2401 by omega)
  exact⟨by omega,⟨R,rmc,bc,by omega⟩,fun h=>(by omega),fun _=>⟨by omega,R,fun h=>absurd trivial h,fun _=>⟨⟨by omega,by omega⟩,by omega,by omega,j+1,⟨⟨hg,h7⟩,by omega⟩,by omega,by omega,by omega⟩⟩⟩
 ·have lp:=Pp (ak η) (bt η)
  have e:j=(bt η).length:=by omega
  have:=K.sm
  rw[e];omega
end Go.Sx
end
section
namespace Go.Proofs.YtkmldclpaniclaaGreat
theorem m8{x y:Bool}(h:x=true)(k:y=true):(x&&y)=true:=by rw[h,k];rfl
set_option maxRecDepth 10000000 in
def vQ:{ l:List Char // Tryz.prog.initOrder=String.ofList l }:=⟨_,rfl⟩
theorem YM:Tryz.prog.initOrder.toList=vQ.1:=(congrArg String.toList vQ.2).trans String.toList_ofList
theorem vR:∃rest,behindMainWord (wordsSigns Tryz.prog.initOrder.toList)=['c','u','t']::rest:=by
 rw[YM];have h:(behindMainWord (wordsSigns vQ.1)).head?=some ['c','u','t']:=by kernel_rfl
 cases hb:behindMainWord (wordsSigns vQ.1)with
 |nil=>rw[hb]at h;cases h
 |cons x y=>rw[hb]at h;cases h;exact⟨y,rfl⟩
theorem Pu(rest:List (List Char)):stripLifts liftWords (['c','u','t']::rest)=([],['c','u','t']::rest):=by rfl
theorem YN:Tryz.prog.headLifts=[]:=by
 obtain⟨rest,h⟩:=vR;unfold Program.headLifts;rw[h,Pu];rfl
theorem YO:Tryz.prog.laysLater=false:=by kernel_rfl
theorem YP:Tryz.prog.bearsReflect=false:=by kernel_rfl
theorem YQ:Tryz.prog.doorRows=[]:=by kernel_rfl
theorem YR:Tryz.prog.doorFits []=true:=by
 unfold Program.doorFits;rw[YQ];rfl
theorem YS(P:Program)(rest:List (List Char))(h:behindMainWord (wordsSigns P.initOrder.toList)=['c','u','t']::rest)(h1:P.laysLater=false)(h2:P.bearsReflect=false)(h3:P.doorFits []=true):P.mayEnter=true:=by
 unfold Program.mayEnter;rw[h];simp only[Pu,h1,h2,h3];simp
theorem YT(P:Program)(rest:List (List Char))(h:behindMainWord (wordsSigns P.initOrder.toList)=['c','u','t']::rest)(h1:P.headLifts=[]):(false == P.liftsFinal)=true:=by
 unfold Program.liftsFinal;rw[h,h1];rfl
theorem YU(P:Program)(rest:List (List Char))(h:behindMainWord (wordsSigns P.initOrder.toList)=['c','u','t']::rest):(P.make == some Make.cut)=true:=by
 have e1:(['c','u','t'] == "gc".toList)=false:=rfl
 have e2:(['c','u','t'] == "spec".toList)=false:=rfl
 have e3:(['c','u','t'] == "cut".toList)=true:=rfl
 unfold Program.make;rw[h];simp only[e1,e2,e3,Bool.or_false,Bool.true_or,Bool.false_eq_true,if_true,if_false];rfl
theorem YV:Tryz.prog.mayEnter=true:=by
 obtain⟨rest,h⟩:=vR;exact YS _ rest h YO YP YR
theorem YW:(false == Tryz.prog.liftsFinal)=true:=by
 obtain⟨rest,h⟩:=vR;exact YT _ rest h YN
theorem YX:(Tryz.prog.make == some Make.cut)=true:=by
 obtain⟨rest,h⟩:=vR;exact YU _ rest h
end Go.Proofs.YtkmldclpaniclaaGreat
end
section
namespace Go.Sx
open Go.ChangeShapes Go.WideShapes Go.ChangeAt Go.RowKit Go.ChangeMaps Go.Deep
section
variable {H:Type} {enc:TypeId×Value->H} {P:Program} {W:World}
def Pv(P:Program)(W:World)(t:TypeId)(v:Value)(d:FC):Prop:=v.oneCell'=true/\bj W v d
theorem wf_u8'{n:Int}(h:(Lit.int .u8 n).wf=true):0<=n/\n<=255:=by
 simp only[Lit.wf,AL,Ab]at h;exact h
theorem YY{t e:TypeId}{fuel:Nat}{v:Value}{x:DataW H×List MemPlace}(ht:P.underlying t=some (.slice e))(he:P.underlying e=some (.int .u8))(hc:P.cellsOf e=1)
  (h:DataW.trod enc P W 0 (fun _=>true) true fuel t [v]=some x):∃l:D1,l.length<=maxLen/\(∀n∈l,0<=n/\n<=255)/\Pv P W t v (.ints .u8 l):=by
 rcases open_ints ht he hc h with⟨h1,_⟩|⟨a,len,cap,zs,h1,_,hl,hm,hz,_,hcell,hw⟩
 ·simp only[CY,Bi]at h1
  subst h1;exact⟨[],AQ _,by simp,rfl,none,0,rfl,AE _,fun h=>by simp at h⟩
 ·simp only[CY,Bi]at h1
  subst h1;simp only[AV]at hz;have hlen:(zs.take len).length=len:=by simp;omega
  refine⟨zs.take len,by rw[hlen];omega,fun n hn=>wf_u8' (hw n (Bv hn)),rfl,some a,cap,by rw[hlen],by rw[hlen];exact hl,fun hpos=>?_⟩
  rw[hlen]at hpos;obtain⟨b,off,spot⟩:=a;have hs:spot=none:=by simpa[Addr.add]using World.cell?_spot (hcell 0 (by omega))
  subst hs;refine⟨b,off,rfl,fun i hi=>?_⟩
  rw[hlen]at hi;refine⟨_,by rw[<-add_plain];exact hcell i (by omega),?_⟩
  simp[AP,Az,hi]
theorem YZ{t:TypeId}{v:Value}{d:FC}(h:Pv P W t v d)(i:Nat):dm P W [] [] [] i (.c d) v:=⟨h.1,h.2⟩
theorem Y3{t:TypeId}{v:Value}{d:DataW H}{p:List MemPlace}(h1:v.cells.toList=[v])(h:DataW.Trod enc P W 0 (fun _=>true) true t v d p):∃n,DataW.trod enc P W 0 (fun _=>true) true n t [v]=some (d,p):=by
 obtain⟨n,hn⟩:=h;exact⟨n,by rw[<-h1];exact hn⟩
theorem Pw(hl:laidOutB P=true){W':World}(hb:Below W.heap.size W W'):∀{ts:List TypeId} {vs:List Value} {ds:List (DataW H)} {p:List MemPlace},(∀t∈ts,P.readableRec t=true/\t<P.types.size) ->
  DataW.TrodAll enc P W 0 (fun _=>true) true ts vs ds p->(∀x∈p,x.block<W.heap.size)->DataW.TrodAll enc P W' 0 (fun b=>decide (b<W.heap.size)) true ts vs ds p
 | [],[],[],p,_,h,_=>h
 |t::ts,v::vs,d::ds,p,ht,h,ψ=>by
  obtain⟨p1,p2,h1,h2,rfl⟩:=h;exact⟨p1,p2,Below.trod hl (ht t (by simp)).1 (ht t (by simp)).2 h1 hb (fun x hx=>ψ x (by simp[hx])),Pw hl hb (fun t' h'=>ht t' (by simp[h'])) h2 (fun x hx=>ψ x (by simp[hx])),rfl⟩
 | [],[],_::_,_,_,h,_=>h.elim
 | [],_::_,[],_,_,h,_=>h.elim
 | [],_::_,_::_,_,_,h,_=>h.elim
 |_::_,[],[],_,_,h,_=>h.elim
 |_::_,[],_::_,_,_,h,_=>h.elim
 |_::_,_::_,[],_,_,h,_=>h.elim
theorem Px{W:World}{base:Nat}{sp:Nat->Bool}{hd:Bool}:∀{ts:List TypeId} {vs:List Value} {ds:List (DataW H)} {p:List MemPlace},DataW.TrodAll enc P W base sp hd ts vs ds p->vs.length=ts.length/\ds.length=ts.length
 | [],[],[],_,_=>⟨rfl,rfl⟩
 |t::ts,v::vs,d::ds,p,h=>by
  obtain⟨p1,p2,_,h2,_⟩:=h;have:=Px h2
  simp[this.1,this.2]
 | [],[],_::_,_,h=>h.elim
 | [],_::_,[],_,h=>h.elim
 | [],_::_,_::_,_,h=>h.elim
 |_::_,[],[],_,h=>h.elim
 |_::_,[],_::_,_,h=>h.elim
 |_::_,_::_,[],_,h=>h.elim
end
theorem Y5{C:Checked}{os:Os}{H:Type}{enc:TypeId×Value->H}{f:FuncId}{fn:Func}{s:ChangeSpec}{conds:List PathCond}{lP handsOn:Bool}{tb:TypeId}
  (own:ownKnob C.prog.godebug=none)(started:os.Started)(noInit:C.prog.inits.idxOf? f=none)(hfn:C.prog.funcs[f]?=some fn)(hlaid:laidOutB C.prog=true)
  (hvars:s.vars=[])(hrd:∀t∈fn.params.toList,C.prog.readableRec t=true/\t<C.prog.types.size)(hres:fn.resultTypes=#[tb])(htb:C.prog.underlying tb=some .bool)
  (hspec:∀ds:List (DataW H),ds.length=fn.params.toList.length->s.fn H ds={ results:=[.lit (.bool true)],args:=ds,vars:=[] })
  (witness:∃(w:World) (tape:Tape) (i:Input),w.os=os/\(w.forCall tape i).Shaped C.prog/\i.vars=[]/\Input.okWide C.prog (w.forCall tape i) .any w.heap.size f i /\
   s.pre6 enc C.prog fn conds false (w.forCall tape i).memory i.args/\({}:Assume).holds C.prog (lone (Frame.enter C.prog f i.args .normal) [] (w.forCall tape i)))
  {ct:List AD->Option Post}(fits:Fits C.prog f ⟨[],ct⟩)
  (hopen:∀(W:World) (base:Nat) (vs:List Value) (ds:List (DataW H)) (p:List MemPlace),DataW.TrodAll enc C.prog W 0 (fun _=>true) true fn.params.toList vs ds p ->
   (∀(j:Nat) t v,fn.params[j]?=some t->vs[j]?=some v->Value.okWide C.prog W .any base t v) ->
   ∃(ads:List AD) (pre:Prop),ct ads=some ⟨pre,.c (.bool true),[]⟩/\pre/\vs.length=ads.length/\∀(i:Nat) (d:AD),ads[i]?=some d->∃v,vs[i]?=some v/\dm C.prog W [] [] [] i d v) :
  ReturnsInHanded {} C os f .any (s.pre6 enc C.prog fn conds false) (s.post enc C.prog fn false lP handsOn false):=by
 refine returnsInHanded_of_change own started noInit hfn witness ?_
 intro W base args ds gs before hval hW _ _
 have hW':=hW
 obtain⟨p,q,hA,hV,rfl,hfz,hnd⟩:=hW;rw[hvars]at hV;obtain⟨rfl,rfl⟩:=trodVars_none hV;obtain⟨ads,pre,h1,h2,h3,h4⟩:=hopen W base args.toList ds p hA (fun j t v ht hv=>hval j t v ht (by simpa using hv))
 have ω:=fits.run W W args.toList ads _ [] [] h1 h2 h3 rfl rfl rfl (by simp) (by simp) (by simp) (fun q u hq=>⟨hq,by simp⟩) h4
 refine ω.mono fun e W' ⟨v,ms',img,wG,he,haft,hms,_,_,hret⟩=>?_
 subst he;have hv:v=.bool true:=hret.val
 subst hv;have hB:Below W.heap.size W W':=haft.below
 have ψ:∀x∈p,x.block<W.heap.size:=fun x hx=>by simpa using hW'.lt x (by simp[hx])
 have hsp:=hspec ds (Px hA).2
 refine⟨_,rfl,ds,[],p++[],[],p,[],hW',?_,?_,?_,hB.frame _,fun h=>by cases h⟩
 ·rw[Ac,hsp,hres]
  exact trodAll_cons_mk (shut_bool htb _) trodAll_mk0
 ·rw[Ac,hsp]
  exact Pw hlaid hB hrd hA ψ
 ·rw[Ac,hsp,hvars]
  rfl
end Go.Sx
end
