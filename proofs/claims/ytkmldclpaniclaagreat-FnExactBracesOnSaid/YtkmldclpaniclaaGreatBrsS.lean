/- BrsS -/
import Derived.Test.YtkmldclpaniclaaGreatDeep
import Derived.Test.YtkmldclpaniclaaGreatCirC
import Derived.Test.YtkmldclpaniclaaGreatActP
open Go Go.Proofs
namespace Go.Sx
set_option linter.unusedSimpArgs false
set_option linter.unusedVariables false
def f5(t:List (List Int)):List (List (List Int))×Int:=(if ba t=true then if t.length<=7 then aB t (aa t)else []else [],if ba t=true then if t.length<=7 then 0 else 3 else 1)
theorem KP{t:List (List Int)}(h:ba t=false):f5 t=([],1):=by simp[f5,h]
theorem KQ{t:List (List Int)}(h:ba t=true)(h7:7<t.length):f5 t=([],3):=by
 simp[f5,h,show ¬ t.length<=7 by omega]
theorem KT{t:List (List Int)}(h:ba t=true)(h7:t.length<=7):f5 t=(aB t (aa t),0):=by simp[f5,h,h7]
def pM(t:List (List Int)):Post:=⟨aY t,.c (.int .i64 (f5 t).2),[]⟩
def vA:List AD->Option Post
 | [.agg [.rows .i64 t]]=>some (pM t)
 |_=>none
def C8:List (Nat×Ctr):=[(94,⟨[],xu⟩)]
def vB(t:List (List Int)):Prop :=
 (aY t/\True)/\af (!ba t) ((1:Int)=(f5 t).2/\True) (af (decide ((7:Int)<(t.length:Int))) ((3:Int)=(f5 t).2/\True) ((0:Int)=(f5 t).2/\True))
theorem KU(t:List (List Int)):aP Tryz.prog (ai C8) aj ar Tryz.f50 (aF Tryz.f50) [] [.agg [.rows .i64 t]] (pM t)=vB t:=by kernel_rfl
theorem KW(t:List (List Int))(Yh:(pM t).pre):vB t:=by
 simp only[pM,vB,aK,u1,u2,u3,u4,u5,u6,u7,u8,u9,v1,v2,v3,v4,v5,v6,v7,v8,v9,w1,w2,w3,w4,aC,ab,ae,ag,av]at Yh⊢;exact⟨Yh,fun h=>by rw[KP h],fun h=>⟨fun h7=>by rw[KQ h (by omega)],fun h7=>by rw[KT h (by omega)]⟩⟩
theorem KX:Fits Tryz.prog 50 ⟨[],vA⟩:=by
 refine aW (Γ:=ai C8) (az NH aJ) Tryz.func50 fun ds p h hp=>?_
 unfold vA at h;split at h
 ·cases h
  exact⟨aj,ar,by rw[KU];exact KW _  hp⟩
 ·cases h
theorem C9{n:Nat}{c:List (List Int)}(h:aT n c):am c<=n*n:=by
 have:=Es n c fun r hr=>by
  obtain⟨i,hi,rfl⟩:=List.getElem_of_mem hr;have:=(h.2 i (by rw[<-h.1];exact hi)).1
  rw[bD c [] i hi]at this;omega
 rw[h.1]at this;exact this
theorem md{n:Nat}{c:List (List Int)}(h:aT n c)(hn:n<=12):aY c:=⟨by rw[h.1];omega,fun r hr=>by
 obtain⟨i,hi,rfl⟩:=List.getElem_of_mem hr;have:=(h.2 i (by rw[<-h.1];exact hi)).1
 rw[bD c [] i hi]at this;omega⟩
theorem Da{α:Type}(c:α->Nat)(k:Nat):∀l:List α,(∀x∈l,c x<=k)->de c l<=l.length*k
 | [],_=>by simp[de]
 |x::l,h=>by
  have h1:=h x List.mem_cons_self
  have h2:=Da c k l fun y hy=>h y (List.mem_cons_of_mem _ hy)
  simp only[de,List.map_cons,List.sum_cons,List.length_cons,Nat.add_mul]at *;omega
theorem KY{n:Nat}{t:List (List Int)}(h:aT n t):jf (n:Int) t:=⟨by rw[h.1],fun i hi=>by
 have hi':i<n:=by rw[<-h.1];exact hi
 obtain⟨a,b⟩:=h.2 i hi';exact⟨by rw[a],fun j hj=>by
  have:=b j (by rw[<-h.1];exact hj)
  have e:en t i j=(t.getD i []).getD j 0:=rfl
  omega⟩⟩
def pN(t:List (List Int)):Post:=⟨ba t=true/\t.length<=7,.c (.ro (.r3 .i64 (cE t (aa t)))),[]⟩
def vC:List AD->Option Post
 | [.c (.rows .i64 t)]=>some (pN t)
 |_=>none
def Db(t:List (List Int)):Nat->Option Ann
 |0=>some (Ann.mk ((Nat)) (fun i=>⟨[(0,.c (.ro (.rows .i64 t))),(3,.c (.ro (.r3 .i64 (aB t (aa t))))),(4,.c (.ro (.rows .i64 ((aa t))))),(5,.c (.own 600)),(6,.c (.int .i64 ((i:Int))))],[(600,some (.lst 0 22 (.r3 .i64 (((aB t (aa t)).take i).filter (cK (aa t))))))]⟩) (fun i=>i<=(aB t (aa t)).length) (fun i=>(aB t (aa t)).length-i) (fun i=>fun b_=>match b_ with|2=>some (Ann.mk ((Nat)) (fun k=>⟨[(0,.c (.ro (.rows .i64 t))),(3,.c (.ro (.r3 .i64 (aB t (aa t))))),(4,.c (.ro (.rows .i64 ((aa t))))),(5,.c (.own 600)),(6,.c (.int .i64 ((i:Int)))),(7,.c (.bool ((((aa t).take k).all fun f=>!bB (bv ((aB t (aa t)).getD i []) f ((aB t (aa t)).getD i []).length) ((aB t (aa t)).getD i []))))),(8,.c (.int .i64 ((k:Int))))],[(600,some (.lst 0 22 (.r3 .i64 (((aB t (aa t)).take i).filter (cK (aa t))))))]⟩) (fun k=>i<(aB t (aa t)).length/\k<=(aa t).length) (fun k=>(aa t).length-k) (fun _=>ar))|_=>none))
 |_=>none
def Dc(t:Nat):Bool:=[2000037].contains t
def Dd:List (Nat×Ctr):=[(86,⟨[],vN⟩),(137,⟨[],qN⟩),(143,⟨[],vR⟩),(142,⟨[],qL⟩)]
def eZ(t:List (List Int))(x0:Nat):=((aB t (aa t)).getD (↑x0:Int).toNat ([]:List (List Int)))
def iF(t:List (List Int))(x0:Nat):=((aB t (aa t)).getD x0 ([]:List (List Int)))
def vD(t:List (List Int)):Prop :=
 (((cd t=true/\AuOk t.length (aa t)/\(aa t).length<=(100:Nat)/\t.length<=(7:Nat))/\True)/\((cd t=true/\True)/\((∃x0:Nat,x0<=(aB t (aa t)).length/\t=t/\aB t (aa t)=aB t (aa t)/\aa t=aa t/\(0:Int)=(x0:Int)/\([]:List (List (List Int)))=List.filter (cK (aa t)) (List.take x0 (aB t (aa t))))/\(∀x1:Nat,(x1<=(aB t (aa t)).length->(af (decide ((x1:Int)<(↑((aB t (aa t)).length):Int))) ((∃x2:Nat,(x1<(aB t (aa t)).length/\x2<=(aa t).length)/\t=t/\aB t (aa t)=aB t (aa t)/\aa t=aa t/\(x1:Int)=(x1:Int)/\(true=List.all (List.take x2 (aa t)) fun(f:List Int)=>!bB (bv (iF t x1) f (iF t x1).length) (iF t x1))/\(0:Int)=(x2:Int)/\List.filter (cK (aa t)) (List.take x1 (aB t (aa t)))=List.filter (cK (aa t)) (List.take x1 (aB t (aa t))))/\(∀x3:Nat,(x1<(aB t (aa t)).length/\x3<=(aa t).length->(af (decide ((x3:Int)<(↑((aa t).length):Int))) (af (List.all (List.take x3 (aa t)) fun(f:List Int)=>!bB (bv ((aB t (aa t)).getD x1 ([]:List (List Int))) f (((aB t (aa t)).getD x1 ([]:List (List Int))).length)) ((aB t (aa t)).getD x1 ([]:List (List Int)))) (ab (x1:Int) ((aB t (aa t)).length)/\(ab (x3:Int) (aa t).length/\(((aY (eZ t x1)/\((eZ t x1).length<=(144:Nat)/\((jf (↑((eZ t x1).length):Int) (eZ t x1)) /\
 ((((aa t).getD (x3:Int).toNat []).length=(eZ t x1).length)/\(∀(i:Nat),i<((aa t).getD (x3:Int).toNat []).length->(0:Int)<=(List.getD (aa t) (x3:Int).toNat []).getD i (0:Int)/\(List.getD (aa t) (x3:Int).toNat []).getD i (0:Int)<=(↑((eZ t x1).length):Int)-(1:Int))))))/\True)/\((ab (x1:Int) ((aB t (aa t)).length))/\((((aY (bv (eZ t x1) ((aa t).getD (x3:Int).toNat []) (eZ t x1).length))/\((aY (eZ t x1))/\((bv (eZ t x1) ((aa t).getD (x3:Int).toNat []) (eZ t x1).length).length=(eZ t x1).length)))/\True)/\((ae ((x3:Int)+(1:Int)))/\(∃x4:Nat,(((x1<(aB t (aa t)).length)/\(x4<=(aa t).length))/\(((aa t).length-x4<(aa t).length-x3)/\((t=t)/\((aB t (aa t)=aB t (aa t))/\((aa t=aa t)/\(((x1:Int)=(x1:Int))/\(((!bB (bv (eZ t x1) ((aa t).getD (x3:Int).toNat []) (eZ t x1).length) (eZ t x1))=List.all (List.take x4 (aa t)) fun(f:List Int)=>!bB (bv (iF t x1) f (iF t x1).length) (iF t x1))/\(((x3:Int)+(1:Int)=(x4:Int))/\(List.filter (cK (aa t)) (List.take x1 (aB t (aa t)))=List.filter (cK (aa t)) (List.take x1 (aB t (aa t))))))))))))))))))) ((ae ((x3:Int)+(1:Int)))/\(∃x5:Nat,(((x1<(aB t (aa t)).length)/\(x5<=(aa t).length))/\(((aa t).length-x5<(aa t).length-x3)/\((t=t)/\((aB t (aa t)=aB t (aa t)) /\
 ((aa t=aa t)/\(((x1:Int)=(x1:Int))/\((false=List.all (List.take x5 (aa t)) fun(f:List Int)=>!bB (bv (iF t x1) f (iF t x1).length) (iF t x1))/\(((x3:Int)+(1:Int)=(x5:Int))/\(List.filter (cK (aa t)) (List.take x1 (aB t (aa t)))=List.filter (cK (aa t)) (List.take x1 (aB t (aa t))))))))))))))) (af (List.all (List.take x3 (aa t)) fun(f:List Int)=>!bB (bv ((aB t (aa t)).getD x1 ([]:List (List Int))) f (((aB t (aa t)).getD x1 ([]:List (List Int))).length)) ((aB t (aa t)).getD x1 ([]:List (List Int)))) ((ab (x1:Int) ((aB t (aa t)).length))/\((ag (FC.len (FC.r3 IntKind.i64 (List.filter (cK (aa t)) (List.take x1 (aB t (aa t)))))+FC.len (FC.r3 IntKind.i64 ((aB t (aa t)).getD (x1:Int).toNat ([]:List (List Int))::([]:List (List (List Int)))))))/\((ae ((x1:Int)+(1:Int)))/\(∃x6:Nat,((x6<=(aB t (aa t)).length)/\(((aB t (aa t)).length-x6<(aB t (aa t)).length-x1)/\((t=t)/\((aB t (aa t)=aB t (aa t))/\((aa t=aa t)/\(((x1:Int)+(1:Int)=(x6:Int))/\(List.filter (cK (aa t)) (List.take x1 (aB t (aa t)))++(aB t (aa t)).getD (x1:Int).toNat ([]:List (List Int))::([]:List (List (List Int)))=List.filter (cK (aa t)) (List.take x6 (aB t (aa t)))))))))))))) ((ae ((x1:Int)+(1:Int)))/\(∃x7:Nat,((x7<=(aB t (aa t)).length)/\(((aB t (aa t)).length-x7<(aB t (aa t)).length-x1)/\((t=t) /\
 ((aB t (aa t)=aB t (aa t))/\((aa t=aa t)/\(((x1:Int)+(1:Int)=(x7:Int))/\(List.filter (cK (aa t)) (List.take x1 (aB t (aa t)))=List.filter (cK (aa t)) (List.take x7 (aB t (aa t))))))))))))))))) ((List.filter (cK (aa t)) (List.take x1 (aB t (aa t)))=cE t (aa t))/\True)))))))
theorem KZ(t:List (List Int)):aP Tryz.prog (ai Dd) Dc (Db t) Tryz.f95 (aF Tryz.f95) [] [.c (.rows .i64 t)] (pN t)=vD t:=by kernel_rfl
theorem K0(t:List (List Int))(Yh:(pN t).pre):vD t:=by
 simp only[pN,vD,eZ,iF,aK,u1,u2,u3,u4,u5,u6,u7,u8,u9,v1,v2,v3,v4,v5,v6,v7,v8,v9,w1,w2,w3,w4,aC,ab,ae,ag,av]at Yh⊢;obtain⟨hg,h7⟩:=Yh;have G:=mn hg
 have hA:=kJ G h7
 have hC:=pA G h7
 have ct:=fun i hi=>nQ G h7 (bE (aB t (aa t)) [] i hi)
 have ap:=fun i hi=>gZ G h7 (bE (aa t) [] i hi)
 refine⟨⟨qV hg,(mw G.tb G.pos (by omega)).1,by omega,by omega⟩,qV hg,⟨0,by omega,by omega,rfl⟩,fun i hi=>⟨fun hlt=>⟨⟨0,⟨by omega,by omega⟩,by simp,by omega⟩,fun k ⟨_,hk⟩=>?_⟩,fun hge=>?_⟩⟩
 ·have hi1:i<(aB t (aa t)).length:=by omega
  have C:=ct i hi1
  have FS:((aB t (aa t)).take (i+1)).filter (cK (aa t))=((aB t (aa t)).take i).filter (cK (aa t))++(if cK (aa t) ((aB t (aa t)).getD i [])=true then [(aB t (aa t)).getD i []]else []):=by
   rw[<-da _ [] i hi1,List.filter_append];simp only[List.filter_cons,List.filter_nil]
  generalize (aB t (aa t)).getD i []=c at *
  have lc:=C.1
  have AS:∀k,k<(aa t).length->((aa t).take (k+1)).all (fun f=>!bB (bv c f c.length) c)=(((aa t).take k).all (fun f=>!bB (bv c f c.length) c)&&!bB (bv c ((aa t).getD k []) c.length) c):=fun k hk=>by
   rw[<-da _ [] k hk,List.all_append];simp
  refine⟨fun hkl=>?_,fun hkl=>?_⟩
  ·have hk1:k<(aa t).length:=by omega
   have P:=ap k hk1
   have lp:=P.len
   refine⟨fun hb=>⟨by omega,by omega,⟨md C (by omega),by omega,by rw[lc];exact KY C,by omega,fun j hj=>?_⟩,by omega,⟨?_,md C (by omega),?_⟩,by omega,k+1,⟨hi1,by omega⟩,by omega,?_,by omega⟩,fun hb=>⟨by omega,k+1,⟨hi1,by omega⟩,by omega,?_,by omega⟩⟩
   ·have:=P.rng j (by omega);rw[lc];omega
   ·rw[lc];exact md (gA C P).tb (by omega)
   ·rw[lc];exact(gA C P).tb.1
   ·rw[AS k hk1,hb];simp
   ·rw[AS k hk1,hb];simp
  ·have ek:k=(aa t).length:=by omega
   rw[ek,List.take_length];refine⟨fun hb=>⟨by omega,?_,by omega,i+1,by omega,by omega,by omega,?_⟩,fun hb=>⟨by omega,i+1,by omega,by omega,by omega,?_⟩⟩
   ·have:=List.length_filter_le (cK (aa t)) ((aB t (aa t)).take i)
    rw[List.length_take]at this;simp only[FC.len,List.length_singleton];omega
   ·rw[FS,if_pos (show cK (aa t) c=true from hb)]
   ·rw[FS,if_neg (show ¬ cK (aa t) c=true by rw[show cK (aa t) c=false from hb];simp),List.append_nil]
 ·rw[List.take_of_length_le (by omega)];rfl
theorem K3:Fits Tryz.prog 95 ⟨[],vC⟩:=by
 refine aW (Γ:=ai Dd) (az Lu (az EI (az LA (az EG aJ)))) Tryz.func95 fun ds p h hp=>?_
 unfold vC at h;split at h
 ·cases h
  exact⟨Dc,Db _ ,by rw[KZ];exact K0 _  hp⟩
 ·cases h
def pO(t:List (List Int)):Post:=⟨ba t=true/\t.length<=7,.c (.ro (.p3 .i64 (bX t (cE t (aa t))))),[]⟩
def vE:List AD->Option Post
 | [.c (.rows .i64 t)]=>some (pO t)
 |_=>none
def De(t:List (List Int)):Nat->Option Ann
 |0=>some (Ann.mk ((Nat)) (fun i=>⟨[(0,.c (.ro (.rows .i64 t))),(3,.c (.ro (.r3 .i64 (cE t (aa t))))),(4,.c (.own 600)),(5,.c (.int .i64 ((i:Int))))],[(600,some (.lst 0 39 (.p3 .i64 (bX t ((cE t (aa t)).take i)))))]⟩) (fun i=>i<=(cE t (aa t)).length) (fun i=>(cE t (aa t)).length-i) (fun _=>ar))
 |_=>none
def Df(t:Nat):Bool:=[5000008,5000023,1000023].contains t
def Dg:List (Nat×Ctr):=[(95,⟨[],vC⟩),(96,⟨[],pX⟩)]
def vF(t:List (List Int)):Prop :=
 ((ba t=true/\t.length<=(7:Nat))/\True)/\(∃x0:Nat,x0<=(cE t (aa t)).length/\t=t/\cE t (aa t)=cE t (aa t)/\(0:Int)=(x0:Int)/\[]=bX t (List.take x0 (cE t (aa t))))/\∀x1:Nat,x1<=(cE t (aa t)).length->af (decide ((x1:Int)<(↑((cE t (aa t)).length):Int))) ((aY t/\True)/\ab (x1:Int) ((cE t (aa t)).length)/\ag (FC.len (FC.p3 IntKind.i64 (bX t (List.take x1 (cE t (aa t)))))+FC.len (FC.p3 IntKind.i64 [(t,(cE t (aa t)).getD (x1:Int).toNat ([]:List (List Int)))]))/\ae ((x1:Int)+(1:Int))/\∃x2:Nat,x2<=(cE t (aa t)).length/\(cE t (aa t)).length-x2<(cE t (aa t)).length-x1/\t=t/\cE t (aa t)=cE t (aa t)/\(x1:Int)+(1:Int)=(x2:Int)/\bX t (List.take x1 (cE t (aa t)))++[(t,(cE t (aa t)).getD (x1:Int).toNat ([]:List (List Int)))]=bX t (List.take x2 (cE t (aa t)))) (bX t (List.take x1 (cE t (aa t)))=bX t (cE t (aa t))/\True)
theorem K4(t:List (List Int)):aP Tryz.prog (ai Dg) Df (De t) Tryz.f51 (aF Tryz.f51) [] [.c (.rows .i64 t)] (pO t)=vF t:=by kernel_rfl
theorem K5(t:List (List Int))(Yh:(pO t).pre):vF t:=by
 simp only[pO,vF,aK,u1,u2,u3,u4,u5,u6,u7,u8,u9,v1,v2,v3,v4,v5,v6,v7,v8,v9,w1,w2,w3,w4,aC,ab,ae,ag,av]at Yh⊢;obtain⟨hg,h7⟩:=Yh;have G:=mn hg
 have hC:=pA G h7
 have hL:(cE t (aa t)).length<=2401:=Nat.le_trans (List.length_filter_le _ _) hC
 refine⟨⟨hg,h7⟩,⟨0,by omega,by omega,rfl⟩,fun i hi=>⟨fun hlt=>⟨md G.tb (by omega),by omega,?_⟩,fun hge=>?_⟩⟩
 ·have hi1:i<(cE t (aa t)).length:=by omega
  refine⟨?_,by omega,i+1,by omega,by omega,by omega,?_⟩
  ·simp only[FC.len,bX,List.length_map,List.length_take,List.length_singleton];omega
  ·rw[<-da _ [] i hi1,bX,bX,List.map_append];rfl
 ·rw[List.take_of_length_le (by omega)]
theorem K6:Fits Tryz.prog 51 ⟨[],vE⟩:=by
 refine aW (Γ:=ai Dg) (az K3 (az Dw aJ)) Tryz.func51 fun ds p h hp=>?_
 unfold vE at h;split at h
 ·cases h
  exact⟨Df,De _ ,by rw[K4];exact K5 _  hp⟩
 ·cases h
def bp(t:List (List Int)):List (List (List Int)×List (List Int))×Int:=(if ba t=true then if t.length<=7 then bX t (cE t (aa t))else []else [],if ba t=true then if t.length<=7 then 0 else 3 else 1)
theorem pP{t:List (List Int)}(h:ba t=false):bp t=([],1):=by simp[bp,h]
theorem pQ{t:List (List Int)}(h:ba t=true)(h7:7<t.length):bp t=([],3):=by
 simp[bp,h,show ¬ t.length<=7 by omega]
theorem pR{t:List (List Int)}(h:ba t=true)(h7:t.length<=7):bp t=(bX t (cE t (aa t)),0):=by simp[bp,h,h7]
theorem Dh(t:List (List Int)):(bp t).2=(f5 t).2:=rfl
def pS(t:List (List Int)):Post:=⟨aY t,.tup [.inl (.tr [39,62,2] (.p3 .i64 (bp t).1)),.inl (.int .i64 (bp t).2)],[]⟩
def vG:List AD->Option Post
 | [.agg [.rows .i64 t]]=>some (pS t)
 |_=>none
def Di:List (Nat×Ctr):=[(53,⟨[],wR⟩),(54,⟨[],vw⟩)]
def vH(t:List (List Int)):Prop :=
 (aY t/\True)/\af (!ba t) ((FC.len (FC.p3 IntKind.i64 (bp t).1)=(0:Nat)/\(1:Int)=(bp t).2/\True)/\True) (af (decide ((7:Int)<(t.length:Int))) ((FC.len (FC.p3 IntKind.i64 (bp t).1)=(0:Nat)/\(3:Int)=(bp t).2/\True)/\True) (((ba t=true/\t.length<=(7:Nat))/\True)/\(bX t ((cY (aa t) (aX t)).2)=(bp t).1/\(0:Int)=(bp t).2/\True)/\True))
theorem K7(t:List (List Int)):aP Tryz.prog (ai Di) aj ar Tryz.f12 (aF Tryz.f12) [] [.agg [.rows .i64 t]] (pS t)=vH t:=by kernel_rfl
theorem K8(t:List (List Int))(Yh:(pS t).pre):vH t:=by
 simp only[pS,vH,aK,u1,u2,u3,u4,u5,u6,u7,u8,u9,v1,v2,v3,v4,v5,v6,v7,v8,v9,w1,w2,w3,w4,aC,ab,ae,ag,av]at Yh⊢;refine⟨Yh,fun h=>by rw[pP h];exact⟨rfl,rfl⟩,fun h=>⟨fun h7=>by rw[pQ h (by omega)];exact⟨rfl,rfl⟩,fun h7=>⟨⟨h,by omega⟩,?_⟩⟩⟩
 rw[pR h (by omega),ME (mn h) (by omega)]
 exact⟨rfl,rfl⟩
theorem K9:Fits Tryz.prog 12 ⟨[],vG⟩:=by
 refine aW (Γ:=ai Di) (az MH (az KO aJ)) Tryz.func12 fun ds p h hp=>?_
 unfold vG at h;split at h
 ·cases h
  exact⟨aj,ar,by rw[K7];exact K8 _  hp⟩
 ·cases h
def pT(t:List (List Int)):Post:=⟨aY t,.tup [.inl (.ro (.p3 .i64 (bp t).1)),.inl (.int .i64 (bp t).2)],[]⟩
def vI:List AD->Option Post
 | [.agg [.rows .i64 t]]=>some (pT t)
 |_=>none
def Dj:List (Nat×Ctr):=[(50,⟨[],vA⟩),(51,⟨[],vE⟩)]
def vJ(t:List (List Int)):Prop :=
 (aY t/\True)/\af ((f5 t).2 != (0:Int)) ((FC.len (FC.p3 IntKind.i64 (bp t).1)=(0:Nat)/\(f5 t).2=(bp t).2/\True)/\True) (((ba t=true/\t.length<=(7:Nat))/\True)/\(bX t (cE t (aa t))=(bp t).1/\(0:Int)=(bp t).2/\True)/\True)
theorem Lc(t:List (List Int)):aP Tryz.prog (ai Dj) aj ar Tryz.f10 (aF Tryz.f10) [] [.agg [.rows .i64 t]] (pT t)=vJ t:=by kernel_rfl
theorem Ld(t:List (List Int))(Yh:(pT t).pre):vJ t:=by
 simp only[pT,vJ,aK,u1,u2,u3,u4,u5,u6,u7,u8,u9,v1,v2,v3,v4,v5,v6,v7,v8,v9,w1,w2,w3,w4,aC,ab,ae,ag,av]at Yh⊢;refine⟨Yh,fun h=>?_,fun h=>?_⟩
 ·rw[<-Dh]at h⊢
  cases hg:ba t with
  |false=>rw[pP hg];exact⟨rfl,rfl⟩
  |true =>
   by_cases h7:7<t.length
   ·rw[pQ hg h7];exact⟨rfl,rfl⟩
   ·rw[pR hg (by omega)]at h;exact absurd rfl h
 ·rw[<-Dh]at h
  cases hg:ba t with
  |false=>rw[pP hg]at h;exact absurd h (by decide)
  |true =>
   by_cases h7:7<t.length
   ·rw[pQ hg h7]at h;exact absurd h (by decide)
   ·refine⟨⟨rfl,by omega⟩,?_⟩
    rw[pR hg (by omega)]
    exact⟨rfl,rfl⟩
theorem Le:Fits Tryz.prog 10 ⟨[],vI⟩:=by
 refine aW (Γ:=ai Dj) (az KX (az K6 aJ)) Tryz.func10 fun ds p h hp=>?_
 unfold vI at h;split at h
 ·cases h
  exact⟨aj,ar,by rw[Lc];exact Ld _  hp⟩
 ·cases h
end Go.Sx
