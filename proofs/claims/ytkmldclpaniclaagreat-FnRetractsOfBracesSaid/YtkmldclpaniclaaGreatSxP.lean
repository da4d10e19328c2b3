/- SxP -/
import Derived.Test.YtkmldclpaniclaaGreatSxOv
import Derived.Laws.BytesArg
import Derived.Laws.BytesString
set_option linter.unusedSimpArgs false
set_option linter.unusedVariables false
set_option linter.defProp false
namespace Go.Sx
open Go.RowKit
section
variable {C:Cx} {σ:State} {mu:Nat->Img} {a:Act} {w w':World}
def fnc(ro:Option Nat):Fence:={ Fence.wide with round:=ro }
theorem Qs{ro:Option Nat}{n:Nat}{P:Program}{f:FuncId}{args:Array Value}{w:World}{R:Ending->World->Prop}:CallsIn (fnc ro) n P f args w R↔Calls P f args w R :=
 callsIn_wide (n:=n) (P:=P) (f:=f) (args:=args) (w:=w) (R:=R)
variable {ro:Option Nat}
theorem cH{P:Program}{o:Oper}{v:Value}{K:Act->World->Prop}{Q:Exit->Act->World->Prop}(hr:(execOp a.eval o).run P w=.ok (.value v) w')(h:K (a.put o.dst v) w')
  (hnd:∀c,o.op≠.defer c:=by intro c hc;cases hc):o.wpIn (fnc ro) 0 P a w K Q:=by
 refine⟨fun _ _=>trivial,?_⟩
 rw[Oper.semAt_eq _ _ _ hnd,hr];exact h
theorem Qt{P:Program}{o:Oper}{K:Act->World->Prop}{Q:Exit->Act->World->Prop}(hr:(execOp a.eval o).run P w=.ok .skip w')(h:K (a.put o.dst undef) w')
  (hnd:∀c,o.op≠.defer c:=by intro c hc;cases hc):o.wpIn (fnc ro) 0 P a w K Q:=by
 refine⟨fun _ _=>trivial,?_⟩
 rw[Oper.semAt_eq _ _ _ hnd,hr];exact h
theorem xA{P:Program}{o:Oper}{f:FuncId}{args:Array Value}{K:Act->World->Prop}{Q:Exit->Act->World->Prop}(hr:(execOp a.eval o).run P w=.ok (.enter f args) w)
  (h:Calls P f args w fun e w'=>∃v,e=.returned v/\K (a.put o.dst v) w')
  (hnd:∀c,o.op≠.defer c:=by intro c hc;cases hc):o.wpIn (fnc ro) 0 P a w K Q:=by
 refine⟨fun _ _=>trivial,?_⟩
 rw[Oper.semAt_eq _ _ _ hnd,hr];refine⟨fun h=>(by cases h),Qs.2 (Calls.mono h ?_)⟩
 rintro e w' ⟨v,rfl,hk⟩
 exact hk
theorem ag9{P:Program}{o:Oper}{l:Nat}{args:Array Value}{K:Act->World->Prop}{Q:Exit->Act->World->Prop}(hr:(execOp a.eval o).run P w=(Instr.yield l args).run P w)
  (h:YieldAt Fence.wide 0 P l args w fun e w'=>∃v,e=.returned v/\K (a.put o.dst v) w')
  (hnd:∀c,o.op≠.defer c:=by intro c hc;cases hc):o.wpIn (fnc ro) 0 P a w K Q:=by
 refine⟨fun _ _=>trivial,?_⟩
 obtain⟨fn,tmps,assign,body,h1,h2⟩:=h;rw[Oper.semAt_eq _ _ _ hnd,hr,h1];refine⟨fun h=>(by cases h),?_⟩
 have h3:RoundIn (fnc ro) (0-1) P l fn tmps assign body w _:=h2
 refine h3.mono ?_
 rintro e w' ⟨v,rfl,hk⟩
 exact hk
theorem rB{P:Program}{f:FuncId}{fn:Func}(h1:P.funcs[f]?=some fn)(h2:fn.body.isSome=true)(h3:(fn.name == "runtime.NumGoroutine")=false)(args:Array Value) :
  (callFunc f args).run P w=.ok (.enter f args) w:=by
 have h4:fn.body≠none:=fun hc=>by rw[hc]at h2;cases h2
 have h5:fn.name≠"runtime.NumGoroutine":=by simpa using h3
 simp[callFunc,h1,h4,h5]
theorem Qu{E:Env}{P:Program}{svs:List SV}{cs:List SC}(h:eG wS svs=some cs) :
  cs.length=svs.length/\∀(i:Nat) (sv:SV),svs[i]?=some sv->∃c,cs[i]?=some c/\sv=.c c/\c.plain=true/\∀v,aw P E sv v->v.oneCell'=true/\ai E c v:=by
 obtain⟨h1,h2⟩:=im h;refine⟨h1,fun i sv hi=>?_⟩
 have ψ:i<cs.length:=by rw[h1];exact(AJ.1 hi).1
 obtain⟨x,h3,h4⟩:=h2 i cs[i] (AF ψ);have:x=sv:=BE (h3.symm.trans hi)
 subst this;unfold wS at h4;split at h4
 ·split at h4
  ·rename_i hp
   cases h4;exact⟨_,AF ψ,rfl,hp,fun v hv=>⟨qQ hp hv,hv⟩⟩
  ·cases h4
 ·cases h4
theorem ah0(h:St C σ mu a w){dst:Option Nat}(hd:∀d,dst=some d->d<C.N)(hb:Below w.heap.size w w')(hdr:w.drawn<=w'.drawn){e:Eff}(he:e.hp=[]){v:Value}(χ:aw C.P (σ.env C.wF mu) e.val v) :
  ay C (σ.app dst e) (a.put dst v) w':=by
 refine St.ex (mu:=mu) (h.ups hd ⟨hb.os,hdr⟩ hb.tape hb.output hb.size (fun b ψ _=>hb.block b ψ) (fun o _=>rfl) (fun o x ho=>?_) (fun o ob ho=>?_) (fun o o' ob ob' _ ho=>?_) (fun _=>?_))
 ·rw[he]at ho;cases ho
 ·rw[he]at ho;cases ho
 ·rw[he]at ho;cases ho
 ·have hst:(σ.app dst e).ost=σ.ost:=funext fun o=>by simp[State.ost,j8,he,lk]
  have henv:(σ.app dst e).env C.wF mu=σ.env C.wF mu:=by simp[State.env,hst]
  rw[henv];exact χ
theorem ah1{P:Program}{s t:TypeId}(hst:Hq P s t=true){v:Value}{l:Db}(hrd:g9 w .u8 v l):(convert s t v).run P w=.ok (.string (strOfNums l)) w:=by
 unfold Hq at hst;split at hst
 ·rename_i ht
  split at hst
  ·rename_i e he
   split at hst
   ·rename_i hk
    obtain⟨a,c,rfl,_,hcells⟩:=hrd;have hs:=gp he
    have hu:=Hx hk
    by_cases h0:l.length=0
    ·obtain rfl:=BJ h0
     rw[BV,run_convert_bytes_string w s t e a 0 c hs hu ht];cases a<;>simp[Conv.bytesToString,loadCells]
     all_goals rfl
    ·obtain⟨b,off,rfl,hcell⟩:=hcells (by omega)
     exact run_convert_bytes_arg w s e hs hu b off l.length c l rfl (fun i hi=>by
      obtain⟨u,h1,h2⟩:=hcell i hi;rw[h1,h2]) t ht
   ·cases hst
  ·cases hst
 ·cases hst
theorem ah2{d:Nat}{t:TypeId}{r:Option Operand}{eff:Eff}(hr:(Ht C.P d t r).run σ=some eff)(h:St C σ mu a w){dst:Option Nat}(hd:∀d,dst=some d->d<C.N) :
  ∃v w',(Instr.makeMap t (r.map a.eval)).run C.P w=.ok v w'/\ay C (σ.app dst eff) (a.put dst v) w':=by
 simp[Ht,Rd.run]at hr
theorem ah3{t:TypeId}{cm ck cv:SC}{vm vk vv:Value}{eff:Eff}(hr:(Hu C.P t cm ck cv).run σ=some eff)(hm:ai (σ.env C.wF mu) cm vm)(hk:ai (σ.env C.wF mu) ck vk)(hv:ai (σ.env C.wF mu) cv vv)
  (h:St C σ mu a w){dst:Option Nat}(hd:∀d,dst=some d->d<C.N) :
  ∃w',(Instr.mapUpdate t vm vk vv).run C.P w=.ok () w'/\ay C (σ.app dst eff) (a.put dst undef) w':=by
 simp[Hu,Rd.run]at hr
theorem ah4{t:TypeId}{ok:Bool}{cm ck:SC}{vm vk:Value}{eff:Eff}(hr:(Hv C.P t ok cm ck).run σ=some eff)(hm:ai (σ.env C.wF mu) cm vm)(hk:ai (σ.env C.wF mu) ck vk)(h:St C σ mu a w) :
  eff.hp=[]/\∃v,(Instr.lookup t vm vk ok).run C.P w=.ok v w/\aw C.P (σ.env C.wF mu) eff.val v:=by
 simp[Hv,Rd.run]at hr
theorem ah5{Γ:FuncId->Option Ctr}(hΓ:di C.P Γ){wr:Nat->Bool}{o:Oper}{eff:Eff}(hr:(cS C.P Γ wr o).run σ=some eff)(hob:eff.obl)(h:St C σ mu a w)(hd:∀d,o.dst=some d->d<C.N)
  (Q:Exit->Act->World->Prop):o.wpIn (fnc ro) 0 C.P a w (fun a' w'=>ay C (σ.app o.dst eff) a' w') Q:=by
 obtain⟨dst,op,type,pos,after,guard⟩:=o;simp only at hd;have bad:∀x,(Rd.fail:Rd Eff).run σ=some x->False:=fun x hx=>by simp[Rd.run]at hx
 have keep:∀{sv:SV} {x:Operand},aw C.P (σ.env C.wF mu) sv (a.eval x)->ay C (σ.app dst ⟨sv,[],none⟩) (a.put dst (a.eval x)) w:=fun hv=>(St.ex (h.put_pure hd rfl hv))
 cases op with
 |move x =>
  simp only[cS]at hr;obtain⟨sv,hr2,hv⟩:=iU hr h;simp only[Rd.run,AC]at hr2;subst hr2;exact cH (v:=a.eval x) (by simp[execOp]) (keep hv)
 |assign x =>
  simp only[cS]at hr;split at hr
  ·simp only[Rd.run,AC]at hr
   subst hr;exact cH (v:=a.eval x) (by simp[execOp]) (keep (sv:=.c .any) trivial)
  obtain⟨sv,hr2,hv⟩:=iU hr h;simp only[Rd.run,AC]at hr2;subst hr2;exact cH (v:=a.eval x) (by simp[execOp]) (keep hv)
 |nilCheck x =>
  simp only[cS]at hr;obtain⟨c,hr2,hc⟩:=cZ hr h;split at hr2
  ·rename_i o i
   obtain⟨ob,ho,hr3⟩:=aZ hr2;obtain⟨hnf,hr3⟩:=mV hr3;simp only[Rd.run,aN,AC]at hr3;subst hr3;obtain⟨_,b,_,hv⟩:=aP ho hc;exact cH (v:=a.eval x) (by simp[execOp,hv]) (keep (sv:=.c (.ptr o i)) hc)
  ·rename_i cs i
   simp only[Rd.run,aN,AC]at hr2;subst hr2;obtain⟨b,off,hv,hc2⟩:=hc;exact cH (v:=a.eval x) (by simp[execOp,hv]) (keep (sv:=.c (.rob cs i)) ⟨b,off,hv,hc2⟩)
  ·exact(bad _ hr2).elim
 |pick c x y =>
  simp only[cS]at hr;obtain⟨cc,hr2,hc⟩:=cZ hr h;split at hr2
  ·simp only[ai]at hc
   obtain⟨sv,hr3,hv⟩:=iU hr2 h;simp only[Rd.run,AC]at hr3;subst hr3;exact cH (v:=a.eval x) (by simp[execOp,hc,asBool]) (keep hv)
  ·simp only[ai]at hc
   obtain⟨sv,hr3,hv⟩:=iU hr2 h;simp only[Rd.run,AC]at hr3;subst hr3;exact cH (v:=a.eval y) (by simp[execOp,hc,asBool]) (keep hv)
  ·exact(bad _ hr2).elim
 |alloc t =>
  simp only[cS]at hr;obtain⟨v,w',ω,hst⟩:=Y8 hr h hd;exact cH (v:=v) (by simp[execOp,ω]) hst
 |box t x =>
  simp only[cS]at hr;obtain⟨sv,hr2,hv⟩:=iU hr h;obtain⟨v,w',ω,hst⟩:=Y9 (t:=t) hr2 hv h hd;exact cH (v:=v) (by simp[execOp,ω]) hst
 |build t parts =>
  simp only[cS]at hr;obtain⟨hhp,v,ω,χ⟩:=ZK hr h;exact cH (v:=v) (by simp[execOp,ω]) (St.ex (h.put_pure hd hhp χ))
 |buildSlice t n parts =>
  simp only[cS]at hr;split at hr
  ·obtain⟨v,w',ω,hst⟩:=ZS hr h hd
   exact cH (v:=v) (by simp[execOp,ω]) hst
  split at hr
  ·obtain⟨v,w',ω,hst⟩:=ZR hr h hd
   exact cH (v:=v) (by simp[execOp,ω]) hst
  split at hr
  ·obtain⟨v,w',ω,hst⟩:=ZO hr h hd
   exact cH (v:=v) (by simp[execOp,ω]) hst
  ·obtain⟨v,w',ω,hst⟩:=ZL hr h hd
   exact cH (v:=v) (by simp[execOp,ω]) hst
 |load t x =>
  simp only[cS]at hr;split at hr
  ·obtain⟨c,hr2,hc⟩:=cZ hr h
   obtain⟨v,ω,hst⟩:=ad8 hr2 hob hc h hd;exact cH (v:=v) (by simp[execOp,ω]) hst
  ·obtain⟨c,hr2,hc⟩:=cZ hr h
   split at hr2
   ·obtain⟨hhp,v,ω,χ⟩:=YV hr2 hob hc h
    exact cH (v:=v) (by simp[execOp,ω]) (St.ex (h.put_pure hd hhp χ))
   ·obtain⟨hhp,v,ω,χ⟩:=OZ hr2 hc h
    exact cH (v:=v) (by simp[execOp,ω]) (St.ex (h.put_pure hd hhp χ))
 |store t x y =>
  simp only[cS]at hr;obtain⟨c,hr2,hc⟩:=cZ hr h;obtain⟨sv,hr3,hv⟩:=iU hr2 h;obtain⟨w',ω,hst⟩:=ZG hr3 hob hc hv h hd;exact Qt (by simp[execOp,ω]) hst
 |binOp op t x y t' =>
  simp only[cS]at hr;obtain⟨cx,hr2,hcx⟩:=cZ hr h;obtain⟨cy,hr3,hcy⟩:=cZ hr2 h;obtain⟨hhp,v,ω,χ⟩:=YO hr3 hob hcx hcy x y w;exact cH (v:=v) (by simp only[execOp];rw[Sem.run_bind,ω];rfl) (St.ex (h.put_pure hd hhp χ))
 |unOp op t x =>
  simp only[cS]at hr;obtain⟨cx,hr2,hcx⟩:=cZ hr h;obtain⟨hhp,v,ω,χ⟩:=YP hr2 hob hcx w;exact cH (v:=v) (by simp[execOp,ω]) (St.ex (h.put_pure hd hhp χ))
 |convert s t x =>
  simp only[cS]at hr;obtain⟨cx,hr2,hcx⟩:=cZ hr h;split at hr2
  ·rename_i hst
   have hw:=rb h [] (by simp)
   obtain⟨d,hr3,hread⟩:=xn h hw (fun d hd w=>pa hd w) hr2
   split at hr3
   ·rename_i l
    simp only[Rd.run,AC]at hr3;subst hr3;have hrd:=(hread _ hcx).2
    have hrd:=g9.mono (fun p u hp=>(hw.kept p u hp).1) hrd
    exact cH (v:=.string (strOfNums l)) (by simp[execOp,ah1 hst hrd]) (St.ex (h.put_pure hd rfl rfl))
   ·exact(bad _ hr3).elim
  ·obtain⟨hhp,v,ω,χ⟩:=YQ hr2 hob hcx w
   exact cH (v:=v) (by simp[execOp,ω]) (St.ex (h.put_pure hd hhp χ))
 |makeFunc fn first caps =>
  simp only[cS]at hr;split at hr
  ·rename_i f
   split at hr
   ·rename_i hf
    obtain⟨svs,hr2,h1,h2⟩:=j9 h _ _ _ hr;split at hr2
    ·rename_i cs hcs
     simp only[Rd.run,AC]at hr2;subst hr2;obtain⟨h3,h4⟩:=Qu (P:=C.P) (E:=σ.env C.wF mu) hcs;have hfe:first=#[]:=by simpa using hf
     refine cH (v:=.func (.func f) #[] (caps.map a.eval)) (by simp[execOp,Instr.makeFunc,hfe]) (St.ex (h.put_pure hd rfl ⟨_,rfl,by rw[h3,h1];simp,fun i c hi=>?_⟩))
     have ψ:i<svs.length:=by rw[<-h3];exact(AJ.1 hi).1
     obtain⟨c',h5,h6,h7,h8⟩:=h4 i svs[i] (AF ψ);have:c'=c:=BE (h5.symm.trans hi)
     subst this;obtain⟨x,h9,h10⟩:=h2 i svs[i] (AF ψ);obtain⟨h11,h12⟩:=h8 _ h10;have h9':caps[i]?=some x:=by simpa using h9
     exact⟨a.eval x,by simp[h9'],h11,h12⟩
    ·exact(bad _ hr2).elim
   ·exact(bad _ hr).elim
  ·exact(bad _ hr).elim
 |makeMap t r =>
  simp only[cS]at hr;obtain⟨v,w',ω,hst⟩:=ah2 hr h hd;exact cH (v:=v) (by simp[execOp,ω]) hst
 |mapUpdate t m k v =>
  simp only[cS]at hr;obtain⟨cm,hr2,hm⟩:=cZ hr h;obtain⟨ck,hr3,hk⟩:=cZ hr2 h;obtain⟨cv,hr4,hv⟩:=cZ hr3 h;obtain⟨w',ω,hst⟩:=ah3 hr4 hm hk hv h hd;exact Qt (by simp[execOp,ω]) hst
 |lookup t m k ok =>
  simp only[cS]at hr;obtain⟨cm,hr2,hm⟩:=cZ hr h;obtain⟨ck,hr3,hk⟩:=cZ hr2 h;obtain⟨hhp,v,ω,χ⟩:=ah4 hr3 hm hk h;exact cH (v:=v) (by simp[execOp,ω]) (St.ex (h.put_pure hd hhp χ))
 |makeSlice t l c =>
  simp only[cS]at hr;obtain⟨cl,hr2,hcl⟩:=cZ hr h;obtain⟨cc,hr3,hcc⟩:=cZ hr2 h;obtain⟨v,w',ω,hst⟩:=Zc hr3 hob hcl hcc h hd;exact cH (v:=v) (by simp[execOp,ω]) hst
 |slice t x lo hi mx =>
  simp only[cS]at hr;split at hr
  ·split at hr
   ·obtain⟨c,hr2,hc⟩:=cZ hr h
    obtain⟨v,w',ω,hst⟩:=Zx hr2 hob hc h hd;exact cH (v:=v) (by simp[execOp,ω]) hst
   obtain⟨c,hr2,hc⟩:=cZ hr h;obtain⟨v,w',ω,hst⟩:=Zv hr2 hob hc h hd;exact cH (v:=v) (by simp[execOp,ω]) hst
  ·rename_i m
   split at hr
   ·rename_i hemp
    split at hr
    ·rename_i e he
     split at hr
     ·rename_i n hsz
      obtain⟨c,hr2,hc⟩:=cZ hr h;have hw:=rb h [] (by simp)
      obtain⟨d,hr3,hread⟩:=xn h hw (fun d hd w=>pa hd w) hr2
      have hform:eff=⟨.c .emp,[],none⟩/\∃x' len cap,a.eval x=.slice x' len cap:=by
       have hrd:=(hread _ hc).2
       split at hr3
       ·simp only[Rd.run,AC]at hr3
        obtain⟨x1,cap,hv,_⟩:=hrd;exact⟨hr3.symm,_,_,_,hv⟩
       ·simp only[Rd.run,AC]at hr3
        obtain⟨x1,cap,hv,_⟩:=hrd;exact⟨hr3.symm,_,_,_,hv⟩
       ·simp only[Rd.run,AC]at hr3
        obtain⟨x1,cap,hv,_⟩:=hrd;exact⟨hr3.symm,_,_,_,hv⟩
       ·exact(bad _ hr3).elim
      obtain⟨rfl,x0,len,cap,hv⟩:=hform;have hops:lo=none/\hi=some (.const (.int .i64 0))/\m=.const (.int .i64 0):=by
       unfold OR at hemp;split at hemp
       ·exact⟨rfl,rfl,rfl⟩
       ·cases hemp
      obtain⟨rfl,rfl,rfl⟩:=hops;have hu:=run_underlying (gp he)
      have hs2:=gn hsz
      refine cH (v:=.slice x0 0 0) ?_ (St.ex (h.put_pure hd rfl ⟨x0,rfl⟩))
      have hc0:a.eval (.const (.int .i64 0))=.int .i64 0:=rfl
      simp[execOp,hv,hc0,Instr.sliceAt,Instr.slice,Instr.sliceBounds,Instr.sliceBound,hu,hs2,asIntOf]
     ·exact(bad _ hr).elim
    ·exact(bad _ hr).elim
   ·exact(bad _ hr).elim
 |fieldAddr s x f =>
  simp only[cS]at hr;obtain⟨c,hr2,hc⟩:=cZ hr h;obtain⟨hhp,v,ω,χ⟩:=YX (w:=w) hr2 hob hc h;exact cH (v:=v) (by simp[execOp,ω]) (St.ex (h.put_pure hd hhp χ))
 |field s x f =>
  simp only[cS]at hr;obtain⟨sv,hr2,hv⟩:=iU hr h;obtain⟨hhp,v,ω,χ⟩:=YY (w:=w) hr2 hv;exact cH (v:=v) (by simp[execOp,ω]) (St.ex (h.put_pure hd hhp χ))
 |indexAddr t x i =>
  simp only[cS]at hr;obtain⟨c,hr2,hc⟩:=cZ hr h;obtain⟨ci,hr3,hci⟩:=cZ hr2 h;obtain⟨hhp,v,ω,χ⟩:=YZ hr3 hob hc hci h;exact cH (v:=v) (by simp[execOp,ω]) (St.ex (h.put_pure hd hhp χ))
 |index t x i =>
  simp only[cS]at hr;obtain⟨c,hr2,hc⟩:=cZ hr h;obtain⟨ci,hr3,hci⟩:=cZ hr2 h;obtain⟨hhp,v,ω,χ⟩:=Y4 (w:=w) hr3 hob hc hci;exact cH (v:=v) (by simp[execOp,ω]) (St.ex (h.put_pure hd hhp χ))
 |extract x i =>
  simp only[cS]at hr;obtain⟨sv,hr2,hv⟩:=iU hr h;obtain⟨hhp,v,ω,χ⟩:=Y3 (w:=w) hr2 hv;exact cH (v:=v) (by simp[execOp,ω]) (St.ex (h.put_pure hd hhp χ))
 |call c =>
  obtain⟨callee,args,argTypes⟩:=c;simp only[cS]at hr;split at hr
  ·rename_i f
   obtain⟨fv,hr2,hfv⟩:=iU hr h;obtain⟨svs,hr3,h1,h2⟩:=j9 h _ _ _ hr2;have hvs:∀(i:Nat) (sv:SV),svs[i]?=some sv->∃v,(args.map a.eval).toList[i]?=some v/\aw C.P (σ.env C.wF mu) sv v:=fun i sv hi=>by
    obtain⟨x,h3,h4⟩:=h2 i sv hi;have h3':args[i]?=some x:=by simpa using h3
    exact⟨a.eval x,by simp[h3'],h4⟩
   have hvl:(args.map a.eval).toList.length=svs.length:=by rw[h1];simp
   unfold OQ at hr3;split at hr3
   ·rename_i g
    obtain⟨arr,hga,harr⟩:=hfv;have harr0:arr=#[]:=DP harr.1
    subst harr0;have main:((∃fn,C.P.funcs[g]?=some fn/\fn.body.isSome=true/\(fn.name == "runtime.NumGoroutine")=false) /\
      Calls C.P g (args.map a.eval).toList.toArray w fun e w'=>∃v,e=.returned v/\ay C (σ.app dst eff) (a.put dst v) w'):=by
     split at hr3
     ·rename_i hmv
      exact af0 hΓ hmv hr3 hob h hvl hvs hd
     ·split at hr3
      ·rename_i ge hge
       exact af1 hΓ hge hr3 hob h hvl hvs hd
      split at hr3
      ·rename_i hso
       exact ae8 hΓ hso hr3 hob h hvl hvs hd
      split at hr3
      ·rename_i hdf
       exact ae9 hΓ hdf hr3 hob h hvl hvs hd
      split at hr3
      ·rename_i hsr
       exact ag7 hΓ hsr hr3 hob h hvl hvs hd
      split at hr3
      ·exact af7 hΓ hr3 hob h hvl hvs hd
      split at hr3
      ·rename_i rads rpre rret hro
       exact ae2 hΓ hro hr3 hob h hvl hvs hd
      split at hr3
      ·rename_i o ver i rest
       split at hr3
       ·obtain⟨v0,h5,h6⟩:=hvs 0 _ rfl
        cases hv:(args.map a.eval).toList with
        |nil=>rw[hv]at h5;simp at h5
        |cons x vs =>
         rw[hv]at h5 hvl hvs;simp at h5
         subst h5;exact ae4 hΓ hr3 hob h h6 (by simpa using hvl) (fun j sv hj=>by
          obtain⟨u,h7,h8⟩:=hvs (j+1) sv (by simpa using hj)
          exact⟨u,by simpa using h7,h8⟩) hd
       ·split at hr3
        ·split at hr3
         ·rename_i o' ver' j
          split at hr3
          ·rename_i hb1 hb2
           have hb1:=AX hb1
           have hb2:=AX hb2
           subst hb1;subst hb2;obtain⟨v0,e0,r0⟩:=hvs 0 _ rfl;obtain⟨v1,e1,r1⟩:=hvs 1 _ rfl;have hvs':(args.map a.eval).toList=[v0,v1]:=by
            match(args.map a.eval).toList,hvl,e0,e1 with
            | [x,y],_,e0,e1=>simp at e0 e1;subst e0;subst e1;rfl
           rw[hvs'];exact af8 hΓ hr3 hob h r0 r1 hd
          ·exact ke hΓ hr3 hob h hvl hvs hd
         ·exact ke hΓ hr3 hob h hvl hvs hd
        ·exact ke hΓ hr3 hob h hvl hvs hd
      ·rename_i o ver p rest
       split at hr3
       ·obtain⟨v0,h5,h6⟩:=hvs 0 _ rfl
        cases hv:(args.map a.eval).toList with
        |nil=>rw[hv]at h5;simp at h5
        |cons x vs =>
         rw[hv]at h5 hvl hvs;simp at h5
         subst h5;exact ae5 hΓ hr3 hob h h6 (by simpa using hvl) (fun j sv hj=>by
          obtain⟨u,h7,h8⟩:=hvs (j+1) sv (by simpa using hj)
          exact⟨u,by simpa using h7,h8⟩) hd
       ·exact ke hΓ hr3 hob h hvl hvs hd
      ·rename_i o off n rest
       split at hr3
       ·obtain⟨v0,h5,h6⟩:=hvs 0 _ rfl
        cases hv:(args.map a.eval).toList with
        |nil=>rw[hv]at h5;simp at h5
        |cons x vs =>
         rw[hv]at h5 hvl hvs;simp at h5
         subst h5;exact ae6 hΓ hr3 hob h h6 (by simpa using hvl) (fun j sv hj=>by
          obtain⟨u,h7,h8⟩:=hvs (j+1) sv (by simpa using hj)
          exact⟨u,by simpa using h7,h8⟩) hd
       ·exact ke hΓ hr3 hob h hvl hvs hd
      ·rename_i o rest
       split at hr3
       ·obtain⟨v0,h5,h6⟩:=hvs 0 _ rfl
        cases hv:(args.map a.eval).toList with
        |nil=>rw[hv]at h5;simp at h5
        |cons x vs =>
         rw[hv]at h5 hvl hvs;simp at h5
         subst h5;exact af5 hΓ hr3 hob h h6 (by simpa using hvl) (fun j sv hj=>by
          obtain⟨u,h7,h8⟩:=hvs (j+1) sv (by simpa using hj)
          exact⟨u,by simpa using h7,h8⟩) hd
       ·exact ke hΓ hr3 hob h hvl hvs hd
      ·rename_i hnst
       clear hnst;rename_i k0 n0 o ver i rest hx;split at hr3
       ·obtain⟨u0,h3,h4⟩:=hvs 0 _ rfl
        obtain⟨v0,h5,h6⟩:=hvs 1 _ rfl;have h4:u0=.int k0 n0:=h4
        cases hv:(args.map a.eval).toList with
        |nil=>rw[hv]at h5;simp at h5
        |cons x vs =>
         cases vs with
         |nil=>rw[hv]at h5;simp at h5
         |cons y vs =>
          rw[hv]at h3 h5 hvl hvs;simp at h3 h5
          subst h3;subst h4;subst h5;exact ae7 hΓ hr3 hob h h6 (by simpa using hvl) (fun j sv hj=>by
           obtain⟨u,h7,h8⟩:=hvs (j+2) sv (by simpa using hj)
           exact⟨u,by simpa using h7,h8⟩) hd
       ·exact ke hΓ hr3 hob h hvl hvs hd
      ·split at hr3
       ·rename_i hnm
        exact ae0 hΓ hnm hr3 hob h hvl hvs hd
       ·exact ke hΓ hr3 hob h hvl hvs hd
    obtain⟨⟨fn,k1,k2,k3⟩,hcalls⟩:=main;refine xA (f:=g) (args:=args.map a.eval) ?_ ?_
    ·simp[execOp,resolve,hga,Deferred.ofValue,invoke,rB k1 k2 k3]
    ·have:(args.map a.eval).toList.toArray=args.map a.eval:=DQ ..
     rw[this]at hcalls;exact hcalls
   ·rename_i o F
    obtain⟨g,caps,hga,⟨fn,k1,k2,k3⟩,hcalls⟩:=af6 hr3 hob h hfv hvl hvs hd;refine xA (f:=g) (args:=args.map a.eval++caps) ?_ ?_
    ·simp[execOp,resolve,hga,Deferred.ofValue,invoke,rB k1 k2 k3]
    ·rw[DQ]at hcalls
     exact hcalls
   ·rename_i g c0 cs0
    obtain⟨arr,hga,hasz,harr⟩:=hfv;obtain⟨⟨fn,k1,k2,k3⟩,hcalls⟩:=ke hΓ hr3 hob h (vs:=(args.map a.eval).toList++arr.toList) (by simp only[Al,hvl,Ae,DG,hasz]) (fun i sv hi=>by
     by_cases ψ:i<svs.length
     ·rw[Am ψ]at hi
      obtain⟨v,h5,h6⟩:=hvs i sv hi;exact⟨v,by rw[Am (by rw[hvl];exact ψ)];exact h5,h6⟩
     ·rw[Aq (by omega),Aj]at hi
      cases hc:(c0::cs0)[i-svs.length]? with
      |none=>rw[hc]at hi;cases hi
      |some c =>
       rw[hc]at hi;simp at hi
       subst hi;obtain⟨u,h5,_,h6⟩:=harr _ c hc;refine⟨u,?_,h6⟩
       rw[Aq (by rw[hvl];omega),hvl]
       simpa using h5) hd
    refine xA (f:=g) (args:=args.map a.eval++arr) ?_ ?_
    ·simp[execOp,resolve,hga,Deferred.ofValue,invoke,rB k1 k2 k3]
    ·have:((args.map a.eval).toList++arr.toList).toArray=args.map a.eval++arr:=by apply Aw;simp
     rw[this]at hcalls;exact hcalls
   ·rename_i F
    split at hr3
    ·rename_i cs hcs
     have hw:=rb h [] (by simp)
     obtain⟨hcl,hcr⟩:=Qu (E:=σ.env C.wF mu) (P:=C.P) hcs;obtain⟨ds,hr4,h5,h6⟩:=nu h hw (mt:=[]) (i:=0) cs 0 _ _ _ (fun x c _ y hy=>by simp[bY]at hy) hr3
     split at hr4
     ·rename_i q c hat
      simp only[Rd.run,AC]at hr4;subst hr4;obtain⟨g,caps,fn,hga,k1,k2,k3,k4⟩:=hfv;have k3':(fn.name == "runtime.NumGoroutine")=false:=by simpa using k3
      refine xA (f:=g) (args:=args.map a.eval++caps) ?_ ?_
      ·simp[execOp,resolve,hga,Deferred.ofValue,invoke,rB k1 k2 k3']
      ·have hc:=k4 w (args.map a.eval).toList ds q c (fun p u hp=>(h.cells p u hp).2) hat hob (by rw[hvl,h5,hcl]) (fun i d hi=>by
        obtain⟨c',h7,h8⟩:=h6 i d hi;have ψ:i<svs.length:=by rw[<-hcl];exact(AJ.1 h7).1
        obtain⟨v,h9,h10⟩:=hvs i _ (AF ψ);obtain⟨c2,q1,q2,_,q4⟩:=hcr i _ (AF ψ);rw[h7]at q1;cases q1;obtain⟨q5,q6⟩:=q4 v h10;have q7:=h8 v q6
        exact⟨v,h9,q5,(xo q7).mono (fun p u hp=>(hw.kept p u hp).1)⟩)
       rw[DQ]at hc;refine hc.mono ?_
       rintro e w' ⟨rfl,hb⟩
       refine⟨_,rfl,ah0 h hd hb.1 hb.2 rfl ?_⟩
       exact YW (ac7 hat _)
     ·exact(bad _ hr4).elim
    ·exact(bad _ hr3).elim
   ·split at hr3
    ·split at hr3
     ·rename_i i
      obtain⟨v,h5,h6⟩:=hvs 0 _ rfl;obtain⟨l,hf0,hy⟩:=ag8 hr3 hob h hfv h6 hd;have hvs':args.map a.eval=#[v]:=by
       apply Aw
       show(args.map a.eval).toList=[v]
       generalize (args.map a.eval).toList=L at hvl h5⊢
       match L,hvl,h5 with
       | [x],_,h5=>simp at h5;subst h5;rfl
      refine ag9 (l:=l) (args:=#[v]) ?_ hy
      simp only[execOp,resolve,hf0,Deferred.ofValue,hvs'];simp[invoke]
     ·exact(bad _ hr3).elim
    ·exact(bad _ hr3).elim
   ·exact(bad _ hr3).elim
  ·rename_i b
   have hargs1:∀x,args.toList=[x]->args.map a.eval=#[a.eval x]:=fun x hx=>by
    apply Aw;simp[hx]
   split at hr
   ·split at hr
    ·rename_i x t hx hat
     have hax:=hargs1 x hx
     obtain⟨c,hr2,hc⟩:=cZ hr h;have fin:(∀ty,eff.hp=[]/\∃v,(Builtin.len_ #[t] ty #[a.eval x]).run C.P w=.ok v w/\aw C.P (σ.env C.wF mu) eff.val v) ->
       ({ dst,op:=.call { callee:=.builtin .len,args,argTypes },type,pos,after,guard }:Oper).wpIn (fnc ro) 0 C.P a w (fun a' w'=>ay C (σ.app dst eff) a' w') Q:=fun hl=>by
      obtain⟨hhp,v,ω,χ⟩:=hl type;refine cH (v:=v) ?_ (St.ex (h.put_pure hd hhp χ))
      have h0:argTypes=#[t]:=by apply Aw;simp[hat]
      simp[execOp,resolve,invoke,builtin,hax,h0,ω]
     split at hr2
     ·split at hr2
      ·rename_i hu
       exact fin fun ty=>O7 (ty:=ty) (e:=0) hr2 (.inr ⟨⟨_,rfl⟩,hu⟩) (fun _=>hu) hc h
      ·exact(bad _ hr2).elim
     ·rename_i hns
      split at hr2
      ·rename_i e he
       exact fin fun ty=>O7 (ty:=ty) (e:=e) hr2 (.inl he) (fun⟨l,hl⟩=>absurd hl (hns l)) hc h
      ·exact(bad _ hr2).elim
    ·exact(bad _ hr).elim
   ·split at hr
    ·rename_i x y t t' hxy htt
     split at hr
     ·rename_i heq
      subst heq;obtain⟨cx,hr2,hcx⟩:=cZ hr h;obtain⟨cy,hr3,hcy⟩:=cZ hr2 h;obtain⟨v,w',ω,hst⟩:=Zz (ty:=type) hr3 hob hcx hcy h hd;refine cH (v:=v) ?_ hst
      have hax:args.map a.eval=#[a.eval x,a.eval y]:=by apply Aw;simp[hxy]
      have hat:argTypes=#[t,t]:=by apply Aw;simp[htt]
      simp[execOp,resolve,invoke,builtin,hax,hat,ω]
     ·split at hr
      ·rename_i kn hkn
       obtain⟨cx,hr2,hcx⟩:=cZ hr h;obtain⟨cy,hr3,hcy⟩:=cZ hr2 h;obtain⟨v,w',ω,hst⟩:=Zm (ty:=type) (Hx hkn) hr3 hob hcx hcy h hd;refine cH (v:=v) ?_ hst
       have hax:args.map a.eval=#[a.eval x,a.eval y]:=by apply Aw;simp[hxy]
       have hat:argTypes=#[t,t']:=by apply Aw;simp[htt]
       simp[execOp,resolve,invoke,builtin,hax,hat,ω]
      ·exact(bad _ hr).elim
    ·exact(bad _ hr).elim
   ·split at hr
    ·rename_i x y hxy
     obtain⟨cx,hr2,hcx⟩:=cZ hr h;obtain⟨cy,hr3,hcy⟩:=cZ hr2 h;obtain⟨hhp,v,ω,χ⟩:=YM (P:=C.P) hr3 hcx hcy argTypes type w;refine cH (v:=v) ?_ (St.ex (h.put_pure hd hhp χ))
     have hax:args.map a.eval=#[a.eval x,a.eval y]:=by apply Aw;simp[hxy]
     simp[execOp,resolve,invoke,builtin,hax,ω]
    ·exact(bad _ hr).elim
   ·split at hr
    ·rename_i x y hxy
     obtain⟨cx,hr2,hcx⟩:=cZ hr h;obtain⟨cy,hr3,hcy⟩:=cZ hr2 h;obtain⟨hhp,v,ω,χ⟩:=YN (P:=C.P) hr3 hcx hcy argTypes type w;refine cH (v:=v) ?_ (St.ex (h.put_pure hd hhp χ))
     have hax:args.map a.eval=#[a.eval x,a.eval y]:=by apply Aw;simp[hxy]
     simp[execOp,resolve,invoke,builtin,hax,ω]
    ·exact(bad _ hr).elim
   ·exact(bad _ hr).elim
  ·exact(bad _ hr).elim
 |_=>simp only[cS]at hr;exact(bad _ hr).elim
end
end Go.Sx
