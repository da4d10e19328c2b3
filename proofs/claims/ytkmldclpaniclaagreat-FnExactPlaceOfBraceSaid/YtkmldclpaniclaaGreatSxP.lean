/- SxP -/
import Derived.Test.YtkmldclpaniclaaGreatSxOv
import Derived.Laws.BytesArg
import Derived.Laws.BytesString
set_option linter.unusedSimpArgs false
set_option linter.unusedVariables false
namespace Go.Sx
open Go.RowKit
section
variable {C:Cx} {σ:State} {mu:Nat->Img} {a:Act} {w w':World}
def dW(ro:Option Nat):Fence:={ Fence.wide with round:=ro }
theorem K6{ro:Option Nat}{n:Nat}{P:Program}{f:FuncId}{args:Array Value}{w:World}{R:Ending->World->Prop}:CallsIn (dW ro) n P f args w R↔Calls P f args w R :=
 callsIn_wide (n:=n) (P:=P) (f:=f) (args:=args) (w:=w) (R:=R)
variable {ro:Option Nat}
theorem cg{P:Program}{o:Oper}{v:Value}{K:Act->World->Prop}{Q:Exit->Act->World->Prop}(hr:(execOp a.eval o).run P w=.ok (.value v) w')(h:K (a.put o.dst v) w')
  (hnd:∀c,o.op≠.defer c:=by intro c hc;cases hc):o.wpIn (dW ro) 0 P a w K Q:=by
 refine⟨fun _ _=>trivial,?_⟩
 rw[Oper.semAt_eq _ _ _ hnd,hr];exact h
theorem K7{P:Program}{o:Oper}{K:Act->World->Prop}{Q:Exit->Act->World->Prop}(hr:(execOp a.eval o).run P w=.ok .skip w')(h:K (a.put o.dst undef) w')
  (hnd:∀c,o.op≠.defer c:=by intro c hc;cases hc):o.wpIn (dW ro) 0 P a w K Q:=by
 refine⟨fun _ _=>trivial,?_⟩
 rw[Oper.semAt_eq _ _ _ hnd,hr];exact h
theorem vg{P:Program}{o:Oper}{f:FuncId}{args:Array Value}{K:Act->World->Prop}{Q:Exit->Act->World->Prop}(hr:(execOp a.eval o).run P w=.ok (.enter f args) w)
  (h:Calls P f args w fun e w'=>∃v,e=.returned v/\K (a.put o.dst v) w')
  (hnd:∀c,o.op≠.defer c:=by intro c hc;cases hc):o.wpIn (dW ro) 0 P a w K Q:=by
 refine⟨fun _ _=>trivial,?_⟩
 rw[Oper.semAt_eq _ _ _ hnd,hr];refine⟨fun h=>(by cases h),K6.2 (Calls.mono h ?_)⟩
 rintro e w' ⟨v,rfl,hk⟩
 exact hk
theorem Vp{P:Program}{o:Oper}{l:Nat}{args:Array Value}{K:Act->World->Prop}{Q:Exit->Act->World->Prop}(hr:(execOp a.eval o).run P w=(Instr.yield l args).run P w)
  (h:YieldAt Fence.wide 0 P l args w fun e w'=>∃v,e=.returned v/\K (a.put o.dst v) w')
  (hnd:∀c,o.op≠.defer c:=by intro c hc;cases hc):o.wpIn (dW ro) 0 P a w K Q:=by
 refine⟨fun _ _=>trivial,?_⟩
 obtain⟨fn,tmps,assign,body,h1,h2⟩:=h;rw[Oper.semAt_eq _ _ _ hnd,hr,h1];refine⟨fun h=>(by cases h),?_⟩
 have h3:RoundIn (dW ro) (0-1) P l fn tmps assign body w _:=h2
 refine h3.mono ?_
 rintro e w' ⟨v,rfl,hk⟩
 exact hk
theorem n8{P:Program}{f:FuncId}{fn:Func}(h1:P.funcs[f]?=some fn)(h2:fn.body.isSome=true)(h3:(fn.name == "runtime.NumGoroutine")=false)(args:Array Value) :
  (callFunc f args).run P w=.ok (.enter f args) w:=by
 have h4:fn.body≠none:=fun hc=>by rw[hc]at h2;cases h2
 have h5:fn.name≠"runtime.NumGoroutine":=by simpa using h3
 simp[callFunc,h1,h4,h5]
theorem K8{E:Env}{P:Program}{svs:List SV}{cs:List SC}(h:em uu svs=some cs) :
  cs.length=svs.length/\∀(i:Nat) (sv:SV),svs[i]?=some sv->∃c,cs[i]?=some c/\sv=.c c/\c.plain=true/\∀v,av P E sv v->v.oneCell'=true/\aj E c v:=by
 obtain⟨h1,h2⟩:=jb h;refine⟨h1,fun i sv hi=>?_⟩
 have hlt:i<cs.length:=by rw[h1];exact(List.getElem?_eq_some_iff.1 hi).1
 obtain⟨x,h3,h4⟩:=h2 i cs[i] (List.getElem?_eq_getElem hlt);have:x=sv:=Option.some.inj (h3.symm.trans hi)
 subst this;unfold uu at h4;split at h4
 ·split at h4
  ·rename_i hp
   cases h4;exact⟨_,List.getElem?_eq_getElem hlt,rfl,hp,fun v hv=>⟨uC hp hv,hv⟩⟩
  ·cases h4
 ·cases h4
theorem Vq(h:St C σ mu a w){dst:Option Nat}(hd:∀d,dst=some d->d<C.N)(hb:Below w.heap.size w w')(hdr:w.drawn<=w'.drawn){e:Eff}(he:e.hp=[]){v:Value}(hrep:av C.P (σ.env C.wF mu) e.val v) :
  ax C (σ.app dst e) (a.put dst v) w':=by
 refine St.ex (mu:=mu) (h.ups hd ⟨hb.os,hdr⟩ hb.tape hb.output hb.size (fun b hlt _=>hb.block b hlt) (fun o _=>rfl) (fun o x ho=>?_) (fun o ob ho=>?_) (fun o o' ob ob' _ ho=>?_) (fun _=>?_))
 ·rw[he]at ho;cases ho
 ·rw[he]at ho;cases ho
 ·rw[he]at ho;cases ho
 ·have hst:(σ.app dst e).ost=σ.ost:=funext fun o=>by simp[State.ost,jd,he,lk]
  have henv:(σ.app dst e).env C.wF mu=σ.env C.wF mu:=by simp[State.env,hst]
  rw[henv];exact hrep
theorem Vr{P:Program}{s t:TypeId}(hst:Ce P s t=true){v:Value}{l:V7}(hrd:f4 w .u8 v l):(convert s t v).run P w=.ok (.string (strOfNums l)) w:=by
 unfold Ce at hst;split at hst
 ·rename_i ht
  split at hst
  ·rename_i e he
   split at hst
   ·rename_i hk
    obtain⟨a,c,rfl,_,hcells⟩:=hrd;have hs:=fP he
    have hu:=Cm hk
    by_cases h0:l.length=0
    ·obtain rfl:=List.eq_nil_of_length_eq_zero h0
     rw[List.length_nil,run_convert_bytes_string w s t e a 0 c hs hu ht];cases a<;>simp[Conv.bytesToString,loadCells]
     all_goals rfl
    ·obtain⟨b,off,rfl,hcell⟩:=hcells (by omega)
     exact run_convert_bytes_arg w s e hs hu b off l.length c l rfl (fun i hi=>by
      obtain⟨u,h1,h2⟩:=hcell i hi;rw[h1,h2]) t ht
   ·cases hst
  ·cases hst
 ·cases hst
theorem Vs{d:Nat}{t:TypeId}{r:Option Operand}{eff:Eff}(hr:(Ch C.P d t r).run σ=some eff)(h:St C σ mu a w){dst:Option Nat}(hd:∀d,dst=some d->d<C.N) :
  ∃v w',(Instr.makeMap t (r.map a.eval)).run C.P w=.ok v w'/\ax C (σ.app dst eff) (a.put dst v) w':=by
 simp[Ch,Rd.run]at hr
theorem Vt{t:TypeId}{cm ck cv:SC}{vm vk vv:Value}{eff:Eff}(hr:(Ci C.P t cm ck cv).run σ=some eff)(hm:aj (σ.env C.wF mu) cm vm)(hk:aj (σ.env C.wF mu) ck vk)(hv:aj (σ.env C.wF mu) cv vv)
  (h:St C σ mu a w) {dst:Option Nat} (hd:∀d,dst=some d->d<C.N) :
  ∃w',(Instr.mapUpdate t vm vk vv).run C.P w=.ok () w'/\ax C (σ.app dst eff) (a.put dst undef) w':=by
 simp[Ci,Rd.run]at hr
theorem Vu{t:TypeId}{ok:Bool}{cm ck:SC}{vm vk:Value}{eff:Eff}(hr:(Cj C.P t ok cm ck).run σ=some eff)(hm:aj (σ.env C.wF mu) cm vm)(hk:aj (σ.env C.wF mu) ck vk)(h:St C σ mu a w) :
  eff.hp=[]/\∃v,(Instr.lookup t vm vk ok).run C.P w=.ok v w/\av C.P (σ.env C.wF mu) eff.val v:=by
 simp[Cj,Rd.run]at hr
theorem Vv{Γ:FuncId->Option Ctr}(hΓ:cZ C.P Γ){wr:Nat->Bool}{o:Oper}{eff:Eff}(hr:(cB C.P Γ wr o).run σ=some eff)(hob:eff.obl)(h:St C σ mu a w)(hd:∀d,o.dst=some d->d<C.N)
  (Q:Exit->Act->World->Prop):o.wpIn (dW ro) 0 C.P a w (fun a' w'=>ax C (σ.app o.dst eff) a' w') Q:=by
 obtain⟨dst,op,type,pos,after,guard⟩:=o;simp only at hd;have bad:∀x,(Rd.fail:Rd Eff).run σ=some x->False:=fun x hx=>by simp[Rd.run]at hx
 have keep:∀{sv:SV} {x:Operand},av C.P (σ.env C.wF mu) sv (a.eval x)->ax C (σ.app dst ⟨sv,[],none⟩) (a.put dst (a.eval x)) w:=fun hv=>(St.ex (h.put_pure hd rfl hv))
 cases op with
 |move x =>
  simp only[cB]at hr;obtain⟨sv,hr2,hv⟩:=g4 hr h;simp only[Rd.run,Option.some.injEq]at hr2;subst hr2;exact cg (v:=a.eval x) (by simp[execOp]) (keep hv)
 |assign x =>
  simp only[cB]at hr;split at hr
  ·simp only[Rd.run,Option.some.injEq]at hr
   subst hr;exact cg (v:=a.eval x) (by simp[execOp]) (keep (sv:=.c .any) trivial)
  obtain⟨sv,hr2,hv⟩:=g4 hr h;simp only[Rd.run,Option.some.injEq]at hr2;subst hr2;exact cg (v:=a.eval x) (by simp[execOp]) (keep hv)
 |nilCheck x =>
  simp only[cB]at hr;obtain⟨c,hr2,hc⟩:=cG hr h;split at hr2
  ·rename_i o i
   obtain⟨ob,ho,hr3⟩:=aX hr2;obtain⟨hnf,hr3⟩:=lV hr3;simp only[Rd.run,aI,Option.some.injEq]at hr3;subst hr3;obtain⟨_,b,_,hv⟩:=aN ho hc;exact cg (v:=a.eval x) (by simp[execOp,hv]) (keep (sv:=.c (.ptr o i)) hc)
  ·rename_i cs i
   simp only[Rd.run,aI,Option.some.injEq]at hr2;subst hr2;obtain⟨b,off,hv,hc2⟩:=hc;exact cg (v:=a.eval x) (by simp[execOp,hv]) (keep (sv:=.c (.rob cs i)) ⟨b,off,hv,hc2⟩)
  ·exact(bad _ hr2).elim
 |pick c x y =>
  simp only[cB]at hr;obtain⟨cc,hr2,hc⟩:=cG hr h;split at hr2
  ·simp only[aj]at hc
   obtain⟨sv,hr3,hv⟩:=g4 hr2 h;simp only[Rd.run,Option.some.injEq]at hr3;subst hr3;exact cg (v:=a.eval x) (by simp[execOp,hc,asBool]) (keep hv)
  ·simp only[aj]at hc
   obtain⟨sv,hr3,hv⟩:=g4 hr2 h;simp only[Rd.run,Option.some.injEq]at hr3;subst hr3;exact cg (v:=a.eval y) (by simp[execOp,hc,asBool]) (keep hv)
  ·exact(bad _ hr2).elim
 |alloc t =>
  simp only[cB]at hr;obtain⟨v,w',hrun,hst⟩:=Tt hr h hd;exact cg (v:=v) (by simp[execOp,hrun]) hst
 |box t x =>
  simp only[cB]at hr;obtain⟨sv,hr2,hv⟩:=g4 hr h;obtain⟨v,w',hrun,hst⟩:=Tu (t:=t) hr2 hv h hd;exact cg (v:=v) (by simp[execOp,hrun]) hst
 |build t parts =>
  simp only[cB]at hr;obtain⟨hhp,v,hrun,hrep⟩:=T9 hr h;exact cg (v:=v) (by simp[execOp,hrun]) (St.ex (h.put_pure hd hhp hrep))
 |buildSlice t n parts =>
  simp only[cB]at hr;split at hr
  ·obtain⟨v,w',hrun,hst⟩:=Uh hr h hd
   exact cg (v:=v) (by simp[execOp,hrun]) hst
  split at hr
  ·obtain⟨v,w',hrun,hst⟩:=Ug hr h hd
   exact cg (v:=v) (by simp[execOp,hrun]) hst
  split at hr
  ·obtain⟨v,w',hrun,hst⟩:=Ud hr h hd
   exact cg (v:=v) (by simp[execOp,hrun]) hst
  ·obtain⟨v,w',hrun,hst⟩:=Ua hr h hd
   exact cg (v:=v) (by simp[execOp,hrun]) hst
 |load t x =>
  simp only[cB]at hr;split at hr
  ·obtain⟨c,hr2,hc⟩:=cG hr h
   obtain⟨v,hrun,hst⟩:=UW hr2 hob hc h hd;exact cg (v:=v) (by simp[execOp,hrun]) hst
  ·obtain⟨c,hr2,hc⟩:=cG hr h
   obtain⟨hhp,v,hrun,hrep⟩:=JF hr2 hc h;exact cg (v:=v) (by simp[execOp,hrun]) (St.ex (h.put_pure hd hhp hrep))
 |store t x y =>
  simp only[cB]at hr;obtain⟨c,hr2,hc⟩:=cG hr h;obtain⟨sv,hr3,hv⟩:=g4 hr2 h;obtain⟨w',hrun,hst⟩:=T5 hr3 hob hc hv h hd;exact K7 (by simp[execOp,hrun]) hst
 |binOp op t x y t' =>
  simp only[cB]at hr;obtain⟨cx,hr2,hcx⟩:=cG hr h;obtain⟨cy,hr3,hcy⟩:=cG hr2 h;obtain⟨hhp,v,hrun,hrep⟩:=Tb hr3 hob hcx hcy x y w;exact cg (v:=v) (by simp only[execOp];rw[Sem.run_bind,hrun];rfl) (St.ex (h.put_pure hd hhp hrep))
 |unOp op t x =>
  simp only[cB]at hr;obtain⟨cx,hr2,hcx⟩:=cG hr h;obtain⟨hhp,v,hrun,hrep⟩:=Tc hr2 hob hcx w;exact cg (v:=v) (by simp[execOp,hrun]) (St.ex (h.put_pure hd hhp hrep))
 |convert s t x =>
  simp only[cB]at hr;obtain⟨cx,hr2,hcx⟩:=cG hr h;split at hr2
  ·rename_i hst
   have hw:=nW h [] (by simp)
   obtain⟨d,hr3,hread⟩:=uR h hw (fun d hd w=>nX hd w) hr2
   split at hr3
   ·rename_i l
    simp only[Rd.run,Option.some.injEq]at hr3;subst hr3;have hrd:=(hread _ hcx).2
    have hrd:=f4.mono (fun p u hp=>(hw.kept p u hp).1) hrd
    exact cg (v:=.string (strOfNums l)) (by simp[execOp,Vr hst hrd]) (St.ex (h.put_pure hd rfl rfl))
   ·exact(bad _ hr3).elim
  ·obtain⟨hhp,v,hrun,hrep⟩:=Td hr2 hob hcx w
   exact cg (v:=v) (by simp[execOp,hrun]) (St.ex (h.put_pure hd hhp hrep))
 |makeFunc fn first caps =>
  simp only[cB]at hr;split at hr
  ·rename_i f
   split at hr
   ·rename_i hf
    obtain⟨svs,hr2,h1,h2⟩:=jf h _ _ _ hr;split at hr2
    ·rename_i cs hcs
     simp only[Rd.run,Option.some.injEq]at hr2;subst hr2;obtain⟨h3,h4⟩:=K8 (P:=C.P) (E:=σ.env C.wF mu) hcs;have hfe:first=#[]:=by simpa using hf
     refine cg (v:=.func (.func f) #[] (caps.map a.eval)) (by simp[execOp,Instr.makeFunc,hfe]) (St.ex (h.put_pure hd rfl ⟨_,rfl,by rw[h3,h1];simp,fun i c hi=>?_⟩))
     have hlt:i<svs.length:=by rw[<-h3];exact(List.getElem?_eq_some_iff.1 hi).1
     obtain⟨c',h5,h6,h7,h8⟩:=h4 i svs[i] (List.getElem?_eq_getElem hlt);have:c'=c:=Option.some.inj (h5.symm.trans hi)
     subst this;obtain⟨x,h9,h10⟩:=h2 i svs[i] (List.getElem?_eq_getElem hlt);obtain⟨h11,h12⟩:=h8 _ h10;have h9':caps[i]?=some x:=by simpa using h9
     exact⟨a.eval x,by simp[h9'],h11,h12⟩
    ·exact(bad _ hr2).elim
   ·exact(bad _ hr).elim
  ·exact(bad _ hr).elim
 |makeMap t r =>
  simp only[cB]at hr;obtain⟨v,w',hrun,hst⟩:=Vs hr h hd;exact cg (v:=v) (by simp[execOp,hrun]) hst
 |mapUpdate t m k v =>
  simp only[cB]at hr;obtain⟨cm,hr2,hm⟩:=cG hr h;obtain⟨ck,hr3,hk⟩:=cG hr2 h;obtain⟨cv,hr4,hv⟩:=cG hr3 h;obtain⟨w',hrun,hst⟩:=Vt hr4 hm hk hv h hd;exact K7 (by simp[execOp,hrun]) hst
 |lookup t m k ok =>
  simp only[cB]at hr;obtain⟨cm,hr2,hm⟩:=cG hr h;obtain⟨ck,hr3,hk⟩:=cG hr2 h;obtain⟨hhp,v,hrun,hrep⟩:=Vu hr3 hm hk h;exact cg (v:=v) (by simp[execOp,hrun]) (St.ex (h.put_pure hd hhp hrep))
 |makeSlice t l c =>
  simp only[cB]at hr;obtain⟨cl,hr2,hcl⟩:=cG hr h;obtain⟨cc,hr3,hcc⟩:=cG hr2 h;obtain⟨v,w',hrun,hst⟩:=Tx hr3 hob hcl hcc h hd;exact cg (v:=v) (by simp[execOp,hrun]) hst
 |slice t x lo hi mx =>
  simp only[cB]at hr;split at hr
  ·split at hr
   ·obtain⟨c,hr2,hc⟩:=cG hr h
    obtain⟨v,w',hrun,hst⟩:=TV hr2 hob hc h hd;exact cg (v:=v) (by simp[execOp,hrun]) hst
   obtain⟨c,hr2,hc⟩:=cG hr h;obtain⟨v,w',hrun,hst⟩:=TR hr2 hob hc h hd;exact cg (v:=v) (by simp[execOp,hrun]) hst
  ·rename_i m
   split at hr
   ·rename_i hemp
    split at hr
    ·rename_i e he
     split at hr
     ·rename_i n hsz
      obtain⟨c,hr2,hc⟩:=cG hr h;have hw:=nW h [] (by simp)
      obtain⟨d,hr3,hread⟩:=uR h hw (fun d hd w=>nX hd w) hr2
      have hform:eff=⟨.c .emp,[],none⟩/\∃x' len cap,a.eval x=.slice x' len cap:=by
       have hrd:=(hread _ hc).2
       split at hr3
       ·simp only[Rd.run,Option.some.injEq]at hr3
        obtain⟨x1,cap,hv,_⟩:=hrd;exact⟨hr3.symm,_,_,_,hv⟩
       ·simp only[Rd.run,Option.some.injEq]at hr3
        obtain⟨x1,cap,hv,_⟩:=hrd;exact⟨hr3.symm,_,_,_,hv⟩
       ·simp only[Rd.run,Option.some.injEq]at hr3
        obtain⟨x1,cap,hv,_⟩:=hrd;exact⟨hr3.symm,_,_,_,hv⟩
       ·exact(bad _ hr3).elim
      obtain⟨rfl,x0,len,cap,hv⟩:=hform;have hops:lo=none/\hi=some (.const (.int .i64 0))/\m=.const (.int .i64 0):=by
       unfold Jy at hemp;split at hemp
       ·exact⟨rfl,rfl,rfl⟩
       ·cases hemp
      obtain⟨rfl,rfl,rfl⟩:=hops;have hu:=run_underlying (fP he)
      have hs2:=fO hsz
      refine cg (v:=.slice x0 0 0) ?_ (St.ex (h.put_pure hd rfl ⟨x0,rfl⟩))
      have hc0:a.eval (.const (.int .i64 0))=.int .i64 0:=rfl
      simp[execOp,hv,hc0,Instr.sliceAt,Instr.slice,Instr.sliceBounds,Instr.sliceBound,hu,hs2,asIntOf]
     ·exact(bad _ hr).elim
    ·exact(bad _ hr).elim
   ·exact(bad _ hr).elim
 |fieldAddr s x f =>
  simp only[cB]at hr;obtain⟨c,hr2,hc⟩:=cG hr h;obtain⟨hhp,v,hrun,hrep⟩:=Ti (w:=w) hr2 hob hc h;exact cg (v:=v) (by simp[execOp,hrun]) (St.ex (h.put_pure hd hhp hrep))
 |field s x f =>
  simp only[cB]at hr;obtain⟨sv,hr2,hv⟩:=g4 hr h;obtain⟨hhp,v,hrun,hrep⟩:=Tj (w:=w) hr2 hv;exact cg (v:=v) (by simp[execOp,hrun]) (St.ex (h.put_pure hd hhp hrep))
 |indexAddr t x i =>
  simp only[cB]at hr;obtain⟨c,hr2,hc⟩:=cG hr h;obtain⟨ci,hr3,hci⟩:=cG hr2 h;obtain⟨hhp,v,hrun,hrep⟩:=Tl hr3 hob hc hci h;exact cg (v:=v) (by simp[execOp,hrun]) (St.ex (h.put_pure hd hhp hrep))
 |index t x i =>
  simp only[cB]at hr;obtain⟨c,hr2,hc⟩:=cG hr h;obtain⟨ci,hr3,hci⟩:=cG hr2 h;obtain⟨hhp,v,hrun,hrep⟩:=To (w:=w) hr3 hob hc hci;exact cg (v:=v) (by simp[execOp,hrun]) (St.ex (h.put_pure hd hhp hrep))
 |extract x i =>
  simp only[cB]at hr;obtain⟨sv,hr2,hv⟩:=g4 hr h;obtain⟨hhp,v,hrun,hrep⟩:=Tn (w:=w) hr2 hv;exact cg (v:=v) (by simp[execOp,hrun]) (St.ex (h.put_pure hd hhp hrep))
 |call c =>
  obtain⟨callee,args,argTypes⟩:=c;simp only[cB]at hr;split at hr
  ·rename_i f
   obtain⟨fv,hr2,hfv⟩:=g4 hr h;obtain⟨svs,hr3,h1,h2⟩:=jf h _ _ _ hr2;have hvs:∀(i:Nat) (sv:SV),svs[i]?=some sv->∃v,(args.map a.eval).toList[i]?=some v/\av C.P (σ.env C.wF mu) sv v:=fun i sv hi=>by
    obtain⟨x,h3,h4⟩:=h2 i sv hi;have h3':args[i]?=some x:=by simpa using h3
    exact⟨a.eval x,by simp[h3'],h4⟩
   have hvl:(args.map a.eval).toList.length=svs.length:=by rw[h1];simp
   unfold Jx at hr3;split at hr3
   ·rename_i g
    obtain⟨arr,hga,harr⟩:=hfv;have harr0:arr=#[]:=Array.eq_empty_of_size_eq_zero harr.1
    subst harr0;have main:((∃fn,C.P.funcs[g]?=some fn/\fn.body.isSome=true/\(fn.name == "runtime.NumGoroutine")=false) /\
      Calls C.P g (args.map a.eval).toList.toArray w fun e w'=>∃v,e=.returned v/\ax C (σ.app dst eff) (a.put dst v) w'):=by
     split at hr3
     ·rename_i hmv
      exact U7 hΓ hmv hr3 hob h hvl hvs hd
     ·split at hr3
      ·rename_i ge hge
       exact U8 hΓ hge hr3 hob h hvl hvs hd
      split at hr3
      ·rename_i hso
       exact U5 hΓ hso hr3 hob h hvl hvs hd
      split at hr3
      ·rename_i hdf
       exact U6 hΓ hdf hr3 hob h hvl hvs hd
      split at hr3
      ·rename_i hsr
       exact Vn hΓ hsr hr3 hob h hvl hvs hd
      split at hr3
      ·exact Vd hΓ hr3 hob h hvl hvs hd
      split at hr3
      ·rename_i rads rpre rret hro
       exact U0 hΓ hro hr3 hob h hvl hvs hd
      split at hr3
      ·rename_i o ver i rest
       split at hr3
       ·obtain⟨v0,h5,h6⟩:=hvs 0 _ rfl
        cases hv:(args.map a.eval).toList with
        |nil=>rw[hv]at h5;simp at h5
        |cons x vs =>
         rw[hv]at h5 hvl hvs;simp at h5
         subst h5;exact U1 hΓ hr3 hob h h6 (by simpa using hvl) (fun j sv hj=>by
          obtain⟨u,h7,h8⟩:=hvs (j+1) sv (by simpa using hj)
          exact⟨u,by simpa using h7,h8⟩) hd
       ·split at hr3
        ·split at hr3
         ·rename_i o' ver' j
          split at hr3
          ·rename_i hb1 hb2
           have hb1:=Nat.eq_of_beq_eq_true hb1
           have hb2:=Nat.eq_of_beq_eq_true hb2
           subst hb1;subst hb2;obtain⟨v0,e0,r0⟩:=hvs 0 _ rfl;obtain⟨v1,e1,r1⟩:=hvs 1 _ rfl;have hvs':(args.map a.eval).toList=[v0,v1]:=by
            match(args.map a.eval).toList,hvl,e0,e1 with
            | [x,y],_,e0,e1=>simp at e0 e1;subst e0;subst e1;rfl
           rw[hvs'];exact Ve hΓ hr3 hob h r0 r1 hd
          ·exact jh hΓ hr3 hob h hvl hvs hd
         ·exact jh hΓ hr3 hob h hvl hvs hd
        ·exact jh hΓ hr3 hob h hvl hvs hd
      ·rename_i o ver p rest
       split at hr3
       ·obtain⟨v0,h5,h6⟩:=hvs 0 _ rfl
        cases hv:(args.map a.eval).toList with
        |nil=>rw[hv]at h5;simp at h5
        |cons x vs =>
         rw[hv]at h5 hvl hvs;simp at h5
         subst h5;exact U2 hΓ hr3 hob h h6 (by simpa using hvl) (fun j sv hj=>by
          obtain⟨u,h7,h8⟩:=hvs (j+1) sv (by simpa using hj)
          exact⟨u,by simpa using h7,h8⟩) hd
       ·exact jh hΓ hr3 hob h hvl hvs hd
      ·rename_i o off n rest
       split at hr3
       ·obtain⟨v0,h5,h6⟩:=hvs 0 _ rfl
        cases hv:(args.map a.eval).toList with
        |nil=>rw[hv]at h5;simp at h5
        |cons x vs =>
         rw[hv]at h5 hvl hvs;simp at h5
         subst h5;exact U3 hΓ hr3 hob h h6 (by simpa using hvl) (fun j sv hj=>by
          obtain⟨u,h7,h8⟩:=hvs (j+1) sv (by simpa using hj)
          exact⟨u,by simpa using h7,h8⟩) hd
       ·exact jh hΓ hr3 hob h hvl hvs hd
      ·rename_i o rest
       split at hr3
       ·obtain⟨v0,h5,h6⟩:=hvs 0 _ rfl
        cases hv:(args.map a.eval).toList with
        |nil=>rw[hv]at h5;simp at h5
        |cons x vs =>
         rw[hv]at h5 hvl hvs;simp at h5
         subst h5;exact Vb hΓ hr3 hob h h6 (by simpa using hvl) (fun j sv hj=>by
          obtain⟨u,h7,h8⟩:=hvs (j+1) sv (by simpa using hj)
          exact⟨u,by simpa using h7,h8⟩) hd
       ·exact jh hΓ hr3 hob h hvl hvs hd
      ·rename_i hnst
       clear hnst;rename_i k0 n0 o ver i rest hx;split at hr3
       ·obtain⟨u0,h3,h4⟩:=hvs 0 _ rfl
        obtain⟨v0,h5,h6⟩:=hvs 1 _ rfl;have h4:u0=.int k0 n0:=h4
        cases hv:(args.map a.eval).toList with
        |nil=>rw[hv]at h5;simp at h5
        |cons x vs =>
         cases vs with
         |nil=>rw[hv]at h5;simp at h5
         |cons y vs =>
          rw[hv]at h3 h5 hvl hvs;simp at h3 h5
          subst h3;subst h4;subst h5;exact U4 hΓ hr3 hob h h6 (by simpa using hvl) (fun j sv hj=>by
           obtain⟨u,h7,h8⟩:=hvs (j+2) sv (by simpa using hj)
           exact⟨u,by simpa using h7,h8⟩) hd
       ·exact jh hΓ hr3 hob h hvl hvs hd
      ·split at hr3
       ·rename_i hnm
        exact UY hΓ hnm hr3 hob h hvl hvs hd
       ·exact jh hΓ hr3 hob h hvl hvs hd
    obtain⟨⟨fn,k1,k2,k3⟩,hcalls⟩:=main;refine vg (f:=g) (args:=args.map a.eval) ?_ ?_
    ·simp[execOp,resolve,hga,Deferred.ofValue,invoke,n8 k1 k2 k3]
    ·have:(args.map a.eval).toList.toArray=args.map a.eval:=Array.toArray_toList ..
     rw[this]at hcalls;exact hcalls
   ·rename_i o F
    obtain⟨g,caps,hga,⟨fn,k1,k2,k3⟩,hcalls⟩:=Vc hr3 hob h hfv hvl hvs hd;refine vg (f:=g) (args:=args.map a.eval++caps) ?_ ?_
    ·simp[execOp,resolve,hga,Deferred.ofValue,invoke,n8 k1 k2 k3]
    ·rw[Array.toArray_toList]at hcalls
     exact hcalls
   ·rename_i g c0 cs0
    obtain⟨arr,hga,hasz,harr⟩:=hfv;obtain⟨⟨fn,k1,k2,k3⟩,hcalls⟩:=jh hΓ hr3 hob h (vs:=(args.map a.eval).toList++arr.toList) (by simp only[List.length_append,hvl,List.length_map,Array.length_toList,hasz]) (fun i sv hi=>by
     by_cases hlt:i<svs.length
     ·rw[List.getElem?_append_left hlt]at hi
      obtain⟨v,h5,h6⟩:=hvs i sv hi;exact⟨v,by rw[List.getElem?_append_left (by rw[hvl];exact hlt)];exact h5,h6⟩
     ·rw[List.getElem?_append_right (by omega),List.getElem?_map]at hi
      cases hc:(c0::cs0)[i-svs.length]? with
      |none=>rw[hc]at hi;cases hi
      |some c =>
       rw[hc]at hi;simp at hi
       subst hi;obtain⟨u,h5,_,h6⟩:=harr _ c hc;refine⟨u,?_,h6⟩
       rw[List.getElem?_append_right (by rw[hvl];omega),hvl]
       simpa using h5) hd
    refine vg (f:=g) (args:=args.map a.eval++arr) ?_ ?_
    ·simp[execOp,resolve,hga,Deferred.ofValue,invoke,n8 k1 k2 k3]
    ·have:((args.map a.eval).toList++arr.toList).toArray=args.map a.eval++arr:=by apply Array.ext';simp
     rw[this]at hcalls;exact hcalls
   ·rename_i F
    split at hr3
    ·rename_i cs hcs
     have hw:=nW h [] (by simp)
     obtain⟨hcl,hcr⟩:=K8 (E:=σ.env C.wF mu) (P:=C.P) hcs;obtain⟨ds,hr4,h5,h6⟩:=nY h hw (mt:=[]) (i:=0) cs 0 _ _ _ (fun x c _ y hy=>by simp[bP]at hy) hr3
     split at hr4
     ·rename_i q c hat
      simp only[Rd.run,Option.some.injEq]at hr4;subst hr4;obtain⟨g,caps,fn,hga,k1,k2,k3,k4⟩:=hfv;have k3':(fn.name == "runtime.NumGoroutine")=false:=by simpa using k3
      refine vg (f:=g) (args:=args.map a.eval++caps) ?_ ?_
      ·simp[execOp,resolve,hga,Deferred.ofValue,invoke,n8 k1 k2 k3']
      ·have hc:=k4 w (args.map a.eval).toList ds q c (fun p u hp=>(h.cells p u hp).2) hat hob (by rw[hvl,h5,hcl]) (fun i d hi=>by
        obtain⟨c',h7,h8⟩:=h6 i d hi;have hlt:i<svs.length:=by rw[<-hcl];exact(List.getElem?_eq_some_iff.1 h7).1
        obtain⟨v,h9,h10⟩:=hvs i _ (List.getElem?_eq_getElem hlt);obtain⟨c2,q1,q2,_,q4⟩:=hcr i _ (List.getElem?_eq_getElem hlt);rw[h7]at q1;cases q1;obtain⟨q5,q6⟩:=q4 v h10;have q7:=h8 v q6
        exact⟨v,h9,q5,(De q7).mono (fun p u hp=>(hw.kept p u hp).1)⟩)
       rw[Array.toArray_toList]at hc;refine hc.mono ?_
       rintro e w' ⟨rfl,hb⟩
       refine⟨_,rfl,Vq h hd hb.1 hb.2 rfl ?_⟩
       show aj _ c (tO c)
       exact UM hat _
     ·exact(bad _ hr4).elim
    ·exact(bad _ hr3).elim
   ·split at hr3
    ·split at hr3
     ·rename_i i
      obtain⟨v,h5,h6⟩:=hvs 0 _ rfl;obtain⟨l,hf0,hy⟩:=Vo hr3 hob h hfv h6 hd;have hvs':args.map a.eval=#[v]:=by
       apply Array.ext'
       show(args.map a.eval).toList=[v]
       generalize (args.map a.eval).toList=L at hvl h5⊢
       match L,hvl,h5 with
       | [x],_,h5=>simp at h5;subst h5;rfl
      refine Vp (l:=l) (args:=#[v]) ?_ hy
      simp only[execOp,resolve,hf0,Deferred.ofValue,hvs'];simp[invoke]
     ·exact(bad _ hr3).elim
    ·exact(bad _ hr3).elim
   ·exact(bad _ hr3).elim
  ·rename_i b
   have hargs1:∀x,args.toList=[x]->args.map a.eval=#[a.eval x]:=fun x hx=>by
    apply Array.ext';simp[hx]
   split at hr
   ·split at hr
    ·rename_i x t hx hat
     have hax:=hargs1 x hx
     obtain⟨c,hr2,hc⟩:=cG hr h;have fin:(∀ty,eff.hp=[]/\∃v,(Builtin.len_ #[t] ty #[a.eval x]).run C.P w=.ok v w/\av C.P (σ.env C.wF mu) eff.val v) ->
       ({ dst,op:=.call { callee:=.builtin .len,args,argTypes },type,pos,after,guard }:Oper).wpIn (dW ro) 0 C.P a w (fun a' w'=>ax C (σ.app dst eff) a' w') Q:=fun hl=>by
      obtain⟨hhp,v,hrun,hrep⟩:=hl type;refine cg (v:=v) ?_ (St.ex (h.put_pure hd hhp hrep))
      have h0:argTypes=#[t]:=by apply Array.ext';simp[hat]
      simp[execOp,resolve,invoke,builtin,hax,h0,hrun]
     split at hr2
     ·split at hr2
      ·rename_i hu
       exact fin fun ty=>JI (ty:=ty) (e:=0) hr2 (.inr ⟨⟨_,rfl⟩,hu⟩) (fun _=>hu) hc h
      ·exact(bad _ hr2).elim
     ·rename_i hns
      split at hr2
      ·rename_i e he
       exact fin fun ty=>JI (ty:=ty) (e:=e) hr2 (.inl he) (fun⟨l,hl⟩=>absurd hl (hns l)) hc h
      ·exact(bad _ hr2).elim
    ·exact(bad _ hr).elim
   ·split at hr
    ·rename_i x y t t' hxy htt
     split at hr
     ·rename_i heq
      subst heq;obtain⟨cx,hr2,hcx⟩:=cG hr h;obtain⟨cy,hr3,hcy⟩:=cG hr2 h;obtain⟨v,w',hrun,hst⟩:=TX (ty:=type) hr3 hob hcx hcy h hd;refine cg (v:=v) ?_ hst
      have hax:args.map a.eval=#[a.eval x,a.eval y]:=by apply Array.ext';simp[hxy]
      have hat:argTypes=#[t,t]:=by apply Array.ext';simp[htt]
      simp[execOp,resolve,invoke,builtin,hax,hat,hrun]
     ·split at hr
      ·rename_i kn hkn
       obtain⟨cx,hr2,hcx⟩:=cG hr h;obtain⟨cy,hr3,hcy⟩:=cG hr2 h;obtain⟨v,w',hrun,hst⟩:=TH (ty:=type) (Cm hkn) hr3 hob hcx hcy h hd;refine cg (v:=v) ?_ hst
       have hax:args.map a.eval=#[a.eval x,a.eval y]:=by apply Array.ext';simp[hxy]
       have hat:argTypes=#[t,t']:=by apply Array.ext';simp[htt]
       simp[execOp,resolve,invoke,builtin,hax,hat,hrun]
      ·exact(bad _ hr).elim
    ·exact(bad _ hr).elim
   ·split at hr
    ·rename_i x y hxy
     obtain⟨cx,hr2,hcx⟩:=cG hr h;obtain⟨cy,hr3,hcy⟩:=cG hr2 h;obtain⟨hhp,v,hrun,hrep⟩:=S9 (P:=C.P) hr3 hcx hcy argTypes type w;refine cg (v:=v) ?_ (St.ex (h.put_pure hd hhp hrep))
     have hax:args.map a.eval=#[a.eval x,a.eval y]:=by apply Array.ext';simp[hxy]
     simp[execOp,resolve,invoke,builtin,hax,hrun]
    ·exact(bad _ hr).elim
   ·split at hr
    ·rename_i x y hxy
     obtain⟨cx,hr2,hcx⟩:=cG hr h;obtain⟨cy,hr3,hcy⟩:=cG hr2 h;obtain⟨hhp,v,hrun,hrep⟩:=Ta (P:=C.P) hr3 hcx hcy argTypes type w;refine cg (v:=v) ?_ (St.ex (h.put_pure hd hhp hrep))
     have hax:args.map a.eval=#[a.eval x,a.eval y]:=by apply Array.ext';simp[hxy]
     simp[execOp,resolve,invoke,builtin,hax,hrun]
    ·exact(bad _ hr).elim
   ·exact(bad _ hr).elim
  ·exact(bad _ hr).elim
 |_=>simp only[cB]at hr;exact(bad _ hr).elim
end
end Go.Sx
