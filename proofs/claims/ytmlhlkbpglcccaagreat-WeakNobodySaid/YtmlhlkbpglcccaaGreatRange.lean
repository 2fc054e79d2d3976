/-
 Function values, and ranges over functions, said of heaps. Proves nothing of any one program.
-/
import Derived.Laws.Externs
import Derived.Test.YtmlhlkbpglcccaaGreatOwn
import Derived.Laws.IdiomStrings
import Derived.Shelf.Abstract
import Derived.RangeFuncNested
set_option linter.unusedVariables false
set_option linter.unusedSimpArgs false
namespace Go.Proofs.YtmlhlkbpglcccaaGreat
open Go
variable {ds:List Deferred} {ro:Option Nat}

def kq(fv:Value)(args:Array Value):Sem Next:=do
 let d<-Deferred.ofValue fv args
 invoke d.target d.args
def Back(R:zj)(w:World):Ending->World->Prop:=λe w'=> ∃v,e=.returned v/\Same w w'/\R v w'.heap
def FE(P:Program)(fv:Value)(args:Array Value)(H:zV)(R:zj):Prop:=
 ∃(f:FuncId) (first caps:Array Value),fv=.func (.func f) first caps/\Enters P f/\HC P f (first++args++caps) H R
def YC(P:Program)(fv:Value)(args:Array Value)(H:zV)(R:zj):Prop:=
 ∃l,fv=.func (.yield l) #[] #[]/\ ∀w,w.heap=H-> ∃fn tmps assign body,(Instr.yield l args).run P w=.ok (.round l fn tmps assign body) w/\RoundIn Fence.wide 0 P l fn tmps assign body w (Back R w)
def FC(P:Program)(fv:Value)(args:Array Value)(H:zV)(R:zj):Prop:=FE P fv args H R\/YC P fv args H R
theorem FE.mono{P:Program}{fv:Value}{args:Array Value}{H:zV}{R R':zj}(h:FE P fv args H R)(hr: ∀v H',R v H'->R' v H'):FE P fv args H R':=by
 obtain⟨f,first,caps,hf,he,hc⟩:=h
 exact⟨f,first,caps,hf,he,hc.mono hr⟩
theorem YC.mono{P:Program}{fv:Value}{args:Array Value}{H:zV}{R R':zj}(h:YC P fv args H R)(hr: ∀v H',R v H'->R' v H'):YC P fv args H R':=by
 obtain⟨l,hf,hc⟩:=h
 refine⟨l,hf,λw hw=>?_⟩
 obtain⟨fn,tmps,assign,body,h1,h2⟩:=hc w hw
 exact⟨fn,tmps,assign,body,h1,h2.mono λe w' ⟨v,h3,h4,h5⟩=>⟨v,h3,h4,hr _ _ h5⟩⟩
theorem FC.mono{P:Program}{fv:Value}{args:Array Value}{H:zV}{R R':zj}(h:FC P fv args H R)(hr: ∀v H',R v H'->R' v H'):FC P fv args H R':=
 h.elim (λh=> .inl (h.mono hr)) (λh=> .inr (h.mono hr))
theorem FE.of{P:Program}{f:FuncId}{first caps args:Array Value}{H:zV}{R:zj}(he:Enters P f)(h:HC P f (first++args++caps) H R):FE P (.func (.func f) first caps) args H R:=⟨f,first,caps,rfl,he,h⟩
theorem FE.of2{P:Program}{f:FuncId}{first caps args xs:Array Value}{H:zV}{R:zj}(he:Enters P f)(hE:first++args++caps=xs)(h:HC P f xs H R):FE P (.func (.func f) first caps) args H R:=.of he (hE▸h)
theorem FC.of{P:Program}{f:FuncId}{first caps args:Array Value}{H:zV}{R:zj}(he:Enters P f)(h:HC P f (first++args++caps) H R):FC P (.func (.func f) first caps) args H R:=.inl (.of he h)

theorem nz{P:Program}{f:FuncId}{first caps args:Array Value}{w:World}(he:Enters P f):(kq (.func (.func f) first caps) args).run P w=.ok (.enter f (first++args++caps)) w:=by
 have h:=he (first++args++caps) w
 simpa[kq,Deferred.ofValue,invoke]using h
theorem lb{P:Program}{l:Nat}{args:Array Value}{w:World}:(kq (.func (.yield l) #[] #[]) args).run P w=(Instr.yield l args).run P w:=by
 simp[kq,Deferred.ofValue,invoke]

section
variable {P:Program} {n:Nat} {w0:World} {e e':Env} {H H':zV} {Q:Exit->Act->World->Prop} {K:Act->World->Prop} {c x y:Code}

theorem jg{o:Oper}{a:Act}{w:World}{fv:Value}{args:Array Value}{d:Option Tmp}{R:zj}{K:Act->World->Prop}(hdst:o.dst=d)(hrun:(o.semAt (fen ro).round a.eval).run P w=(kq fv args).run P w)
  (hc:FC P fv args w.heap R) (h: ∀v w',Same w w'->R v w'.heap->K (a.put d v) w'):o.wpIn (fen ro) 0 P a w K Q:=by
 refine⟨λ_ _=>trivial,?_⟩
 rw[hrun]
 subst hdst
 rcases hc with⟨f,first,caps,rfl,he,hc⟩ | ⟨l,rfl,hc⟩
 ·rw[nz he]
  simp only[Oper.uponIn]
  refine⟨λhh=>(by cases hh),CallsIn.mono (show CallsIn (fen ro) _ P f _ w _ from callsIn_wide.2 (hc w rfl)) λen w' ⟨v,hen,hs,hR⟩=>?_⟩
  subst hen
  exact h v w' hs hR
 ·obtain⟨fn,tmps,assign,body,h1,h2⟩:=hc w rfl
  rw[lb,h1]
  simp only[Oper.uponIn]
  refine⟨λhh=>(by cases hh),RoundIn.mono (show RoundIn (fen ro) _ P l fn tmps assign body w _ from h2) λen w' ⟨v,hen,hs,hR⟩=>?_⟩
  subst hen
  exact h v w' hs hR

theorem oc{ops:Array Oper}{i:Nat}(d:Option Tmp)(fv:Value)(args:Array Value)(hx: ∀w,bZ P ops i e w=some (d,(kq fv args).run P w)){R:zj}(hc:FC P fv args H R)
  (h: ∀v H',R v H'-> ∃e',dx n e d v e'/\RegN ro P n ds w0 ops (i+1) e' H' Q):RegN ro P n ds w0 ops i e H Q:=λa w ha hw hs=>by
 obtain⟨o,hd,hwant,hok,hdst,hrun⟩:=eG (hx w)
 rw[hd]
 unfold wpListIn
 rw[ha.wanted hwant]
 simp only[if_true]
 refine jg (ro:=ro) hdst (by rw[ha.sem hok,hrun]) (by rw[hw];exact hc) λv w' hsame hR=>?_
 obtain⟨e',he',hk⟩:=h v _ hR
 exact hk _ _ (ha.putSub he') rfl (hs.trans hsame)
def kr(fn:FuncId)(tm:Array Value)(ps:Array Tmp)(assign body:Code)(D:Nat):LoopState->Option Code->Obj:=λst pe=> .loop {state:=st,pending:=pe,fn,tmps:=tm,params:=ps,assign,body,defers:=D}
def mE(rc:LoopState->Option Code->Obj):Prop:= ∃fn tm ps assign body D,rc=kr fn tm ps assign body D
def gK(e:Env):List Tmp->List Value->Env
 | t::ts,v::vs=>gK ((t,v)::e) ts vs
 | _,_=>e
theorem ia: ∀(ts:List Tmp) (vs:List Value) (e:Env) (tm:Array Value),Agree n ds e {tmps:=tm,defers:=ds}->ts.all (λt=>Nat.blt t n)=true->
  Agree n ds (gK e ts vs) {tmps:=(ts.zip vs).foldl (λtmps p=>tmps.setIfInBounds p.1 p.2) tm,defers:=ds}
 | [],_,e,tm,h,_=>by simpa[gK]using h
 | t::ts,[],e,tm,h,_=>by simpa[gK]using h
 | t::ts,v::vs,e,tm,h,hn=>by
  simp only[List.all_cons,Bool.and_eq_true]at hn
  simp only[gK,List.zip_cons_cons,List.foldl_cons]
  refine ia ts vs _ _ ?_ hn.2
  have h1:=h.put (d:=some t) (v:=v) (e':=(t,v)::e) (by simp[putS,hn.1])
  exact h1

theorem j5(w:World)(l:Nat)(o:Obj):(w.putObj l o).heap=bL w.heap l o:=rfl
theorem od{R':zj}{rc:LoopState->Option Code->Obj}{l:Nat}(hrc:mE rc)(hl:H[l]?=some (rc .ready none))
  (h: ∀H2,H2=bL H l (rc .busy none)->At n [] w0 e H2 (x.wpR (some l) P (roundPost P l (Back R' w0)))):
  At n [] w0 e H (λa w=> ∃w₂,(Instr.beginRound l).run P w=.ok () w₂/\x.wpR (some l) P (roundPost P l (Back R' w0)) a w₂):=λa w ha hw hs=>by
 obtain⟨fn,tm,ps,assign,body,D,rfl⟩:=hrc
 refine⟨_,run_beginRound (by rw[hw];exact hl) rfl,h _ rfl _ _ ha (by rw[j5,hw];rfl) ⟨hs.os,hs.tape,hs.output,hs.drawn⟩⟩
theorem mU{R':zj}{rc:LoopState->Option Code->Obj}{l:Nat}{w:World}(jump:Option Code)(hrc:mE rc)(hl:w.heap[l]?=some (rc .busy none))(hs:Same w0 w)
  (h:R' (.bool jump.isNone) (bL w.heap l (rc (if jump.isNone then .ready else .done) jump))): ∃v w',(Instr.endRound l jump).run P w=.ok v w'/\Back R' w0 (.returned v) w':=by
 obtain⟨fn,tm,ps,assign,body,D,rfl⟩:=hrc
 exact⟨_,_,run_endRound jump hl,_,rfl,⟨hs.os,hs.tape,hs.output,hs.drawn⟩,h⟩
theorem mV{R':zj}{rc:LoopState->Option Code->Obj}{l:Nat}(hrc:mE rc)(hl:H[l]?=some (rc .busy none))(h:R' (.bool true) (bL H l (rc .ready none))):At n ds w0 e H (roundPost P l (Back R' w0) .normal):=λa w ha hw hs=>
 mU none hrc (by rw[hw];exact hl) hs (by rw[hw];exact h)
theorem lM{fn:FuncId}{a:Act}{ps:Array Tmp}{assign body:Code}{D l:Nat}{args:Array Value}{R':zj}(ha:Agree n ds e a)(hps:ps.toList.all (λt=>Nat.blt t n)=true)(hsz:args.size=ps.size)(hl:H[l]?=some (kr fn a.tmps ps assign body D .ready none))
  (h: ∀w1,At n [] w1 (gK e ps.toList args.toList) H (assign.wpR (some l) P (Exit.then (λa w=> ∃w₂,(Instr.beginRound l).run P w=.ok () w₂/\body.wpR (some l) P (roundPost P l (Back R' w1)) a w₂) (λ_ _ _=>False)))):
  FC P (.func (.yield l) #[] #[]) args H R':=by
 refine .inr ⟨l,rfl,λw hw=>⟨_,_,_,_,run_yield (by rw[hw];exact hl) hsz,?_⟩⟩
 refine roundIn_of_wpIn (F:=Fence.wide) trivial ?_
 refine h w _ w ?_ hw (Same.refl w)
 have h1:=ia (n:=n) (ds:=[]) ps.toList args.toList e a.tmps ⟨ha.size,rfl,ha.vals⟩ hps
 have e1:(ps.zip args).foldl (λtmps (x:Tmp×Value)=>tmps.setIfInBounds x.1 x.2) a.tmps=(ps.toList.zip args.toList).foldl (λtmps p=>tmps.setIfInBounds p.1 p.2) a.tmps:=by
  rw[<-Array.foldl_toList,Array.toList_zip]
 rw[<-e1]at h1
 exact h1

theorem oe{g:Operand}{ps:Array Tmp}{assign body:Code}(gv:Value)(hc:c=.rangeFunc g ps assign body)(hg:fk e g=some gv)(hps:ps.toList.all (λt=>Nat.blt t n)=true)
  (h: ∀(rc:LoopState->Option Code->Obj) (l:Nat) (H1:zV),mE rc->l=H.size+1->H1=(H.push (.deferred (some []))).push (rc .ready none)->
   (∀(args:Array Value) (H':zV) (R':zj),args.size=ps.size->H'[l]?=some (rc .ready none)->
    (∀w1,At n [] w1 (gK e ps.toList args.toList) H' (assign.wpR (some l) P (Exit.then (λa w=> ∃w₂,(Instr.beginRound l).run P w=.ok () w₂/\body.wpR (some l) P (roundPost P l (Back R' w1)) a w₂) (λ_ _ _=>False))))->
    FC P (.func (.yield l) #[] #[]) args H' R')->
   FE P gv #[.func (.yield l) #[] #[]] H1 (λ_ H4=>
    (H4[l]?=some (rc .ready none)/\ ∀H5,H5=bL H4 l (rc .exhausted none)->At n ({target:=.collected H.size,args:= #[]}::ds) w0 e H5 (Q .normal))\/
    (∃j,H4[l]?=some (rc .done (some j))/\ ∀H5,H5=bL H4 l (rc .exhausted (some j))->At n ({target:=.collected H.size,args:= #[]}::ds) w0 e H5 (j.wpR none P Q)))):
  At n ds w0 e H (c.wpR none P Q):=λa w ha hw hs=>by
 rw[hc]
 refine wpIn_rangeFunc λfn hfn=>?_
 obtain⟨f,first,caps,rfl,he,hcall⟩:=h (kr fn a.tmps ps assign body w.heap.size) (w.heap.size+1) ((w.heap.push (.deferred (some []))).push (kr fn a.tmps ps assign body w.heap.size .ready none)) ⟨_,_,_,_,_,_,rfl⟩ (by rw[hw]) (by rw[hw])
  (λargs H' R' hsz hl hr=>lM ha hps hsz hl hr)
 have hev:=ha.eval hg
 obtain⟨W1,hW1⟩: ∃W1,(w.alloc (.deferred (some []))).alloc (kr fn a.tmps ps assign body w.heap.size .ready none)=W1:=⟨_,rfl⟩
 have hH1:W1.heap=(w.heap.push (.deferred (some []))).push (kr fn a.tmps ps assign body w.heap.size .ready none):=by rw[<-hW1];rfl
 have hS1:Same w W1:=by rw[<-hW1];exact⟨rfl,rfl,rfl,Nat.le_refl _⟩
 refine⟨w.heap.size+1,[{target:=.collected w.heap.size,args:= #[]}],W1,{target:=.fn (.func f) caps,args:=first++ #[.func (.yield (w.heap.size+1)) #[] #[]]},W1,f,first++ #[.func (.yield (w.heap.size+1)) #[] #[]]++caps,W1,by rw[<-hW1];exact run_enterLoop_outer _ _ _ _ _,?_,?_,?_,λhh=>(by cases hh),?_⟩
 ·have hm:(rangeCall g (w.heap.size+1)).args.map a.eval= #[.func (.yield (w.heap.size+1)) #[] #[]]:=by simp[rangeCall,Act.eval]
  show(Deferred.ofValue (a.eval g) ((rangeCall g (w.heap.size+1)).args.map a.eval)).run P W1=_
  rw[hm,hev];rfl
 ·intro _ _;trivial
 ·have:=he (first++ #[.func (.yield (w.heap.size+1)) #[] #[]]++caps)
  simpa[invoke]using this _
 ·refine CallsIn.mono (callsIn_wide.2 (hcall W1 hH1)) λen w3 ⟨v,hen,hsame,hR⟩=>?_
  subst hen
  have hs3:Same w0 w3:=(hs.trans hS1).trans hsame
  rcases hR with⟨hl,hk⟩ | ⟨j,hl,hk⟩
  ·refine⟨none,_,run_endLoop hl (by simp),?_⟩
   refine hk _ rfl _ _ ⟨ha.size,?_,ha.vals⟩ rfl ⟨hs3.os,hs3.tape,hs3.output,hs3.drawn⟩
   simp[ha.defers,hw]
  ·refine⟨some j,_,run_endLoop hl (by simp),?_⟩
   refine hk _ rfl _ _ ⟨ha.size,?_,ha.vals⟩ rfl ⟨hs3.os,hs3.tape,hs3.output,hs3.drawn⟩
   simp[ha.defers,hw]

end
abbrev vi(n:Int):Value:=.int .i64 n
abbrev vu(n:Int):Value:=.int .u64 n
abbrev vp(a:zW):Value:=.pointer a
abbrev vs(b:zW)(n c:Nat):Value:=.slice b n c
abbrev pa(b:Nat):zW:=some (Addr.mk b 0 none)
theorem BL:(∀b:Bool,(true || b)=true)/\(∀b:Bool,(false || b)=b)/\(∀b:Bool,(b || true)=true)/\(∀b:Bool,(b || false)=b)/\(∀b:Bool,(true && b)=b)/\(∀b:Bool,(false && b)=false)/\(∀b:Bool,(b && true)=b)/\(∀b:Bool,(b && false)=false)/\((!true)=false)/\((!false)=true)/\(∀x y:Bool,cond true x y=x)/\(∀x y:Bool,cond false x y=y):=
 ⟨by simp,by simp,by simp,by simp,by simp,by simp,by simp,by simp,rfl,rfl,by simp,by simp⟩
abbrev ca(c:Code):Code:=Code.fa c
abbrev cb(c:Code):Code:=Code.fb c
def bv(n m:Nat):Array Bool:=((List.range n).map λi=>m.testBit i).toArray
abbrev ad(b:Nat):Addr:=Addr.mk b 0 none
abbrev DR(a b:Int)(c:Bool)(d:zW)(e f:Nat)(g:ByteArray)(i:zW)(j k:Nat):List Value:=[.int .i64 a,.int .i32 b,.bool c,.slice d e f,.string g,.slice i j k]
def mN(k:Nat)(l:List Nat):Bool:=l.foldr (λx r=>cond (Nat.beq x k) true r) false
def ed(d:List Nat)(a:Env)(e:Env):Env:=e.foldr (λp r=>cond (mN p.1 d) r (p::r)) a
theorem T_en{P:Program}{f:FuncId}{fn:Func}(c:Code)(n:Nat){args:Array Value}{H:zV}{R:zj}(hf:P.funcs[f]?=some fn)
  (h: ∀(w0:World) (Q:Exit->Act->World->Prop),(∀a w,hX P fn w0 R a w->Q .ret a w/\Q .normal a w)->At n [] w0 (env0 0 args.toList) H (c.wpR none P Q)) (hb:fn.body=some c:=by kernel_rfl) (hn:fn.ntmps=n:=by kernel_rfl) (hle:Nat.ble args.size n=true:=by kernel_rfl):HC P f args H R:=
 nX n hf hb hn (Nat.le_of_ble_eq_true hle) h
section
variable {P:Program} {n:Nat} {ds:List Deferred} {ro:Option Nat} {w0:World} {e:Env} {H:zV} {Q Q':Exit->Act->World->Prop} {K:Act->World->Prop} {c:Code} {ops:Array Oper} {i:Nat}
theorem sk{e' e:Env}(h:e'.map (λp=>e.get p.1)=e'.map (λp=>some p.2):=by kernel_rfl):Sub e' e:=h
theorem pk{n:Nat}{e:Env}{d:Option Nat}{v:Value}{e':Env}(h:(putS n e d v).map (λe1=>e'.map (λp=>e1.get p.1))=some (e'.map (λp=>some p.2)):=by kernel_rfl):dx n e d v e':=h
theorem T_sr(id:Nat)(x y:Code)(h:RegN ro P n ds w0 (Code.ops x) 0 e H (Exit.then (y.wpR ro P Q) Q))(hc:c=.seq x y:=by kernel_rfl)(hx:x=.region id (Code.ops x) false:=by kernel_rfl):At n ds w0 e H (c.wpR ro P Q):=
 nm x y hc (jt id (Code.ops x) hx h)
theorem T_e(h:At n ds w0 e H K)(hi:ops.toList.drop i=[]:=by kernel_rfl):RegN ro P n ds w0 ops i e H (Exit.then K Q):=mq hi (aE h)
theorem T_n(k:Nat)(e':Env)(h:RegN ro P n ds w0 ops (i+k) e' H Q)(hr: ∀w,sel e' (runS P n ops ((ops.toList.drop i).take k) e w)=keep e' w:=by intro _;kernel_rfl):RegN ro P n ds w0 ops i e H Q:=mt k e' hr h
theorem T_ne(k:Nat)(e':Env)(h:At n ds w0 e' H K)(hr: ∀w,sel e' (runS P n ops ((ops.toList.drop i).take k) e w)=keep e' w:=by intro _;kernel_rfl)(hi:ops.toList.drop (i+k)=[]:=by kernel_rfl):RegN ro P n ds w0 ops i e H (Exit.then K Q):=
 mt k e' hr (mq hi (aE h))
theorem T_s(x y:Code)(h:At n ds w0 e H (x.wpR ro P (Exit.then (y.wpR ro P Q) Q)))(hc:c=.seq x y:=by kernel_rfl):At n ds w0 e H (c.wpR ro P Q):=nm x y hc h
theorem T_t(o:Tmp)(x y:Code)(h:At n ds w0 e H (x.wpR ro P Q))(hc:c=.cond (.tmp o) x y:=by kernel_rfl)(hv:fk e (.tmp o)=some (.bool true):=by kernel_rfl):At n ds w0 e H (c.wpR ro P Q):=hC (.tmp o) x y hc hv h
theorem T_f(o:Tmp)(x y:Code)(h:At n ds w0 e H (y.wpR ro P Q))(hc:c=.cond (.tmp o) x y:=by kernel_rfl)(hv:fk e (.tmp o)=some (.bool false):=by kernel_rfl):At n ds w0 e H (c.wpR ro P Q):=hD (.tmp o) x y hc hv h
theorem T_cT(o:Tmp)(x y:Code){b:Bool}(hb:b=true)(h:At n ds w0 e H (x.wpR ro P Q))(hc:c=.cond (.tmp o) x y:=by kernel_rfl)(hv:fk e (.tmp o)=some (.bool b):=by kernel_rfl):At n ds w0 e H (c.wpR ro P Q):=hC (.tmp o) x y hc (by rw[hv,hb]) h
theorem T_cF(o:Tmp)(x y:Code){b:Bool}(hb:b=false)(h:At n ds w0 e H (y.wpR ro P Q))(hc:c=.cond (.tmp o) x y:=by kernel_rfl)(hv:fk e (.tmp o)=some (.bool b):=by kernel_rfl):At n ds w0 e H (c.wpR ro P Q):=hD (.tmp o) x y hc (by rw[hv,hb]) h
theorem T_nT(o:Tmp)(x y:Code){b:Bool}(hb:b=false)(h:At n ds w0 e H (x.wpR ro P Q))(hc:c=.cond (.tmp o) x y:=by kernel_rfl)(hv:fk e (.tmp o)=some (.bool (!b)):=by kernel_rfl):At n ds w0 e H (c.wpR ro P Q):=hC (.tmp o) x y hc (by rw[hv,hb];rfl) h
theorem T_nF(o:Tmp)(x y:Code){b:Bool}(hb:b=true)(h:At n ds w0 e H (y.wpR ro P Q))(hc:c=.cond (.tmp o) x y:=by kernel_rfl)(hv:fk e (.tmp o)=some (.bool (!b)):=by kernel_rfl):At n ds w0 e H (c.wpR ro P Q):=hD (.tmp o) x y hc (by rw[hv,hb];rfl) h
theorem T_k(h:At n ds w0 e H (Q .normal))(hc:c=.skip:=by kernel_rfl):At n ds w0 e H (c.wpR ro P Q):=nn hc h
theorem T_kt(h:At n ds w0 e H K)(hc:c=.skip:=by kernel_rfl):At n ds w0 e H (c.wpR ro P (Exit.then K Q)):=nn hc (aE h)
theorem T_b(id:Nat)(x:Code)(h:At n ds w0 e H (x.wpR ro P (Exit.inBlock id Q)))(hc:c=.block id x:=by kernel_rfl):At n ds w0 e H (c.wpR ro P Q):=mo id x hc h
theorem T_r(id:Nat)(x:Code)(h:RegN ro P n ds w0 (Code.ops x) 0 e H Q)(hc:c=.region id (Code.ops x) false:=by kernel_rfl):At n ds w0 e H (c.wpR ro P Q):=jt id (Code.ops x) hc h
theorem T_rq(id:Nat)(x:Code)(h:RegQ P n ds w0 (Code.ops x) 0 e H Q)(hc:c=.region id (Code.ops x) true:=by kernel_rfl)(hm:P.follows .mixedOrders=true:=by kernel_rfl)(hB:Region.lexB .any (Code.ops x)=true:=by kernel_rfl):At n ds w0 e H (c.wpR none P Q):=ki id (Code.ops x) hc hm hB h
theorem T_su(e':Env)(h:At n ds w0 e' H K)(hs:e'.map (λp=>e.get p.1)=e'.map (λp=>some p.2):=by kernel_rfl):At n ds w0 e H K:=nl e' hs h
theorem T_nu(e':Env)(h:RegN ro P n ds w0 ops i e' H Q)(hs:e'.map (λp=>e.get p.1)=e'.map (λp=>some p.2):=by kernel_rfl):RegN ro P n ds w0 ops i e H Q:=np e' hs h
theorem eW{fn:Func}{R:zj}(ts:List Nat)(vs:List Value)(hQ: ∀a w,hX P fn w0 R a w->Q .ret a w/\Q .normal a w)(h:R (tup vs) H)(hc:c=.ret:=by kernel_rfl)(hq:Q' .ret=Q .ret:=by exact rfl)
  (hf:fn.results.toList=ts.map .tmp:=by kernel_rfl) (hv:ts.map e.get=vs.map some:=by kernel_rfl):At n [] w0 e H (c.wpR ro P Q'):=by
 refine mp hc ?_
 rw[hq]
 refine lJ vs hQ ?_ h
 rw[hf];clear hf h
 induction ts generalizing vs with
 | nil=>cases vs with | nil=>exact .nil | cons v l=>cases hv
 | cons t ts ih=>
  cases vs with
  | nil=>cases hv
  | cons v l=>
   rw[List.map_cons,List.map_cons,List.cons.injEq]at hv
   exact .tmp hv.1 (ih l hv.2)
theorem T_q(d:Option Tmp)(v:Value)(e':Env)(h:RegQ P n ds w0 ops (i+1) e' H Q)(hd:(ops.toList.drop i).head?.map (·.dst)=some d:=by kernel_rfl)
  (hv: ∀w,((ops.toList.drop i).head?.bind λo=>jw P ops o e w)=some (v,w):=by intro _;kernel_rfl) (he:(putS n e d v).map (λe1=>e'.map (λp=>e1.get p.1))=some (e'.map (λp=>some p.2)):=by kernel_rfl):RegQ P n ds w0 ops i e H Q:=oF v e' d hd hv he h
theorem T_qe(h:At n ds w0 e H K)(hi:ops.toList.drop i=[]:=by kernel_rfl):RegQ P n ds w0 ops i e H (Exit.then K Q):=pd hi (aE h)
theorem T_v(d:Option Tmp)(S:Sem Next)(v:Value)(hS: ∀w,w.heap=H->S.run P w=.ok (.value v) w)(e':Env)(h:RegN ro P n ds w0 ops (i+1) e' H Q)(hx: ∀w,bZ P ops i e w=some (d,S.run P w):=by intro _;kernel_rfl)
  (he:(putS n e d v).map (λe1=>e'.map (λp=>e1.get p.1))=some (e'.map (λp=>some p.2)):=by kernel_rfl):RegN ro P n ds w0 ops i e H Q:=kj d S v hx hS e' he h
theorem T_l(d:Option Tmp)(t:TypeId){a:Addr}{v:Value}(q:hat H a=some v)(e':Env)(h:RegN ro P n ds w0 ops (i+1) e' H Q)(hx: ∀w,bZ P ops i e w=some (d,(aP t (.pointer (some a))).run P w):=by intro _;kernel_rfl)
  (hg: ∀w,(isAgg t).run P w=.ok false w:=by intro _;kernel_rfl) (he:(putS n e d v).map (λe1=>e'.map (λp=>e1.get p.1))=some (e'.map (λp=>some p.2)):=by kernel_rfl):RegN ro P n ds w0 ops i e H Q:=
 kj d (aP t (.pointer (some a))) v hx (eq (ga hg q)) e' he h
theorem T_ql(d:Option Tmp)(t:TypeId){a:Addr}{v:Value}(q:hat H a=some v)(e':Env)(h:RegQ P n ds w0 ops (i+1) e' H Q)(hx: ∀w,bZ P ops i e w=some (d,(aP t (.pointer (some a))).run P w):=by intro _;kernel_rfl)
  (hg: ∀w,(isAgg t).run P w=.ok false w:=by intro _;kernel_rfl) (he:(putS n e d v).map (λe1=>e'.map (λp=>e1.get p.1))=some (e'.map (λp=>some p.2)):=by kernel_rfl):RegQ P n ds w0 ops i e H Q:=
 Q_op d (aP t (.pointer (some a))) v hx (eq (ga hg q)) e' he h
theorem T_ix(d:Option Tmp)(t elem sz:Nat)(a:Addr)(len cap:Nat)(k:IntKind)(j:Int)(hu:P.underlying t=some (.slice elem))(h0:0<=j)(h1:j<len)(e':Env)(h:RegN ro P n ds w0 ops (i+1) e' H Q)
  (hz: ∀w,(sizeOf elem).run P w=.ok sz w:=by intro _;kernel_rfl) (hx: ∀w,bZ P ops i e w=some (d,(aX t (.slice (some a) len cap) (.int k j)).run P w):=by intro _;kernel_rfl)
  (he:(putS n e d (.pointer (some (a.add (Int.toNat j*sz))))).map (λe1=>e'.map (λp=>e1.get p.1))=some (e'.map (λp=>some p.2)):=by kernel_rfl):RegN ro P n ds w0 ops i e H Q:=
 kj d (aX t (.slice (some a) len cap) (.int k j)) (.pointer (some (a.add (Int.toNat j*sz)))) hx (λw _=>cW hu hz h0 h1 w) e' he h
theorem T_g{fs:Facts}{fuel:Nat}{L:Array Bool}(i:Nat)(d:Option Tmp)(v:Value)(L':Array Bool)(e':Env)(S:Sem Next)(hS: ∀L w,Closed .any ops L->L.getD i true=false->dj fs L w->S.run P w=.ok (.value v) w)
  (h:RegG ro P n ds w0 ops fs fuel L' e' H Q) (hx: ∀w,bZ P ops i e w=some (d,S.run P w):=by intro _;kernel_rfl)
  (hr:(Region.ready .any ops L).contains i=true:=by kernel_rfl) (hsel:Region.noSelect ops=true:=by kernel_rfl) (hdef:fB ops=true:=by kernel_rfl) (hf:Region.free .any ops L i=true:=by kernel_rfl) (hfs:fs.all (λf=>f.1 !=i)=true:=by kernel_rfl) (hL:L.setIfInBounds i true=L':=by kernel_rfl)
  (he:(putS n e d v).map (λe1=>e'.map (λp=>e1.get p.1))=some (e'.map (λp=>some p.2)):=by kernel_rfl):RegG ro P n ds w0 ops fs (fuel+1) L e H Q:=iQ i d v L' e' S hx hS hr hsel hdef hf hfs hL he h
theorem T_c{f:FuncId}{args:Array Value}{R:zj}(d:Option Tmp)(hc:HC P f args H R)(h: ∀v H',R v H'-> ∃e',dx n e d v e'/\RegN ro P n ds w0 ops (i+1) e' H' Q)(hx: ∀w,bZ P ops i e w=some (d,.ok (.enter f args) w):=by intro _;kernel_rfl):RegN ro P n ds w0 ops i e H Q:=oJ d f args hx hc h
theorem T_nw(d:Option Tmp)(f:Nat->Value)(o:Obj)(h: ∀b H',b=H.size->H'=H.push o-> ∃e',dx n e d (f b) e'/\RegN ro P n ds w0 ops (i+1) e' H' Q)(hx: ∀w,bZ P ops i e w=some (d,.ok (.value (f w.heap.size)) {w with heap:=w.heap.push o}):=by intro _;kernel_rfl):RegN ro P n ds w0 ops i e H Q:=pf d f o hx h
theorem T_gs{fs:Facts}{fuel:Nat}{L:Array Bool}(i:Nat)(d:Option Tmp)(L':Array Bool)(e':Env)(h:RegG ro P n ds w0 ops fs fuel L' e' H Q)(hx:(ops[i]?).bind (λo=>(gD ops e o).map (λb=>(o.dst,b)))=some (d,false):=by kernel_rfl)
  (hr:(Region.ready .any ops L).contains i=true:=by kernel_rfl) (hsel:Region.noSelect ops=true:=by kernel_rfl) (hdef:fB ops=true:=by kernel_rfl) (hf:Region.free .any ops L i=true:=by kernel_rfl) (hfs:fs.all (λf=>f.1 !=i)=true:=by kernel_rfl) (hL:L.setIfInBounds i true=L':=by kernel_rfl)
  (he:(putS n e d undef).map (λe1=>e'.map (λp=>e1.get p.1))=some (e'.map (λp=>some p.2)):=by kernel_rfl):RegG ro P n ds w0 ops fs (fuel+1) L e H Q:=nt i d L' e' hx hr hsel hdef hf hfs hL he h
theorem T_gp{fs:Facts}{fuel:Nat}{L:Array Bool}(i:Nat)(d:Option Tmp)(v:Value)(L':Array Bool)(e':Env)
  (h:RegG ro P n ds w0 ops fs fuel L' e' H Q) (hx: ∀w,bZ P ops i e w=some (d,(pure (.value v):Sem Next).run P w):=by intro _;kernel_rfl)
  (hr:(Region.ready .any ops L).contains i=true:=by kernel_rfl) (hsel:Region.noSelect ops=true:=by kernel_rfl) (hdef:fB ops=true:=by kernel_rfl) (hf:Region.free .any ops L i=true:=by kernel_rfl) (hfs:fs.all (λf=>f.1 !=i)=true:=by kernel_rfl) (hL:L.setIfInBounds i true=L':=by kernel_rfl)
  (he:(putS n e d v).map (λe1=>e'.map (λp=>e1.get p.1))=some (e'.map (λp=>some p.2)):=by kernel_rfl):RegG ro P n ds w0 ops fs (fuel+1) L e H Q:=iQ i d v L' e' (pure (.value v)) hx (λ_ _ _ _ _=>rfl) hr hsel hdef hf hfs hL he h
theorem T_nd(k:Nat)(dl:List Nat)(al:Env)(h:RegN ro P n ds w0 ops (i+k) (ed dl al e) H Q)(hr: ∀w,sel (ed dl al e) (runS P n ops ((ops.toList.drop i).take k) e w)=keep (ed dl al e) w:=by intro _;kernel_rfl):RegN ro P n ds w0 ops i e H Q:=mt k _ hr h
theorem T_ed(k:Nat)(dl:List Nat)(al:Env)(h:At n ds w0 (ed dl al e) H K)(hr: ∀w,sel (ed dl al e) (runS P n ops ((ops.toList.drop i).take k) e w)=keep (ed dl al e) w:=by intro _;kernel_rfl)(hi:ops.toList.drop (i+k)=[]:=by kernel_rfl):RegN ro P n ds w0 ops i e H (Exit.then K Q):=
 mt k _ hr (mq hi (aE h))
theorem T_sd(dl:List Nat)(al:Env)(h:At n ds w0 (ed dl al e) H K)(hs:(ed dl al e).map (λp=>e.get p.1)=(ed dl al e).map (λp=>some p.2):=by kernel_rfl):At n ds w0 e H K:=nl _ hs h
theorem T_ud(dl:List Nat)(al:Env)(h:RegN ro P n ds w0 ops i (ed dl al e) H Q)(hs:(ed dl al e).map (λp=>e.get p.1)=(ed dl al e).map (λp=>some p.2):=by kernel_rfl):RegN ro P n ds w0 ops i e H Q:=np _ hs h
theorem T_qd(d:Option Tmp)(v:Value)(dl:List Nat)(al:Env)(h:RegQ P n ds w0 ops (i+1) (ed dl al e) H Q)(hd:(ops.toList.drop i).head?.map (·.dst)=some d:=by kernel_rfl)
  (hv: ∀w,((ops.toList.drop i).head?.bind λo=>jw P ops o e w)=some (v,w):=by intro _;kernel_rfl) (he:(putS n e d v).map (λe1=>(ed dl al e).map (λp=>e1.get p.1))=some ((ed dl al e).map (λp=>some p.2)):=by kernel_rfl):RegQ P n ds w0 ops i e H Q:=oF v _ d hd hv he h
theorem T_vd(d:Option Tmp)(S:Sem Next)(v:Value)(hS: ∀w,w.heap=H->S.run P w=.ok (.value v) w)(dl:List Nat)(al:Env)(h:RegN ro P n ds w0 ops (i+1) (ed dl al e) H Q)(hx: ∀w,bZ P ops i e w=some (d,S.run P w):=by intro _;kernel_rfl)
  (he:(putS n e d v).map (λe1=>(ed dl al e).map (λp=>e1.get p.1))=some ((ed dl al e).map (λp=>some p.2)):=by kernel_rfl):RegN ro P n ds w0 ops i e H Q:=kj d S v hx hS _ he h
theorem T_ld(d:Option Tmp)(t:TypeId){a:Addr}{v:Value}(q:hat H a=some v)(dl:List Nat)(al:Env)(h:RegN ro P n ds w0 ops (i+1) (ed dl al e) H Q)(hx: ∀w,bZ P ops i e w=some (d,(aP t (.pointer (some a))).run P w):=by intro _;kernel_rfl)
  (hg: ∀w,(isAgg t).run P w=.ok false w:=by intro _;kernel_rfl) (he:(putS n e d v).map (λe1=>(ed dl al e).map (λp=>e1.get p.1))=some ((ed dl al e).map (λp=>some p.2)):=by kernel_rfl):RegN ro P n ds w0 ops i e H Q:=
 kj d (aP t (.pointer (some a))) v hx (eq (ga hg q)) _ he h
theorem jD(d:Option Tmp)(t:TypeId){a:Addr}{v:Value}(q:hat H a=some v)(dl:List Nat)(al:Env)(h:RegQ P n ds w0 ops (i+1) (ed dl al e) H Q)(hx: ∀w,bZ P ops i e w=some (d,(aP t (.pointer (some a))).run P w):=by intro _;kernel_rfl)
  (hg: ∀w,(isAgg t).run P w=.ok false w:=by intro _;kernel_rfl) (he:(putS n e d v).map (λe1=>(ed dl al e).map (λp=>e1.get p.1))=some ((ed dl al e).map (λp=>some p.2)):=by kernel_rfl):RegQ P n ds w0 ops i e H Q:=
 Q_op d (aP t (.pointer (some a))) v hx (eq (ga hg q)) _ he h
theorem T_xd(d:Option Tmp)(t elem sz:Nat)(a:Addr)(len cap:Nat)(k:IntKind)(j:Int)(hu:P.underlying t=some (.slice elem))(h0:0<=j)(h1:j<len)(dl:List Nat)(al:Env)(h:RegN ro P n ds w0 ops (i+1) (ed dl al e) H Q)
  (hz: ∀w,(sizeOf elem).run P w=.ok sz w:=by intro _;kernel_rfl) (hx: ∀w,bZ P ops i e w=some (d,(aX t (.slice (some a) len cap) (.int k j)).run P w):=by intro _;kernel_rfl)
  (he:(putS n e d (.pointer (some (a.add (Int.toNat j*sz))))).map (λe1=>(ed dl al e).map (λp=>e1.get p.1))=some ((ed dl al e).map (λp=>some p.2)):=by kernel_rfl):RegN ro P n ds w0 ops i e H Q:=
 kj d (aX t (.slice (some a) len cap) (.int k j)) (.pointer (some (a.add (Int.toNat j*sz)))) hx (λw _=>cW hu hz h0 h1 w) _ he h
theorem T_gd{fs:Facts}{fuel:Nat}{L:Array Bool}(i:Nat)(d:Option Tmp)(v:Value)(L':Array Bool)(dl:List Nat)(al:Env)(S:Sem Next)(hS: ∀L w,Closed .any ops L->L.getD i true=false->dj fs L w->S.run P w=.ok (.value v) w)
  (h:RegG ro P n ds w0 ops fs fuel L' (ed dl al e) H Q) (hx: ∀w,bZ P ops i e w=some (d,S.run P w):=by intro _;kernel_rfl)
  (hr:(Region.ready .any ops L).contains i=true:=by kernel_rfl) (hsel:Region.noSelect ops=true:=by kernel_rfl) (hdef:fB ops=true:=by kernel_rfl) (hf:Region.free .any ops L i=true:=by kernel_rfl) (hfs:fs.all (λf=>f.1 !=i)=true:=by kernel_rfl) (hL:L.setIfInBounds i true=L':=by kernel_rfl)
  (he:(putS n e d v).map (λe1=>(ed dl al e).map (λp=>e1.get p.1))=some ((ed dl al e).map (λp=>some p.2)):=by kernel_rfl):RegG ro P n ds w0 ops fs (fuel+1) L e H Q:=iQ i d v L' _ S hx hS hr hsel hdef hf hfs hL he h
theorem jE{fs:Facts}{fuel:Nat}{L:Array Bool}(i:Nat)(d:Option Tmp)(L':Array Bool)(dl:List Nat)(al:Env)(h:RegG ro P n ds w0 ops fs fuel L' (ed dl al e) H Q)(hx:(ops[i]?).bind (λo=>(gD ops e o).map (λb=>(o.dst,b)))=some (d,false):=by kernel_rfl)
  (hr:(Region.ready .any ops L).contains i=true:=by kernel_rfl) (hsel:Region.noSelect ops=true:=by kernel_rfl) (hdef:fB ops=true:=by kernel_rfl) (hf:Region.free .any ops L i=true:=by kernel_rfl) (hfs:fs.all (λf=>f.1 !=i)=true:=by kernel_rfl) (hL:L.setIfInBounds i true=L':=by kernel_rfl)
  (he:(putS n e d undef).map (λe1=>(ed dl al e).map (λp=>e1.get p.1))=some ((ed dl al e).map (λp=>some p.2)):=by kernel_rfl):RegG ro P n ds w0 ops fs (fuel+1) L e H Q:=nt i d L' _ hx hr hsel hdef hf hfs hL he h
theorem pu{fs:Facts}{fuel:Nat}{L:Array Bool}(i:Nat)(d:Option Tmp)(v:Value)(L':Array Bool)(dl:List Nat)(al:Env)
  (h:RegG ro P n ds w0 ops fs fuel L' (ed dl al e) H Q) (hx: ∀w,bZ P ops i e w=some (d,(pure (.value v):Sem Next).run P w):=by intro _;kernel_rfl)
  (hr:(Region.ready .any ops L).contains i=true:=by kernel_rfl) (hsel:Region.noSelect ops=true:=by kernel_rfl) (hdef:fB ops=true:=by kernel_rfl) (hf:Region.free .any ops L i=true:=by kernel_rfl) (hfs:fs.all (λf=>f.1 !=i)=true:=by kernel_rfl) (hL:L.setIfInBounds i true=L':=by kernel_rfl)
  (he:(putS n e d v).map (λe1=>(ed dl al e).map (λp=>e1.get p.1))=some ((ed dl al e).map (λp=>some p.2)):=by kernel_rfl):RegG ro P n ds w0 ops fs (fuel+1) L e H Q:=iQ i d v L' _ (pure (.value v)) hx (λ_ _ _ _ _=>rfl) hr hsel hdef hf hfs hL he h
theorem T_pd{o:Option Tmp}{v:Value}{K:Env->Prop}(dl:List Nat)(al:Env)(h:K (ed dl al e))(he:(putS n e o v).map (λe1=>(ed dl al e).map (λp=>e1.get p.1))=some ((ed dl al e).map (λp=>some p.2)):=by kernel_rfl): ∃e',dx n e o v e'/\K e':=⟨_,he,h⟩
theorem N_bd(k:Nat){b v:Bool}(hb:b=v)(h:RegN ro P n ds w0 ops i (ed [k] [(k,.bool v)] e) H Q)(hs:(ed [k] [(k,.bool b)] e).map (λp=>e.get p.1)=(ed [k] [(k,.bool b)] e).map (λp=>some p.2):=by kernel_rfl):RegN ro P n ds w0 ops i e H Q:=by
 subst hb;exact np _ hs h
theorem S_bd(k:Nat){b v:Bool}(hb:b=v)(h:At n ds w0 (ed [k] [(k,.bool v)] e) H K)(hs:(ed [k] [(k,.bool b)] e).map (λp=>e.get p.1)=(ed [k] [(k,.bool b)] e).map (λp=>some p.2):=by kernel_rfl):At n ds w0 e H K:=by
 subst hb;exact nl _ hs h
theorem Q_bd(k:Nat){b v:Bool}(hb:b=v)(h:RegQ P n ds w0 ops i (ed [k] [(k,.bool v)] e) H Q)(hs:(ed [k] [(k,.bool b)] e).map (λp=>e.get p.1)=(ed [k] [(k,.bool b)] e).map (λp=>some p.2):=by kernel_rfl):RegQ P n ds w0 ops i e H Q:=by
 subst hb;exact gT _ hs h
theorem G_bd{fs:Facts}{fuel:Nat}{L:Array Bool}(k:Nat){b v:Bool}(hb:b=v)(h:RegG ro P n ds w0 ops fs fuel L (ed [k] [(k,.bool v)] e) H Q)(hs:(ed [k] [(k,.bool b)] e).map (λp=>e.get p.1)=(ed [k] [(k,.bool b)] e).map (λp=>some p.2):=by kernel_rfl):RegG ro P n ds w0 ops fs fuel L e H Q:=by
 subst hb;exact eV _ hs h
theorem fl{a:Addr}{k:Nat}(t:TypeId)(vs:List Value)(q:aK H a 0 k)(h: ∀H',H'=aS H a vs 0-> ∃e',dx n e none undef e'/\RegN ro P n ds w0 ops (i+1) e' H' Q)(hx: ∀w,bZ P ops i e w=some (none,(gd t (.pointer (some a)) (.agg vs.toArray)).run P w):=by intro _;kernel_rfl)
  (hl:(Value.agg vs.toArray).cells.toList=vs:=by kernel_rfl) (hk:vs.length=k:=by kernel_rfl) (hn: ∀w,(sizeOf t).run P w=.ok k w:=by intro _;kernel_rfl) (h1:fG vs=true:=by kernel_rfl):RegN ro P n ds w0 ops i e H Q:=
 jv none (gd t (.pointer (some a)) (.agg vs.toArray)) (λHz=>Hz=aS H a vs 0) hx (gf vs k hl hk hn h1 q) h
theorem fE{a:Addr}{k:Nat}(t:TypeId)(v:Value)(q:aK H a 0 k)(h: ∀H',H'=aS H a [v] 0-> ∃e',dx n e none undef e'/\RegN ro P n ds w0 ops (i+1) e' H' Q)(hx: ∀w,bZ P ops i e w=some (none,(gd t (.pointer (some a)) v).run P w):=by intro _;kernel_rfl)
  (hl:v.cells.toList=[v]:=by kernel_rfl) (hk:[v].length=k:=by kernel_rfl) (hn: ∀w,(sizeOf t).run P w=.ok k w:=by intro _;kernel_rfl) (h1:fG [v]=true:=by kernel_rfl):RegN ro P n ds w0 ops i e H Q:=
 jv none (gd t (.pointer (some a)) v) (λHz=>Hz=aS H a [v] 0) hx (gf [v] k hl hk hn h1 q) h
theorem ar(id:Nat)(h:RegN ro P n ds w0 (Code.ops (ca c)) 0 e H (Exit.then ((cb c).wpR ro P Q) Q))(hc:c=.seq (ca c) (cb c):=by kernel_rfl)(hx:ca c=.region id (Code.ops (ca c)) false:=by kernel_rfl):At n ds w0 e H (c.wpR ro P Q):=T_sr id (ca c) (cb c) h hc hx
theorem T_sz(h:At n ds w0 e H ((ca c).wpR ro P (Exit.then ((cb c).wpR ro P Q) Q)))(hc:c=.seq (ca c) (cb c):=by kernel_rfl):At n ds w0 e H (c.wpR ro P Q):=nm (ca c) (cb c) hc h
theorem T_tz(o:Tmp)(h:At n ds w0 e H ((ca c).wpR ro P Q))(hc:c=.cond (.tmp o) (ca c) (cb c):=by kernel_rfl)(hv:fk e (.tmp o)=some (.bool true):=by kernel_rfl):At n ds w0 e H (c.wpR ro P Q):=hC (.tmp o) _ _ hc hv h
theorem T_fz(o:Tmp)(h:At n ds w0 e H ((cb c).wpR ro P Q))(hc:c=.cond (.tmp o) (ca c) (cb c):=by kernel_rfl)(hv:fk e (.tmp o)=some (.bool false):=by kernel_rfl):At n ds w0 e H (c.wpR ro P Q):=hD (.tmp o) _ _ hc hv h
theorem aI(o:Tmp){b:Bool}(hb:b=true)(h:At n ds w0 e H ((ca c).wpR ro P Q))(hc:c=.cond (.tmp o) (ca c) (cb c):=by kernel_rfl)(hv:fk e (.tmp o)=some (.bool b):=by kernel_rfl):At n ds w0 e H (c.wpR ro P Q):=hC (.tmp o) _ _ hc (by rw[hv,hb]) h
theorem aJ(o:Tmp){b:Bool}(hb:b=false)(h:At n ds w0 e H ((cb c).wpR ro P Q))(hc:c=.cond (.tmp o) (ca c) (cb c):=by kernel_rfl)(hv:fk e (.tmp o)=some (.bool b):=by kernel_rfl):At n ds w0 e H (c.wpR ro P Q):=hD (.tmp o) _ _ hc (by rw[hv,hb]) h
theorem pv(o:Tmp){b:Bool}(hb:b=false)(h:At n ds w0 e H ((ca c).wpR ro P Q))(hc:c=.cond (.tmp o) (ca c) (cb c):=by kernel_rfl)(hv:fk e (.tmp o)=some (.bool (!b)):=by kernel_rfl):At n ds w0 e H (c.wpR ro P Q):=hC (.tmp o) _ _ hc (by rw[hv,hb];rfl) h
theorem pw(o:Tmp){b:Bool}(hb:b=true)(h:At n ds w0 e H ((cb c).wpR ro P Q))(hc:c=.cond (.tmp o) (ca c) (cb c):=by kernel_rfl)(hv:fk e (.tmp o)=some (.bool (!b)):=by kernel_rfl):At n ds w0 e H (c.wpR ro P Q):=hD (.tmp o) _ _ hc (by rw[hv,hb];rfl) h
theorem T_bz(id:Nat)(h:At n ds w0 e H ((ca c).wpR ro P (Exit.inBlock id Q)))(hc:c=.block id (ca c):=by kernel_rfl):At n ds w0 e H (c.wpR ro P Q):=mo id _ hc h
theorem T_rz(id:Nat)(h:RegN ro P n ds w0 (Code.ops c) 0 e H Q)(hc:c=.region id (Code.ops c) false:=by kernel_rfl):At n ds w0 e H (c.wpR ro P Q):=jt id (Code.ops c) hc h
theorem jF(id:Nat)(h:RegQ P n ds w0 (Code.ops c) 0 e H Q)(hc:c=.region id (Code.ops c) true:=by kernel_rfl)(hm:P.follows .mixedOrders=true:=by kernel_rfl)(hB:Region.lexB .any (Code.ops c)=true:=by kernel_rfl):At n ds w0 e H (c.wpR none P Q):=ki id (Code.ops c) hc hm hB h
theorem T_l1(k:Nat)(t:TypeId){a:Addr}{v:Value}(q:hat H a=some v)(dl:List Nat)(h:RegN ro P n ds w0 ops (i+1) (ed dl [(k,v)] e) H Q)(hx: ∀w,bZ P ops i e w=some (some k,(aP t (.pointer (some a))).run P w):=by intro _;kernel_rfl)
  (hg: ∀w,(isAgg t).run P w=.ok false w:=by intro _;kernel_rfl) (he:(putS n e (some k) v).map (λe1=>(ed dl [(k,v)] e).map (λp=>e1.get p.1))=some ((ed dl [(k,v)] e).map (λp=>some p.2)):=by kernel_rfl):RegN ro P n ds w0 ops i e H Q:=T_ld (some k) t q dl [(k,v)] h hx hg he
theorem T_lr(k:Nat)(t:TypeId){a:Addr}{vs:List Value}(q:aT H a 0 vs)(dl:List Nat)(h:RegN ro P n ds w0 ops (i+1) (ed dl [(k,.agg vs.toArray)] e) H Q)(hx: ∀w,bZ P ops i e w=some (some k,(aP t (.pointer (some a))).run P w):=by intro _;kernel_rfl)
  (hg: ∀w,(isAgg t).run P w=.ok true w:=by intro _;kernel_rfl) (hn: ∀w,(sizeOf t).run P w=.ok vs.length w:=by intro _;kernel_rfl) (he:(putS n e (some k) (.agg vs.toArray)).map (λe1=>(ed dl [(k,.agg vs.toArray)] e).map (λp=>e1.get p.1))=some ((ed dl [(k,.agg vs.toArray)] e).map (λp=>some p.2)):=by kernel_rfl):RegN ro P n ds w0 ops i e H Q:=
 T_vd (some k) (aP t (.pointer (some a))) (.agg vs.toArray) (eq (eK hg hn q)) dl [(k,.agg vs.toArray)] h hx he
theorem T_q1(k:Nat)(v:Value)(dl:List Nat)(h:RegQ P n ds w0 ops (i+1) (ed dl [(k,v)] e) H Q)(hd:(ops.toList.drop i).head?.map (·.dst)=some (some k):=by kernel_rfl)
  (hv: ∀w,((ops.toList.drop i).head?.bind λo=>jw P ops o e w)=some (v,w):=by intro _;kernel_rfl) (he:(putS n e (some k) v).map (λe1=>(ed dl [(k,v)] e).map (λp=>e1.get p.1))=some ((ed dl [(k,v)] e).map (λp=>some p.2)):=by kernel_rfl):RegQ P n ds w0 ops i e H Q:=T_qd (some k) v dl [(k,v)] h hd hv he
theorem T_v1(k:Nat)(S:Sem Next)(v:Value)(hS: ∀w,w.heap=H->S.run P w=.ok (.value v) w)(dl:List Nat)(h:RegN ro P n ds w0 ops (i+1) (ed dl [(k,v)] e) H Q)(hx: ∀w,bZ P ops i e w=some (some k,S.run P w):=by intro _;kernel_rfl)
  (he:(putS n e (some k) v).map (λe1=>(ed dl [(k,v)] e).map (λp=>e1.get p.1))=some ((ed dl [(k,v)] e).map (λp=>some p.2)):=by kernel_rfl):RegN ro P n ds w0 ops i e H Q:=T_vd (some k) S v hS dl [(k,v)] h hx he
theorem T_g1{fs:Facts}{fuel:Nat}{L:Array Bool}(i:Nat)(k:Nat)(v:Value)(L':Array Bool)(dl:List Nat)(S:Sem Next)(hS: ∀L w,Closed .any ops L->L.getD i true=false->dj fs L w->S.run P w=.ok (.value v) w)
  (h:RegG ro P n ds w0 ops fs fuel L' (ed dl [(k,v)] e) H Q) (hx: ∀w,bZ P ops i e w=some (some k,S.run P w):=by intro _;kernel_rfl)
  (hr:(Region.ready .any ops L).contains i=true:=by kernel_rfl) (hsel:Region.noSelect ops=true:=by kernel_rfl) (hdef:fB ops=true:=by kernel_rfl) (hf:Region.free .any ops L i=true:=by kernel_rfl) (hfs:fs.all (λf=>f.1 !=i)=true:=by kernel_rfl) (hL:L.setIfInBounds i true=L':=by kernel_rfl)
  (he:(putS n e (some k) v).map (λe1=>(ed dl [(k,v)] e).map (λp=>e1.get p.1))=some ((ed dl [(k,v)] e).map (λp=>some p.2)):=by kernel_rfl):RegG ro P n ds w0 ops fs (fuel+1) L e H Q:=iQ i (some k) v L' _ S hx hS hr hsel hdef hf hfs hL he h
theorem aF{fs:Facts}{fuel:Nat}{L:Array Bool}(i:Nat)(k:Nat)(v:Value)(L':Array Bool)(dl:List Nat)
  (h:RegG ro P n ds w0 ops fs fuel L' (ed dl [(k,v)] e) H Q) (hx: ∀w,bZ P ops i e w=some (some k,(pure (.value v):Sem Next).run P w):=by intro _;kernel_rfl)
  (hr:(Region.ready .any ops L).contains i=true:=by kernel_rfl) (hsel:Region.noSelect ops=true:=by kernel_rfl) (hdef:fB ops=true:=by kernel_rfl) (hf:Region.free .any ops L i=true:=by kernel_rfl) (hfs:fs.all (λf=>f.1 !=i)=true:=by kernel_rfl) (hL:L.setIfInBounds i true=L':=by kernel_rfl)
  (he:(putS n e (some k) v).map (λe1=>(ed dl [(k,v)] e).map (λp=>e1.get p.1))=some ((ed dl [(k,v)] e).map (λp=>some p.2)):=by kernel_rfl):RegG ro P n ds w0 ops fs (fuel+1) L e H Q:=iQ i (some k) v L' _ (pure (.value v)) hx (λ_ _ _ _ _=>rfl) hr hsel hdef hf hfs hL he h
theorem T_nr{fn:Func}{R:zj}{Q2:Exit->Act->World->Prop}(k:Nat)(ts:List Nat)(vs:List Value)(hQ: ∀a w,hX P fn w0 R a w->Q .ret a w/\Q .normal a w)(h:R (tup vs) H)(hr: ∀w,sel (ts.zip vs) (runS P n ops ((ops.toList.drop i).take k) e w)=keep (ts.zip vs) w:=by intro _;kernel_rfl)(hi:ops.toList.drop (i+k)=[]:=by kernel_rfl)(hc:c=.ret:=by kernel_rfl)(hq:Q' .ret=Q .ret:=by exact rfl)
  (hf:fn.results.toList=ts.map .tmp:=by kernel_rfl) (hv:ts.map (Env.get (ts.zip vs))=vs.map some:=by kernel_rfl):RegN ro P n [] w0 ops i e H (Exit.then (c.wpR ro P Q') Q2):=T_ne k (ts.zip vs) (eW ts vs hQ h hc hq hf hv) hr hi
end
