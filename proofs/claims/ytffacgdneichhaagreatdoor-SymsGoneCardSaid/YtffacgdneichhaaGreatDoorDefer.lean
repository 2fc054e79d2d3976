/-
 A deferred call, made when a function returns; a scope through which the run goes without a jump. Proves nothing of any one program.
-/
import Derived.Test.YtffacgdneichhaaGreatDoorRange
import Derived.Scope
set_option linter.unusedVariables false
set_option linter.unusedSimpArgs false
namespace Go.Proofs.YtffacgdneichhaaGreatDoor
open Go

def HD(P:Program)(f:FuncId)(args:Array Value)(H:zV)(R:zV->Prop):Prop:=
 ∀w,w.heap=H->CallsDIn Fence.wide 0 P f args .returning w (λen u w'=>u=.returning/\ ∃v,en=.returned v/\Same w w'/\R w'.heap)
theorem HD.mono{P:Program}{f:FuncId}{args:Array Value}{H:zV}{R R':zV->Prop}(h:HD P f args H R)(hr: ∀H',R H'->R' H'):HD P f args H R':=
 λw hw=>(h w hw).mono λ_ _ _ ⟨hu,v,he,hs,hR⟩=>⟨hu,v,he,hs,hr _ hR⟩
def jy(f:FuncId)(args:Array Value):Deferred:={target:=.fn (.func f) #[],args:=args}

section
variable {P:Program} {n:Nat} {w0:World} {e e':Env} {H H':zV} {Q:Exit->Act->World->Prop} {K:Act->World->Prop} {c x y:Code} {ds:List Deferred} {ro:Option Nat}

theorem qB{f:FuncId}{fn:Func}{args:Array Value}{R:zk}(n:Nat)(hf:P.funcs[f]?=some fn)(hb:fn.body=some c)(hn:fn.ntmps=n)(hle:args.size<=n)
  (h: ∀(w0:World) (Q:Exit->Act->World->Prop),
   (∀a w,a.defers=[]->gG P fn w0 R a w->Q .ret a w/\Q .normal a w)->At n [] w0 (env0 0 args.toList) H (c.wpR none P Q)):HD P f args H (λH'=> ∃v,R v H'):=λw hw=>by
 refine(callsDIn_of_wp (R:=λen w'=> ∃v,en=.returned v/\Same w w'/\R v w'.heap) hf hb trivial (n:=0) ?_).mono ?_
 ·refine h w (bodyPost P fn _) (λa w' hd hl=>?_) _ _ ?_ hw (Same.refl w)
  ·unfold gG at hl
   rw[hd]at hl
   exact⟨⟨hd,hl⟩,⟨hd,hl⟩⟩
  ·refine⟨?_,rfl,λt v hv=>?_⟩
   ·simp only[Array.size_append,Array.size_replicate];omega
   ·obtain⟨_,h2⟩:=lx _ _ _ _ hv
    simp only[Nat.sub_zero,Array.getElem?_toList]at h2
    show(args++Array.replicate (fn.ntmps-args.size) undef)[t]?=some v
    have:t<args.size:=by
     rcases Nat.lt_or_ge t args.size with h | h
     ·exact h
     ·rw[Array.getElem?_eq_none h]at h2;cases h2
    rw[Array.getElem?_append_left this];exact h2
 ·rintro en u w' ⟨hu,v,he,hs,hR⟩
  exact⟨hu,v,he,hs,v,hR⟩

theorem rD{fn:Func}{R:zk}(vs:List Value)
  (hQ: ∀a w,a.defers=[]->gG P fn w0 R a w->Q .ret a w/\Q .normal a w)
  (hres:dh P H e fn.results.toList vs) (h:R (tup vs) H):At n [] w0 e H (Q .ret):=λa w ha hw hs=>
 (hQ a w ha.defers (by unfold gG;rw[ha.defers];exact Shut.leave (λw' vs hr=>hr.run ha rfl) [] w hs (by rw[hw];exact⟨vs,hres,h⟩))).1
theorem qC{fn:Func}{R:zk}(vs:List Value)
  (hQ: ∀a w,a.defers=[]->gG P fn w0 R a w->Q .ret a w/\Q .normal a w)
  (hres:dh P H e fn.results.toList vs) (h:R (tup vs) H):At n [] w0 e H (Q .normal):=λa w ha hw hs=>
 (hQ a w ha.defers (by unfold gG;rw[ha.defers];exact Shut.leave (λw' vs hr=>hr.run ha rfl) [] w hs (by rw[hw];exact⟨vs,hres,h⟩))).2

def sa(P:Program)(ops:Array Oper)(i:Nat)(e:Env)(w:World):Option (Option Tmp×Result Next):=
 match ops.toList.drop i with
 | []=>none
 | o::_=>
  match iv ops e o with
  | some true=>bif (match o.op with | .select .. =>false | _=>true) && allIn e o.op.operands.toList then some (o.dst,(execOp (rho e) o).run P w)else none
  | _=>none
theorem rE{ops:Array Oper}{i:Nat}(d:Option Tmp)(f:FuncId)(args:Array Value)(hx: ∀w,sa P ops i e w=some (d,.ok (.defer (jy f args)) w))(e':Env)(he:dx n e d undef e')
  (h:RegN none P n (jy f args::ds) w0 ops (i+1) e' H Q):RegN none P n ds w0 ops i e H Q:=λa w ha hw hs=>by
 have h1:=hx w
 unfold sa at h1
 cases hd:ops.toList.drop i with
 | nil=>simp[hd]at h1
 | cons o l=>
  simp only[hd]at h1
  cases hwt:iv ops e o with
  | none=>simp[hwt]at h1
  | some b=>
   cases b with
   | false=>simp[hwt]at h1
   | true=>
    simp only[hwt]at h1
    by_cases hok:((match o.op with | .select .. =>false | _=>true) && allIn e o.op.operands.toList)=true
    ·rw[hok]at h1
     simp only[cond_true,Option.some.injEq,Prod.mk.injEq]at h1
     obtain⟨hdst,hrun⟩:=h1
     rw[Bool.and_eq_true]at hok
     have hex:execOp a.eval o=execOp (rho e) o:=by
      refine execOp_congr o (λcs b hs=>by rw[hs]at hok;simp at hok) λx hx=>?_
      have h2:=kz hok.2 x (by simpa using hx)
      obtain⟨v,hv⟩:=Option.isSome_iff_exists.1 h2
      rw[ha.eval hv]
      simp[rho,hv]
     have hl:ops.toList.drop (i+1)=l:=by rw[<-List.drop_drop,hd];rfl
     unfold wpListIn
     rw[ha.wanted hwt]
     simp only[if_true]
     refine⟨λ_ _=>trivial,?_⟩
     rw[show o.semAt (fen none).round a.eval=execOp a.eval o from rfl,hex,hrun]
     simp only[Oper.uponIn]
     rw[hdst]
     have ha2:=ha.putSub he
     have:=h ({a with defers:=jy f args::a.defers}.put d undef) w ⟨by cases d<;>exact ha2.size,by cases d<;>(show _::a.defers=_;rw[ha.defers]),by cases d<;>exact ha2.vals⟩ hw hs
     rw[hl]at this
     exact this
    ·rw[Bool.not_eq_true]at hok
     rw[hok]at h1;simp at h1

theorem leaveD{fn:Func}{R:zk}{f:FuncId}{args:Array Value}(hf:Enters P f){a:Act}{w:World}(ha:Agree n [jy f args] e a)(hw:w.heap=H)(hs:Same w0 w)
  (h:HD P f args H (λH'=> ∃vs,dh P H' e fn.results.toList vs/\R (tup vs) H')):gG P fn w0 R a w:=by
 unfold gG
 rw[ha.defers]
 refine⟨by simp,.inr ⟨λq=>by simp[Fence.wide]at q,.func f,#[],f,args,rfl,?_,λ_ _=>trivial,?_⟩⟩
 ·have:=hf args w
  simpa[invoke,jy]using this
 ·refine(h w hw).mono ?_
  rintro en u w' ⟨rfl,v,rfl,hs2,vs,hr,hR⟩
  show LeavesInM Fence.wide 0 P fn a.tmps _ [] (settle .returning) w'
  exact⟨_,hr.run ha rfl,_,rfl,hs.trans hs2,hR⟩
theorem rF{fn:Func}{R:zk}{f:FuncId}{args:Array Value}(hf:Enters P f)(hQ: ∀a w,gG P fn w0 R a w->Q .ret a w/\Q .normal a w)
  (h:HD P f args H (λH'=> ∃vs,dh P H' e fn.results.toList vs/\R (tup vs) H')):At n [jy f args] w0 e H (Q .ret):=λa w ha hw hs=>(hQ a w (leaveD hf ha hw hs h)).1
end

def Exit.jump(l:Nat)(J:Act->World->Prop)(Q:Exit->Act->World->Prop):Exit->Act->World->Prop
 | .goto l',a,w=>l'=l/\J a w
 | e,a,w=>Q e a w
def li(P:Program)(x:Code)(l:Nat)(Q:Exit->Act->World->Prop)(a:Act)(w:World):Prop:=
 ∀r,findLabel x l=some r-> ∀b k cs,∃e a₁ w₁,Q e a₁ w₁/\Arrives P (lone (b.at a (.code r::.inScope x::k)) cs w) b k cs e a₁ w₁
section
variable {P:Program} {n:Nat} {w0:World} {e e':Env} {H H':zV} {Q:Exit->Act->World->Prop} {K:Act->World->Prop} {c x y:Code} {ds:List Deferred} {ro:Option Nat}
theorem mp{l:Nat}{a:Act}{w:World}(hl:(findLabel x l).isSome=true)(h:x.wp P (Exit.jump l (li P x l Q) Q) a w):(Code.scope x).wp P Q a w:=by
 obtain⟨r,hr⟩:=Option.isSome_iff_exists.1 hl
 intro b k cs
 obtain⟨e,a₁,w₁,hq,harr⟩:=h b (.inScope x::k) cs
 cases e with
 | normal=>exact⟨.normal,a₁,w₁,hq,.head step_scope (Steps.trans harr (.one step_inScope))⟩
 | exit id=>exact⟨.exit id,a₁,w₁,hq,λk' hk=> .head step_scope (harr k' (by simp[exitTo,hk]))⟩
 | goto l'=>
  obtain⟨rfl,hres⟩:=hq
  obtain⟨e₂,a₂,w₂,hq₂,harr₂⟩:=hres r hr b k cs
  exact⟨e₂,a₂,w₂,hq₂,.of_steps (.head step_scope (harr _ (by simp[gotoIn,hr]))) harr₂⟩
 | ret=>exact⟨_,a₁,w₁,hq,.of_steps (.one step_scope) harr⟩
 | panic ch=>exact⟨_,a₁,w₁,hq,.of_steps (.one step_scope) harr⟩
 | outgrown=>exact⟨_,a₁,w₁,hq,.of_steps (.one step_scope) harr⟩
theorem oF{l:Nat}{B:Code}(hl:findLabel x l=some (.seq .skip B))(I:Act->World->Prop)(μ:Act->World->Nat)(round: ∀a w,I a w->B.wp P (Exit.jump l (λa' w'=>I a' w'/\μ a' w'<μ a w) Q) a w):
  ∀(k:Nat) (a:Act) (w:World),μ a w=k->I a w->li P x l Q a w:=by
 intro k
 induction k using Nat.strongRecOn with
 | ind k ih=>
  intro a w hk hI r hr b kk cs
  obtain rfl:Code.seq .skip B=r:=Option.some.inj (hl.symm.trans hr)
  have h1:(Code.seq .skip B).wp P (Exit.jump l (λa' w'=>I a' w'/\μ a' w'<μ a w) Q) a w:=wp_seq (wp_skip (round a w hI))
  obtain⟨e,a₁,w₁,hq,harr⟩:=h1 b (.inScope x::kk) cs
  cases e with
  | normal=>exact⟨.normal,a₁,w₁,hq,Steps.trans harr (.one step_inScope)⟩
  | exit id=>exact⟨.exit id,a₁,w₁,hq,λk' hk=>harr k' (by simp[exitTo,hk])⟩
  | goto l'=>
   obtain⟨rfl,hI₁,hlt⟩:=hq
   obtain⟨e₂,a₂,w₂,hq₂,harr₂⟩:=ih _ (hk▸hlt) a₁ w₁ rfl hI₁ _ hr b kk cs
   exact⟨e₂,a₂,w₂,hq₂,.of_steps (harr _ (by simp[gotoIn,hl])) harr₂⟩
  | ret=>exact⟨_,a₁,w₁,hq,harr⟩
  | panic ch=>exact⟨_,a₁,w₁,hq,harr⟩
  | outgrown=>exact⟨_,a₁,w₁,hq,harr⟩
theorem qD(x:Code)(l:Nat)(hc:c=.scope x)(hl:(findLabel x l).isSome=true)(h:At n ds w0 e H (x.wpR none P (Exit.jump l (li P x l Q) Q))):At n ds w0 e H (c.wpR none P Q):=
 λa w ha hw hs=>by
  rw[hc]
  exact wpIn_wide.2 (mp hl (wpIn_wide.1 (h a w ha hw hs)))
theorem qE(l:Nat)(B:Code)(e0:Env)(I:zV->Prop)(μ:zV->Nat)(hc:c=.seq (.label l) B)(hl:findLabel x l=some (.seq .skip B))(hI:I H)(he:Sub e0 e)
  (round: ∀H',I H'->At n ds w0 e0 H' (B.wpR none P (Exit.jump l (λa w=>Agree n ds e0 a/\Same w0 w/\I w.heap/\μ w.heap<μ H') Q))):
  At n ds w0 e H (c.wpR none P (Exit.jump l (li P x l Q) Q)):=λa w ha hw hs=>by
 have key: ∀a w,(Agree n ds e0 a/\Same w0 w/\I w.heap)->B.wp P (Exit.jump l (λa' w'=>(Agree n ds e0 a'/\Same w0 w'/\I w'.heap)/\μ w'.heap<μ w.heap) Q) a w:=by
  rintro a w ⟨ha,hs,hI⟩
  refine wp_mono (wpIn_wide.1 (round w.heap hI a w ha rfl hs)) ?_
  intro ex a2 w2 hq
  cases ex with
  | goto l'=>
   obtain⟨rfl,h1,h2,h3,h4⟩:=hq
   exact⟨rfl,⟨h1,h2,h3⟩,h4⟩
  | normal=>exact hq
  | exit id=>exact hq
  | ret=>exact hq
  | panic ch=>exact hq
  | outgrown=>exact hq
 have hres:=oF (x:=x) hl (λa w=>Agree n ds e0 a/\Same w0 w/\I w.heap) (λ_ w=>μ w.heap) key
 rw[hc]
 refine wpIn_wide.2 (wp_seq (wp_label ?_))
 refine wp_mono (key a w ⟨ha.sub he,hs,hw▸hI⟩) ?_
 intro ex a2 w2 hq
 cases ex with
 | goto l'=>exact⟨hq.1,hres _ a2 w2 rfl hq.2.1⟩
 | normal=>exact hq
 | exit id=>exact hq
 | ret=>exact hq
 | panic ch=>exact hq
 | outgrown=>exact hq
theorem sn(l:Nat)(hc:c=.goto l)(h:At n ds w0 e H (Q (.goto l))):At n ds w0 e H (c.wpR ro P Q):=
 λa w ha hw hs=>by rw[hc];exact wpIn_goto (h a w ha hw hs)
theorem jM{l:Nat}(h:At n ds w0 e H (Q (.goto l))):At n ds w0 e H (Exit.then K Q (.goto l)):=h
theorem kQ{id l:Nat}(h:At n ds w0 e H (Q (.goto l))):At n ds w0 e H (Exit.inBlock id Q (.goto l)):=h
theorem so{l:Nat}{e0:Env}{I:zV->Prop}{μ:zV->Nat}{H0:zV}(he:Sub e0 e)(hI:I H/\μ H<μ H0):
  At n ds w0 e H (Exit.jump l (λa w=>Agree n ds e0 a/\Same w0 w/\I w.heap/\μ w.heap<μ H0) Q (.goto l)):=
 λa w ha hw hs=>⟨rfl,ha.sub he,hs,by rw[hw];exact hI.1,by rw[hw];exact hI.2⟩
end
