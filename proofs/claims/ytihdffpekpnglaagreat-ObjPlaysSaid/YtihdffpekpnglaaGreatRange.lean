/-
 A string that is ranged over, runes that become a string, said of heaps. Proves nothing of any one program.
-/
import Derived.Laws.Externs
import Derived.Test.YtihdffpekpnglaaGreatOwn
import Derived.Laws.IdiomStrings
import Derived.Shelf.Abstract
import Derived.RangeFuncNested
set_option linter.unusedVariables false
set_option linter.unusedSimpArgs false
namespace Go.Proofs.YtihdffpekpnglaaGreat
open Go

def nK(it:Value)(st:Bool)(ty:TypeId):Sem Next:=do pure (.value (<-Instr.next it st ty))
theorem lV{P:Program}{w:World}{r pos:Nat}{s:ByteArray}(h:w.heap[r]?=some (.stringIter s pos)):(getObj r).run P w=.ok (.stringIter s pos) w:=by
 show Sem.run P (Sem.getObj r Sem.pure) w=_
 simp only[Sem.run,h]
theorem oJ{P:Program}{w:World}{r pos:Nat}{s:ByteArray}{o:Obj}(h:w.heap[r]?=some (.stringIter s pos)):(setObj r o).run P w=.ok () {w with heap:=w.heap.setIfInBounds r o}:=by
 show Sem.run P (Sem.setObj r o (Sem.pure ())) w=_
 simp only[Sem.run,h]
theorem sH{P:Program}{H:zW}{b:Nat}{s:ByteArray}{pos:Nat}{ty:TypeId}(hb:H[b]?=some (.stringIter s pos))(hp:pos<s.size):
  SS P (nK (.pointer (some ⟨b,0,none⟩)) true ty) H (λv H'=>v=.tuple #[.bool true,.int .i64 pos,.int .i32 (Utf8.decode s pos).1]/\H'=iu H b (.stringIter s (pos+(Utf8.decode s pos).2))):=λw hw=>by
 have hb':w.heap[b]?=some (.stringIter s pos):=by rw[hw];exact hb
 refine⟨_,{w with heap:=w.heap.setIfInBounds b (.stringIter s (pos+(Utf8.decode s pos).2))},?_,⟨rfl,rfl,rfl,Nat.le_refl _⟩,rfl,by rw[<-hw];rfl⟩
 unfold nK Instr.next
 simp only[bind_assoc]
 rw[run_bind_ok (lV hb')]
 simp only[hp,if_true]
 rw[bind_assoc,run_bind_ok (oJ hb')]
 rfl
theorem rH{P:Program}{H:zW}{b:Nat}{s:ByteArray}{pos:Nat}{ty:TypeId}(hb:H[b]?=some (.stringIter s pos))(hp: ¬pos<s.size):
  SS P (nK (.pointer (some ⟨b,0,none⟩)) true ty) H (λv H'=>v=.tuple #[.bool false]/\H'=H):=λw hw=>by
 have hb':w.heap[b]?=some (.stringIter s pos):=by rw[hw];exact hb
 refine⟨_,w,?_,Same.refl w,rfl,hw⟩
 unfold nK Instr.next
 simp only[bind_assoc]
 rw[run_bind_ok (lV hb')]
 simp only[hp,if_false]
 rfl

def il(rs:List Int):ByteArray:=rs.foldl (λs n=>s++Utf8.encode n) ByteArray.empty
def jL(src dst:TypeId)(x:Value):Sem Next:=do pure (.value (<-convert src dst x))
theorem mI{P:Program}{w:World}(f:Value->ByteArray->Sem (ForInStep ByteArray))(hf: ∀n s,f (.int .i32 n) s=pure (ForInStep.yield (s++Utf8.encode n))): ∀(rs:List Int) (s:ByteArray),
  (forIn (rs.map (Value.int .i32)) s f).run P w=.ok (rs.foldl (λs n=>s++Utf8.encode n) s) w
 | [],s=>rfl
 | r::rs,s=>by
  simp only[List.map_cons,List.forIn_cons,List.foldl_cons]
  rw[hf]
  exact mI f hf rs (s++Utf8.encode r)
theorem lk{P:Program}{w:World}{b:zY}{n c:Nat}{rs:List Int}(h:cY w.heap b (rs.map (Value.int .i32)))(hl:b≠none->rs.length=n):(Conv.runesToString (.slice b n c)).run P w=.ok (.string (il rs)) w:=by
 cases b with
 | none=>
  have:rs.map (Value.int .i32)=[]:=h
  simp at this
  subst this
  rfl
 | some a=>
  have hn:=hl (by simp)
  unfold Conv.runesToString
  simp only
  have h1:(loadCells a n).run P w=.ok (rs.map (Value.int .i32)).toArray w:=by
   unfold loadCells
   have:=iN (P:=P) (rs.map (Value.int .i32)) 0 #[] h
   rw[List.length_map,hn]at this
   simpa using this
  rw[run_bind_ok h1]
  rw[List.forIn_toArray]
  refine(run_bind_ok (mI _ (λn s=>rfl) rs ByteArray.empty)).trans ?_
  rfl
theorem kO{P:Program}{w:World}{sT dT e:TypeId}{b:zY}{n c:Nat}{rs:List Int}(hs:P.underlying sT=some (.slice e))(hd:P.underlying dT=some .string)(he:P.underlying e=some (.int .i32))(h:cY w.heap b (rs.map (Value.int .i32)))(hl:b≠none->rs.length=n):
  (jL sT dT (.slice b n c)).run P w=.ok (.value (.string (il rs))) w:=by
 have us: ∀w,(underlying sT).run P w=.ok (.slice e) w:=λw=>by simp[underlying,program,Sem.run,hs,Sem.run_bind,pure,Result.andThen]
 have ud: ∀w,(underlying dT).run P w=.ok .string w:=λw=>by simp[underlying,program,Sem.run,hd,Sem.run_bind,pure,Result.andThen]
 have ue: ∀w,(underlying e).run P w=.ok (.int .i32) w:=λw=>by simp[underlying,program,Sem.run,he,Sem.run_bind,pure,Result.andThen]
 unfold jL convert
 simp only[bind_assoc]
 rw[run_bind_ok (us w),run_bind_ok (ud w)]
 simp only[bind_assoc]
 rw[run_bind_ok (ue w)]
 simp only[]
 rw[run_bind_ok (lk h hl)]
 rfl

theorem kw(s:ByteArray): ∀(k i:Nat) (acc:Array Value),∃rs:List Int,(Conv.runesFrom s k i acc).toList=acc.toList++rs.map (Value.int .i32)
 | 0,_,acc=>⟨[],by simp[Conv.runesFrom]⟩
 | k+1,i,acc=>by
  unfold Conv.runesFrom
  by_cases h:i<s.size
  ·rw[if_pos h]
   obtain⟨rs,e⟩:=kw s k (i+(Utf8.decode s i).2) (acc.push (.int .i32 (Int.ofNat (Utf8.decode s i).1)))
   exact⟨Int.ofNat (Utf8.decode s i).1::rs,by rw[e];simp⟩
  ·rw[if_neg h];exact⟨[],by simp⟩
def mJ(e:TypeId)(s:ByteArray)(H:zW)(K:zY->Nat->Nat->zW->Prop):Prop:=
 ∀rs:List Int,Conv.runesFrom s s.size 0 #[]=(rs.map (Value.int .i32)).toArray->rs.length<=70368744177664/\
  ∀(c b:Nat) (H':zW),rs.length<=c->b=H.size->H'=H.push (.cells ((rs.map (Value.int .i32)).toArray++Array.replicate (c-rs.length) (.int .i32 0)) e)->K (some ⟨b,0,none⟩) rs.length c H'
theorem pU{P:Program}{H:zW}{src dst e:TypeId}{s:ByteArray}{K:zY->Nat->Nat->zW->Prop}(hs:P.underlying src=some .string)(hd:P.underlying dst=some (.slice e))(he:P.underlying e=some (.int .i32))
  (h:mJ e s H K):SS P (jL src dst (.string s)) H (λv H'=> ∃b n c,v=.slice b n c/\K b n c H'):=λw hw=>by
 obtain⟨rs,hrs⟩:=kw s s.size 0 #[]
 have hrs:Conv.runesFrom s s.size 0 #[]=(rs.map (Value.int .i32)).toArray:=by apply Array.toList_inj.1;rw[hrs];simp
 obtain⟨h46,hk⟩:=h rs hrs
 have hn:(Conv.runesFrom s s.size 0 #[]).size=rs.length:=by rw[hrs];simp
 have hrun:=run_runes_of_string (P:=P) w src dst e s hs hd he (by rw[hn];exact h46)
 rw[hn,hrs]at hrun
 refine⟨_,w.drew.alloc (.cells ((rs.map (Value.int .i32)).toArray++Array.replicate (grownCap w rs.length 0 e-rs.length) (.int .i32 0)) e),?_,⟨rfl,rfl,rfl,Nat.le_succ _⟩,some ⟨w.heap.size,0,none⟩,rs.length,grownCap w rs.length 0 e,rfl,?_⟩
 ·unfold jL;rw[run_bind_ok hrun];rfl
 ·exact hk _ _ _ (grownCap_ge w rs.length 0 e) (by rw[hw]) (by rw[<-hw];rfl)
variable {ds:List Deferred} {ro:Option Nat}

def Back(R:zv)(w:World):Ending->World->Prop:=λe w'=> ∃v,e=.returned v/\Same w w'/\R v w'.heap
def FE(P:Program)(fv:Value)(args:Array Value)(H:zW)(R:zv):Prop:=
 ∃(f:FuncId) (first caps:Array Value),fv=.func (.func f) first caps/\Enters P f/\HC P f (first++args++caps) H R
def YC(P:Program)(fv:Value)(args:Array Value)(H:zW)(R:zv):Prop:=
 ∃l,fv=.func (.yield l) #[] #[]/\ ∀w,w.heap=H-> ∃fn tmps assign body,(Instr.yield l args).run P w=.ok (.round l fn tmps assign body) w/\RoundIn Fence.wide 0 P l fn tmps assign body w (Back R w)
def FC(P:Program)(fv:Value)(args:Array Value)(H:zW)(R:zv):Prop:=FE P fv args H R\/YC P fv args H R
theorem FE.mono{P:Program}{fv:Value}{args:Array Value}{H:zW}{R R':zv}(h:FE P fv args H R)(hr: ∀v H',R v H'->R' v H'):FE P fv args H R':=by
 obtain⟨f,first,caps,hf,he,hc⟩:=h
 exact⟨f,first,caps,hf,he,hc.mono hr⟩
theorem YC.mono{P:Program}{fv:Value}{args:Array Value}{H:zW}{R R':zv}(h:YC P fv args H R)(hr: ∀v H',R v H'->R' v H'):YC P fv args H R':=by
 obtain⟨l,hf,hc⟩:=h
 refine⟨l,hf,λw hw=>?_⟩
 obtain⟨fn,tmps,assign,body,h1,h2⟩:=hc w hw
 exact⟨fn,tmps,assign,body,h1,h2.mono λe w' ⟨v,h3,h4,h5⟩=>⟨v,h3,h4,hr _ _ h5⟩⟩
theorem FC.mono{P:Program}{fv:Value}{args:Array Value}{H:zW}{R R':zv}(h:FC P fv args H R)(hr: ∀v H',R v H'->R' v H'):FC P fv args H R':=
 h.elim (λh=> .inl (h.mono hr)) (λh=> .inr (h.mono hr))
section
variable {P:Program} {n:Nat} {w0:World} {e e':Env} {H H':zW} {Q:Exit->Act->World->Prop} {K:Act->World->Prop} {c x y:Code}

end
theorem oK{ro:Option Nat}{P:Program}{md:Region.Mode}{ops:Array Oper}{Q:Exit->Act->World->Prop}{S S':Array Bool->World->Prop}(hS: ∀L w,S' L w->S L w): ∀(fuel:Nat) (L:Array Bool) (a:Act) (w:World),wpG ro P md ops Q S' fuel L a w->wpG ro P md ops Q S fuel L a w
 | 0,_,_,_,h=>h
 | fuel+1,_,_,_,h=>⟨h.1,λi hi=>wpOpIn_mono (λa' w' h'=>⟨hS _ _ h'.1,oK hS fuel _ a' w' h'.2⟩) (h.2 i hi)⟩
theorem mK{P:Program}{n:Nat}{ds:List Deferred}{ro:Option Nat}{w0:World}{e:Env}{H:zW}{Q:Exit->Act->World->Prop}{ops:Array Oper}{fs:Facts}{fuel:Nat}{L:Array Bool}(f:Nat×Addr×List Value)(hf:aG H f.2.1 0 f.2.2)
  (h:RegG ro P n ds w0 ops (f::fs) fuel L e H Q):RegG ro P n ds w0 ops fs fuel L e H Q:=λa w ha hw hs hc hfo=>
 oK (λL w h g hg hL=>h g (List.mem_cons_of_mem _ hg) hL) fuel L a w (h a w ha hw hs hc (λg hg hL=>by
  cases hg with
  | head=>rw[hw];exact hf
  | tail _ hm=>exact hfo g hm hL))
abbrev vi(n:Int):Value:=.int .i64 n
abbrev vu(n:Int):Value:=.int .u64 n
abbrev vp(a:zY):Value:=.pointer a
abbrev vs(b:zY)(n c:Nat):Value:=.slice b n c
abbrev pa(b:Nat):zY:=some (Addr.mk b 0 none)
theorem BL:(∀b:Bool,(true || b)=true)/\(∀b:Bool,(false || b)=b)/\(∀b:Bool,(b || true)=true)/\(∀b:Bool,(b || false)=b)/\(∀b:Bool,(true && b)=b)/\(∀b:Bool,(false && b)=false)/\(∀b:Bool,(b && true)=b)/\(∀b:Bool,(b && false)=false)/\((!true)=false)/\((!false)=true)/\(∀x y:Bool,cond true x y=x)/\(∀x y:Bool,cond false x y=y):=
 ⟨by simp,by simp,by simp,by simp,by simp,by simp,by simp,by simp,rfl,rfl,by simp,by simp⟩
abbrev ca(c:Code):Code:=Code.fa c
abbrev cb(c:Code):Code:=Code.fb c
def bv(n m:Nat):Array Bool:=((List.range n).map λi=>m.testBit i).toArray
abbrev ad(b:Nat):Addr:=Addr.mk b 0 none
abbrev DR(a b:Int)(c:Bool)(d:zY)(e f:Nat)(g:ByteArray)(i:zY)(j k:Nat):List Value:=[.int .i64 a,.int .i32 b,.bool c,.slice d e f,.string g,.slice i j k]
def mN(k:Nat)(l:List Nat):Bool:=l.foldr (λx r=>cond (Nat.beq x k) true r) false
def ed(d:List Nat)(a:Env)(e:Env):Env:=e.foldr (λp r=>cond (mN p.1 d) r (p::r)) a
theorem T_en{P:Program}{f:FuncId}{fn:Func}(c:Code)(n:Nat){args:Array Value}{H:zW}{R:zv}(hf:P.funcs[f]?=some fn)
  (h: ∀(w0:World) (Q:Exit->Act->World->Prop),(∀a w,kL P fn w0 R a w->Q .ret a w/\Q .normal a w)->At n [] w0 (env0 0 args.toList) H (c.wpR none P Q)) (hb:fn.body=some c:=by kernel_rfl) (hn:fn.ntmps=n:=by kernel_rfl) (hle:Nat.ble args.size n=true:=by kernel_rfl):HC P f args H R:=
 sx n hf hb hn (Nat.le_of_ble_eq_true hle) h
section
variable {P:Program} {n:Nat} {ds:List Deferred} {ro:Option Nat} {w0:World} {e:Env} {H:zW} {Q Q':Exit->Act->World->Prop} {K:Act->World->Prop} {c:Code} {ops:Array Oper} {i:Nat}
theorem sk{e' e:Env}(h:e'.map (λp=>e.get p.1)=e'.map (λp=>some p.2):=by kernel_rfl):Sub e' e:=h
theorem pk{n:Nat}{e:Env}{d:Option Nat}{v:Value}{e':Env}(h:(putS n e d v).map (λe1=>e'.map (λp=>e1.get p.1))=some (e'.map (λp=>some p.2)):=by kernel_rfl):gn n e d v e':=h
theorem T_sr(id:Nat)(x y:Code)(h:RegN ro P n ds w0 (Code.ops x) 0 e H (Exit.then (y.wpR ro P Q) Q))(hc:c=.seq x y:=by kernel_rfl)(hx:x=.region id (Code.ops x) false:=by kernel_rfl):At n ds w0 e H (c.wpR ro P Q):=
 rx x y hc (my id (Code.ops x) hx h)
theorem T_e(h:At n ds w0 e H K)(hi:ops.toList.drop i=[]:=by kernel_rfl):RegN ro P n ds w0 ops i e H (Exit.then K Q):=qy hi (aE h)
theorem T_n(k:Nat)(e':Env)(h:RegN ro P n ds w0 ops (i+k) e' H Q)(hr: ∀w,sel e' (runS P n ops ((ops.toList.drop i).take k) e w)=keep e' w:=by intro _;kernel_rfl):RegN ro P n ds w0 ops i e H Q:=qA k e' hr h
theorem T_ne(k:Nat)(e':Env)(h:At n ds w0 e' H K)(hr: ∀w,sel e' (runS P n ops ((ops.toList.drop i).take k) e w)=keep e' w:=by intro _;kernel_rfl)(hi:ops.toList.drop (i+k)=[]:=by kernel_rfl):RegN ro P n ds w0 ops i e H (Exit.then K Q):=
 qA k e' hr (qy hi (aE h))
theorem T_s(x y:Code)(h:At n ds w0 e H (x.wpR ro P (Exit.then (y.wpR ro P Q) Q)))(hc:c=.seq x y:=by kernel_rfl):At n ds w0 e H (c.wpR ro P Q):=rx x y hc h
theorem T_t(o:Tmp)(x y:Code)(h:At n ds w0 e H (x.wpR ro P Q))(hc:c=.cond (.tmp o) x y:=by kernel_rfl)(hv:iM e (.tmp o)=some (.bool true):=by kernel_rfl):At n ds w0 e H (c.wpR ro P Q):=kI (.tmp o) x y hc hv h
theorem T_f(o:Tmp)(x y:Code)(h:At n ds w0 e H (y.wpR ro P Q))(hc:c=.cond (.tmp o) x y:=by kernel_rfl)(hv:iM e (.tmp o)=some (.bool false):=by kernel_rfl):At n ds w0 e H (c.wpR ro P Q):=ka (.tmp o) x y hc hv h
theorem T_cT(o:Tmp)(x y:Code){b:Bool}(hb:b=true)(h:At n ds w0 e H (x.wpR ro P Q))(hc:c=.cond (.tmp o) x y:=by kernel_rfl)(hv:iM e (.tmp o)=some (.bool b):=by kernel_rfl):At n ds w0 e H (c.wpR ro P Q):=kI (.tmp o) x y hc (by rw[hv,hb]) h
theorem T_cF(o:Tmp)(x y:Code){b:Bool}(hb:b=false)(h:At n ds w0 e H (y.wpR ro P Q))(hc:c=.cond (.tmp o) x y:=by kernel_rfl)(hv:iM e (.tmp o)=some (.bool b):=by kernel_rfl):At n ds w0 e H (c.wpR ro P Q):=ka (.tmp o) x y hc (by rw[hv,hb]) h
theorem T_nT(o:Tmp)(x y:Code){b:Bool}(hb:b=false)(h:At n ds w0 e H (x.wpR ro P Q))(hc:c=.cond (.tmp o) x y:=by kernel_rfl)(hv:iM e (.tmp o)=some (.bool (!b)):=by kernel_rfl):At n ds w0 e H (c.wpR ro P Q):=kI (.tmp o) x y hc (by rw[hv,hb];rfl) h
theorem T_nF(o:Tmp)(x y:Code){b:Bool}(hb:b=true)(h:At n ds w0 e H (y.wpR ro P Q))(hc:c=.cond (.tmp o) x y:=by kernel_rfl)(hv:iM e (.tmp o)=some (.bool (!b)):=by kernel_rfl):At n ds w0 e H (c.wpR ro P Q):=ka (.tmp o) x y hc (by rw[hv,hb];rfl) h
theorem T_k(h:At n ds w0 e H (Q .normal))(hc:c=.skip:=by kernel_rfl):At n ds w0 e H (c.wpR ro P Q):=ry hc h
theorem T_kt(h:At n ds w0 e H K)(hc:c=.skip:=by kernel_rfl):At n ds w0 e H (c.wpR ro P (Exit.then K Q)):=ry hc (aE h)
theorem T_b(id:Nat)(x:Code)(h:At n ds w0 e H (x.wpR ro P (Exit.inBlock id Q)))(hc:c=.block id x:=by kernel_rfl):At n ds w0 e H (c.wpR ro P Q):=qx id x hc h
theorem T_r(id:Nat)(x:Code)(h:RegN ro P n ds w0 (Code.ops x) 0 e H Q)(hc:c=.region id (Code.ops x) false:=by kernel_rfl):At n ds w0 e H (c.wpR ro P Q):=my id (Code.ops x) hc h
theorem T_rq(id:Nat)(x:Code)(h:RegQ P n ds w0 (Code.ops x) 0 e H Q)(hc:c=.region id (Code.ops x) true:=by kernel_rfl)(hm:P.follows .mixedOrders=true:=by kernel_rfl)(hB:Region.lexB .any (Code.ops x)=true:=by kernel_rfl):At n ds w0 e H (c.wpR none P Q):=nG id (Code.ops x) hc hm hB h
theorem T_su(e':Env)(h:At n ds w0 e' H K)(hs:e'.map (λp=>e.get p.1)=e'.map (λp=>some p.2):=by kernel_rfl):At n ds w0 e H K:=rv e' hs h
theorem T_nu(e':Env)(h:RegN ro P n ds w0 ops i e' H Q)(hs:e'.map (λp=>e.get p.1)=e'.map (λp=>some p.2):=by kernel_rfl):RegN ro P n ds w0 ops i e H Q:=rB e' hs h
theorem ie{fn:Func}{R:zv}(ts:List Nat)(vs:List Value)(hQ: ∀a w,kL P fn w0 R a w->Q .ret a w/\Q .normal a w)(h:R (tup vs) H)(hc:c=.ret:=by kernel_rfl)(hq:Q' .ret=Q .ret:=by exact rfl)
  (hf:fn.results.toList=ts.map .tmp:=by kernel_rfl) (hv:ts.map e.get=vs.map some:=by kernel_rfl):At n [] w0 e H (c.wpR ro P Q'):=by
 refine sP hc ?_
 rw[hq]
 refine cP vs hQ ?_ h
 rw[hf];clear hf h
 induction ts generalizing vs with
 | nil=>cases vs with | nil=>exact .nil | cons v l=>cases hv
 | cons t ts ih=>
  cases vs with
  | nil=>cases hv
  | cons v l=>
   rw[List.map_cons,List.map_cons,List.cons.injEq]at hv
   exact .tmp hv.1 (ih l hv.2)
theorem T_q(d:Option Tmp)(v:Value)(e':Env)(h:RegQ P n ds w0 ops (i+1) e' H Q)(hd:(ops.toList.drop i).head?.map (·.dst)=some d:=by kernel_rfl)
  (hv: ∀w,((ops.toList.drop i).head?.bind λo=>mD P ops o e w)=some (v,w):=by intro _;kernel_rfl) (he:(putS n e d v).map (λe1=>e'.map (λp=>e1.get p.1))=some (e'.map (λp=>some p.2)):=by kernel_rfl):RegQ P n ds w0 ops i e H Q:=sQ v e' d hd hv he h
theorem T_qe(h:At n ds w0 e H K)(hi:ops.toList.drop i=[]:=by kernel_rfl):RegQ P n ds w0 ops i e H (Exit.then K Q):=rz hi (aE h)
theorem T_v(d:Option Tmp)(S:Sem Next)(v:Value)(hS: ∀w,w.heap=H->S.run P w=.ok (.value v) w)(e':Env)(h:RegN ro P n ds w0 ops (i+1) e' H Q)(hx: ∀w,dY P ops i e w=some (d,S.run P w):=by intro _;kernel_rfl)
  (he:(putS n e d v).map (λe1=>e'.map (λp=>e1.get p.1))=some (e'.map (λp=>some p.2)):=by kernel_rfl):RegN ro P n ds w0 ops i e H Q:=nH d S v hx hS e' he h
theorem T_l(d:Option Tmp)(t:TypeId){a:Addr}{v:Value}(q:hat H a=some v)(e':Env)(h:RegN ro P n ds w0 ops (i+1) e' H Q)(hx: ∀w,dY P ops i e w=some (d,(aT t (.pointer (some a))).run P w):=by intro _;kernel_rfl)
  (hg: ∀w,(isAgg t).run P w=.ok false w:=by intro _;kernel_rfl) (he:(putS n e d v).map (λe1=>e'.map (λp=>e1.get p.1))=some (e'.map (λp=>some p.2)):=by kernel_rfl):RegN ro P n ds w0 ops i e H Q:=
 nH d (aT t (.pointer (some a))) v hx (hG (jf hg q)) e' he h
theorem T_ql(d:Option Tmp)(t:TypeId){a:Addr}{v:Value}(q:hat H a=some v)(e':Env)(h:RegQ P n ds w0 ops (i+1) e' H Q)(hx: ∀w,dY P ops i e w=some (d,(aT t (.pointer (some a))).run P w):=by intro _;kernel_rfl)
  (hg: ∀w,(isAgg t).run P w=.ok false w:=by intro _;kernel_rfl) (he:(putS n e d v).map (λe1=>e'.map (λp=>e1.get p.1))=some (e'.map (λp=>some p.2)):=by kernel_rfl):RegQ P n ds w0 ops i e H Q:=
 Q_op d (aT t (.pointer (some a))) v hx (hG (jf hg q)) e' he h
theorem T_ix(d:Option Tmp)(t elem sz:Nat)(a:Addr)(len cap:Nat)(k:IntKind)(j:Int)(hu:P.underlying t=some (.slice elem))(h0:0<=j)(h1:j<len)(e':Env)(h:RegN ro P n ds w0 ops (i+1) e' H Q)
  (hz: ∀w,(sizeOf elem).run P w=.ok sz w:=by intro _;kernel_rfl) (hx: ∀w,dY P ops i e w=some (d,(bD t (.slice (some a) len cap) (.int k j)).run P w):=by intro _;kernel_rfl)
  (he:(putS n e d (.pointer (some (a.add (Int.toNat j*sz))))).map (λe1=>e'.map (λp=>e1.get p.1))=some (e'.map (λp=>some p.2)):=by kernel_rfl):RegN ro P n ds w0 ops i e H Q:=
 nH d (bD t (.slice (some a) len cap) (.int k j)) (.pointer (some (a.add (Int.toNat j*sz)))) hx (λw _=>bR hu hz h0 h1 w) e' he h
theorem T_g{fs:Facts}{fuel:Nat}{L:Array Bool}(i:Nat)(d:Option Tmp)(v:Value)(L':Array Bool)(e':Env)(S:Sem Next)(hS: ∀L w,Closed .any ops L->L.getD i true=false->fZ fs L w->S.run P w=.ok (.value v) w)
  (h:RegG ro P n ds w0 ops fs fuel L' e' H Q) (hx: ∀w,dY P ops i e w=some (d,S.run P w):=by intro _;kernel_rfl)
  (hr:(Region.ready .any ops L).contains i=true:=by kernel_rfl) (hsel:Region.noSelect ops=true:=by kernel_rfl) (hdef:iX ops=true:=by kernel_rfl) (hf:Region.free .any ops L i=true:=by kernel_rfl) (hfs:fs.all (λf=>f.1 !=i)=true:=by kernel_rfl) (hL:L.setIfInBounds i true=L':=by kernel_rfl)
  (he:(putS n e d v).map (λe1=>e'.map (λp=>e1.get p.1))=some (e'.map (λp=>some p.2)):=by kernel_rfl):RegG ro P n ds w0 ops fs (fuel+1) L e H Q:=lF i d v L' e' S hx hS hr hsel hdef hf hfs hL he h
theorem T_c{f:FuncId}{args:Array Value}{R:zv}(d:Option Tmp)(hc:HC P f args H R)(h: ∀v H',R v H'-> ∃e',gn n e d v e'/\RegN ro P n ds w0 ops (i+1) e' H' Q)(hx: ∀w,dY P ops i e w=some (d,.ok (.enter f args) w):=by intro _;kernel_rfl):RegN ro P n ds w0 ops i e H Q:=sU d f args hx hc h
theorem T_nw(d:Option Tmp)(f:Nat->Value)(o:Obj)(h: ∀b H',b=H.size->H'=H.push o-> ∃e',gn n e d (f b) e'/\RegN ro P n ds w0 ops (i+1) e' H' Q)(hx: ∀w,dY P ops i e w=some (d,.ok (.value (f w.heap.size)) {w with heap:=w.heap.push o}):=by intro _;kernel_rfl):RegN ro P n ds w0 ops i e H Q:=tr d f o hx h
theorem T_gs{fs:Facts}{fuel:Nat}{L:Array Bool}(i:Nat)(d:Option Tmp)(L':Array Bool)(e':Env)(h:RegG ro P n ds w0 ops fs fuel L' e' H Q)(hx:(ops[i]?).bind (λo=>(j2 ops e o).map (λb=>(o.dst,b)))=some (d,false):=by kernel_rfl)
  (hr:(Region.ready .any ops L).contains i=true:=by kernel_rfl) (hsel:Region.noSelect ops=true:=by kernel_rfl) (hdef:iX ops=true:=by kernel_rfl) (hf:Region.free .any ops L i=true:=by kernel_rfl) (hfs:fs.all (λf=>f.1 !=i)=true:=by kernel_rfl) (hL:L.setIfInBounds i true=L':=by kernel_rfl)
  (he:(putS n e d undef).map (λe1=>e'.map (λp=>e1.get p.1))=some (e'.map (λp=>some p.2)):=by kernel_rfl):RegG ro P n ds w0 ops fs (fuel+1) L e H Q:=rE i d L' e' hx hr hsel hdef hf hfs hL he h
theorem T_gp{fs:Facts}{fuel:Nat}{L:Array Bool}(i:Nat)(d:Option Tmp)(v:Value)(L':Array Bool)(e':Env)
  (h:RegG ro P n ds w0 ops fs fuel L' e' H Q) (hx: ∀w,dY P ops i e w=some (d,(pure (.value v):Sem Next).run P w):=by intro _;kernel_rfl)
  (hr:(Region.ready .any ops L).contains i=true:=by kernel_rfl) (hsel:Region.noSelect ops=true:=by kernel_rfl) (hdef:iX ops=true:=by kernel_rfl) (hf:Region.free .any ops L i=true:=by kernel_rfl) (hfs:fs.all (λf=>f.1 !=i)=true:=by kernel_rfl) (hL:L.setIfInBounds i true=L':=by kernel_rfl)
  (he:(putS n e d v).map (λe1=>e'.map (λp=>e1.get p.1))=some (e'.map (λp=>some p.2)):=by kernel_rfl):RegG ro P n ds w0 ops fs (fuel+1) L e H Q:=lF i d v L' e' (pure (.value v)) hx (λ_ _ _ _ _=>rfl) hr hsel hdef hf hfs hL he h
theorem T_nd(k:Nat)(dl:List Nat)(al:Env)(h:RegN ro P n ds w0 ops (i+k) (ed dl al e) H Q)(hr: ∀w,sel (ed dl al e) (runS P n ops ((ops.toList.drop i).take k) e w)=keep (ed dl al e) w:=by intro _;kernel_rfl):RegN ro P n ds w0 ops i e H Q:=qA k _ hr h
theorem T_ed(k:Nat)(dl:List Nat)(al:Env)(h:At n ds w0 (ed dl al e) H K)(hr: ∀w,sel (ed dl al e) (runS P n ops ((ops.toList.drop i).take k) e w)=keep (ed dl al e) w:=by intro _;kernel_rfl)(hi:ops.toList.drop (i+k)=[]:=by kernel_rfl):RegN ro P n ds w0 ops i e H (Exit.then K Q):=
 qA k _ hr (qy hi (aE h))
theorem T_sd(dl:List Nat)(al:Env)(h:At n ds w0 (ed dl al e) H K)(hs:(ed dl al e).map (λp=>e.get p.1)=(ed dl al e).map (λp=>some p.2):=by kernel_rfl):At n ds w0 e H K:=rv _ hs h
theorem T_ud(dl:List Nat)(al:Env)(h:RegN ro P n ds w0 ops i (ed dl al e) H Q)(hs:(ed dl al e).map (λp=>e.get p.1)=(ed dl al e).map (λp=>some p.2):=by kernel_rfl):RegN ro P n ds w0 ops i e H Q:=rB _ hs h
theorem T_qd(d:Option Tmp)(v:Value)(dl:List Nat)(al:Env)(h:RegQ P n ds w0 ops (i+1) (ed dl al e) H Q)(hd:(ops.toList.drop i).head?.map (·.dst)=some d:=by kernel_rfl)
  (hv: ∀w,((ops.toList.drop i).head?.bind λo=>mD P ops o e w)=some (v,w):=by intro _;kernel_rfl) (he:(putS n e d v).map (λe1=>(ed dl al e).map (λp=>e1.get p.1))=some ((ed dl al e).map (λp=>some p.2)):=by kernel_rfl):RegQ P n ds w0 ops i e H Q:=sQ v _ d hd hv he h
theorem T_vd(d:Option Tmp)(S:Sem Next)(v:Value)(hS: ∀w,w.heap=H->S.run P w=.ok (.value v) w)(dl:List Nat)(al:Env)(h:RegN ro P n ds w0 ops (i+1) (ed dl al e) H Q)(hx: ∀w,dY P ops i e w=some (d,S.run P w):=by intro _;kernel_rfl)
  (he:(putS n e d v).map (λe1=>(ed dl al e).map (λp=>e1.get p.1))=some ((ed dl al e).map (λp=>some p.2)):=by kernel_rfl):RegN ro P n ds w0 ops i e H Q:=nH d S v hx hS _ he h
theorem T_ld(d:Option Tmp)(t:TypeId){a:Addr}{v:Value}(q:hat H a=some v)(dl:List Nat)(al:Env)(h:RegN ro P n ds w0 ops (i+1) (ed dl al e) H Q)(hx: ∀w,dY P ops i e w=some (d,(aT t (.pointer (some a))).run P w):=by intro _;kernel_rfl)
  (hg: ∀w,(isAgg t).run P w=.ok false w:=by intro _;kernel_rfl) (he:(putS n e d v).map (λe1=>(ed dl al e).map (λp=>e1.get p.1))=some ((ed dl al e).map (λp=>some p.2)):=by kernel_rfl):RegN ro P n ds w0 ops i e H Q:=
 nH d (aT t (.pointer (some a))) v hx (hG (jf hg q)) _ he h
theorem iL(d:Option Tmp)(t:TypeId){a:Addr}{v:Value}(q:hat H a=some v)(dl:List Nat)(al:Env)(h:RegQ P n ds w0 ops (i+1) (ed dl al e) H Q)(hx: ∀w,dY P ops i e w=some (d,(aT t (.pointer (some a))).run P w):=by intro _;kernel_rfl)
  (hg: ∀w,(isAgg t).run P w=.ok false w:=by intro _;kernel_rfl) (he:(putS n e d v).map (λe1=>(ed dl al e).map (λp=>e1.get p.1))=some ((ed dl al e).map (λp=>some p.2)):=by kernel_rfl):RegQ P n ds w0 ops i e H Q:=
 Q_op d (aT t (.pointer (some a))) v hx (hG (jf hg q)) _ he h
theorem T_xd(d:Option Tmp)(t elem sz:Nat)(a:Addr)(len cap:Nat)(k:IntKind)(j:Int)(hu:P.underlying t=some (.slice elem))(h0:0<=j)(h1:j<len)(dl:List Nat)(al:Env)(h:RegN ro P n ds w0 ops (i+1) (ed dl al e) H Q)
  (hz: ∀w,(sizeOf elem).run P w=.ok sz w:=by intro _;kernel_rfl) (hx: ∀w,dY P ops i e w=some (d,(bD t (.slice (some a) len cap) (.int k j)).run P w):=by intro _;kernel_rfl)
  (he:(putS n e d (.pointer (some (a.add (Int.toNat j*sz))))).map (λe1=>(ed dl al e).map (λp=>e1.get p.1))=some ((ed dl al e).map (λp=>some p.2)):=by kernel_rfl):RegN ro P n ds w0 ops i e H Q:=
 nH d (bD t (.slice (some a) len cap) (.int k j)) (.pointer (some (a.add (Int.toNat j*sz)))) hx (λw _=>bR hu hz h0 h1 w) _ he h
theorem T_gd{fs:Facts}{fuel:Nat}{L:Array Bool}(i:Nat)(d:Option Tmp)(v:Value)(L':Array Bool)(dl:List Nat)(al:Env)(S:Sem Next)(hS: ∀L w,Closed .any ops L->L.getD i true=false->fZ fs L w->S.run P w=.ok (.value v) w)
  (h:RegG ro P n ds w0 ops fs fuel L' (ed dl al e) H Q) (hx: ∀w,dY P ops i e w=some (d,S.run P w):=by intro _;kernel_rfl)
  (hr:(Region.ready .any ops L).contains i=true:=by kernel_rfl) (hsel:Region.noSelect ops=true:=by kernel_rfl) (hdef:iX ops=true:=by kernel_rfl) (hf:Region.free .any ops L i=true:=by kernel_rfl) (hfs:fs.all (λf=>f.1 !=i)=true:=by kernel_rfl) (hL:L.setIfInBounds i true=L':=by kernel_rfl)
  (he:(putS n e d v).map (λe1=>(ed dl al e).map (λp=>e1.get p.1))=some ((ed dl al e).map (λp=>some p.2)):=by kernel_rfl):RegG ro P n ds w0 ops fs (fuel+1) L e H Q:=lF i d v L' _ S hx hS hr hsel hdef hf hfs hL he h
theorem aA{fs:Facts}{fuel:Nat}{L:Array Bool}(i:Nat)(d:Option Tmp)(L':Array Bool)(dl:List Nat)(al:Env)(h:RegG ro P n ds w0 ops fs fuel L' (ed dl al e) H Q)(hx:(ops[i]?).bind (λo=>(j2 ops e o).map (λb=>(o.dst,b)))=some (d,false):=by kernel_rfl)
  (hr:(Region.ready .any ops L).contains i=true:=by kernel_rfl) (hsel:Region.noSelect ops=true:=by kernel_rfl) (hdef:iX ops=true:=by kernel_rfl) (hf:Region.free .any ops L i=true:=by kernel_rfl) (hfs:fs.all (λf=>f.1 !=i)=true:=by kernel_rfl) (hL:L.setIfInBounds i true=L':=by kernel_rfl)
  (he:(putS n e d undef).map (λe1=>(ed dl al e).map (λp=>e1.get p.1))=some ((ed dl al e).map (λp=>some p.2)):=by kernel_rfl):RegG ro P n ds w0 ops fs (fuel+1) L e H Q:=rE i d L' _ hx hr hsel hdef hf hfs hL he h
theorem tD{fs:Facts}{fuel:Nat}{L:Array Bool}(i:Nat)(d:Option Tmp)(v:Value)(L':Array Bool)(dl:List Nat)(al:Env)
  (h:RegG ro P n ds w0 ops fs fuel L' (ed dl al e) H Q) (hx: ∀w,dY P ops i e w=some (d,(pure (.value v):Sem Next).run P w):=by intro _;kernel_rfl)
  (hr:(Region.ready .any ops L).contains i=true:=by kernel_rfl) (hsel:Region.noSelect ops=true:=by kernel_rfl) (hdef:iX ops=true:=by kernel_rfl) (hf:Region.free .any ops L i=true:=by kernel_rfl) (hfs:fs.all (λf=>f.1 !=i)=true:=by kernel_rfl) (hL:L.setIfInBounds i true=L':=by kernel_rfl)
  (he:(putS n e d v).map (λe1=>(ed dl al e).map (λp=>e1.get p.1))=some ((ed dl al e).map (λp=>some p.2)):=by kernel_rfl):RegG ro P n ds w0 ops fs (fuel+1) L e H Q:=lF i d v L' _ (pure (.value v)) hx (λ_ _ _ _ _=>rfl) hr hsel hdef hf hfs hL he h
theorem T_pd{o:Option Tmp}{v:Value}{K:Env->Prop}(dl:List Nat)(al:Env)(h:K (ed dl al e))(he:(putS n e o v).map (λe1=>(ed dl al e).map (λp=>e1.get p.1))=some ((ed dl al e).map (λp=>some p.2)):=by kernel_rfl): ∃e',gn n e o v e'/\K e':=⟨_,he,h⟩
theorem N_bd(k:Nat){b v:Bool}(hb:b=v)(h:RegN ro P n ds w0 ops i (ed [k] [(k,.bool v)] e) H Q)(hs:(ed [k] [(k,.bool b)] e).map (λp=>e.get p.1)=(ed [k] [(k,.bool b)] e).map (λp=>some p.2):=by kernel_rfl):RegN ro P n ds w0 ops i e H Q:=by
 subst hb;exact rB _ hs h
theorem S_bd(k:Nat){b v:Bool}(hb:b=v)(h:At n ds w0 (ed [k] [(k,.bool v)] e) H K)(hs:(ed [k] [(k,.bool b)] e).map (λp=>e.get p.1)=(ed [k] [(k,.bool b)] e).map (λp=>some p.2):=by kernel_rfl):At n ds w0 e H K:=by
 subst hb;exact rv _ hs h
theorem Q_bd(k:Nat){b v:Bool}(hb:b=v)(h:RegQ P n ds w0 ops i (ed [k] [(k,.bool v)] e) H Q)(hs:(ed [k] [(k,.bool b)] e).map (λp=>e.get p.1)=(ed [k] [(k,.bool b)] e).map (λp=>some p.2):=by kernel_rfl):RegQ P n ds w0 ops i e H Q:=by
 subst hb;exact jp _ hs h
theorem G_bd{fs:Facts}{fuel:Nat}{L:Array Bool}(k:Nat){b v:Bool}(hb:b=v)(h:RegG ro P n ds w0 ops fs fuel L (ed [k] [(k,.bool v)] e) H Q)(hs:(ed [k] [(k,.bool b)] e).map (λp=>e.get p.1)=(ed [k] [(k,.bool b)] e).map (λp=>some p.2):=by kernel_rfl):RegG ro P n ds w0 ops fs fuel L e H Q:=by
 subst hb;exact eI _ hs h
theorem bX{a:Addr}{k:Nat}(t:TypeId)(vs:List Value)(q:aJ H a 0 k)(h: ∀H',H'=aP H a vs 0-> ∃e',gn n e none undef e'/\RegN ro P n ds w0 ops (i+1) e' H' Q)(hx: ∀w,dY P ops i e w=some (none,(jg t (.pointer (some a)) (.agg vs.toArray)).run P w):=by intro _;kernel_rfl)
  (hl:(Value.agg vs.toArray).cells.toList=vs:=by kernel_rfl) (hk:vs.length=k:=by kernel_rfl) (hn: ∀w,(sizeOf t).run P w=.ok k w:=by intro _;kernel_rfl) (h1:gF vs=true:=by kernel_rfl):RegN ro P n ds w0 ops i e H Q:=
 oD none (jg t (.pointer (some a)) (.agg vs.toArray)) (λHz=>Hz=aP H a vs 0) hx (iW vs k hl hk hn h1 q) h
theorem je{a:Addr}{k:Nat}(t:TypeId)(v:Value)(q:aJ H a 0 k)(h: ∀H',H'=aP H a [v] 0-> ∃e',gn n e none undef e'/\RegN ro P n ds w0 ops (i+1) e' H' Q)(hx: ∀w,dY P ops i e w=some (none,(jg t (.pointer (some a)) v).run P w):=by intro _;kernel_rfl)
  (hl:v.cells.toList=[v]:=by kernel_rfl) (hk:[v].length=k:=by kernel_rfl) (hn: ∀w,(sizeOf t).run P w=.ok k w:=by intro _;kernel_rfl) (h1:gF [v]=true:=by kernel_rfl):RegN ro P n ds w0 ops i e H Q:=
 oD none (jg t (.pointer (some a)) v) (λHz=>Hz=aP H a [v] 0) hx (iW [v] k hl hk hn h1 q) h
theorem ar(id:Nat)(h:RegN ro P n ds w0 (Code.ops (ca c)) 0 e H (Exit.then ((cb c).wpR ro P Q) Q))(hc:c=.seq (ca c) (cb c):=by kernel_rfl)(hx:ca c=.region id (Code.ops (ca c)) false:=by kernel_rfl):At n ds w0 e H (c.wpR ro P Q):=T_sr id (ca c) (cb c) h hc hx
theorem T_sz(h:At n ds w0 e H ((ca c).wpR ro P (Exit.then ((cb c).wpR ro P Q) Q)))(hc:c=.seq (ca c) (cb c):=by kernel_rfl):At n ds w0 e H (c.wpR ro P Q):=rx (ca c) (cb c) hc h
theorem T_tz(o:Tmp)(h:At n ds w0 e H ((ca c).wpR ro P Q))(hc:c=.cond (.tmp o) (ca c) (cb c):=by kernel_rfl)(hv:iM e (.tmp o)=some (.bool true):=by kernel_rfl):At n ds w0 e H (c.wpR ro P Q):=kI (.tmp o) _ _ hc hv h
theorem T_fz(o:Tmp)(h:At n ds w0 e H ((cb c).wpR ro P Q))(hc:c=.cond (.tmp o) (ca c) (cb c):=by kernel_rfl)(hv:iM e (.tmp o)=some (.bool false):=by kernel_rfl):At n ds w0 e H (c.wpR ro P Q):=ka (.tmp o) _ _ hc hv h
theorem aH(o:Tmp){b:Bool}(hb:b=true)(h:At n ds w0 e H ((ca c).wpR ro P Q))(hc:c=.cond (.tmp o) (ca c) (cb c):=by kernel_rfl)(hv:iM e (.tmp o)=some (.bool b):=by kernel_rfl):At n ds w0 e H (c.wpR ro P Q):=kI (.tmp o) _ _ hc (by rw[hv,hb]) h
theorem aI(o:Tmp){b:Bool}(hb:b=false)(h:At n ds w0 e H ((cb c).wpR ro P Q))(hc:c=.cond (.tmp o) (ca c) (cb c):=by kernel_rfl)(hv:iM e (.tmp o)=some (.bool b):=by kernel_rfl):At n ds w0 e H (c.wpR ro P Q):=ka (.tmp o) _ _ hc (by rw[hv,hb]) h
theorem tE(o:Tmp){b:Bool}(hb:b=false)(h:At n ds w0 e H ((ca c).wpR ro P Q))(hc:c=.cond (.tmp o) (ca c) (cb c):=by kernel_rfl)(hv:iM e (.tmp o)=some (.bool (!b)):=by kernel_rfl):At n ds w0 e H (c.wpR ro P Q):=kI (.tmp o) _ _ hc (by rw[hv,hb];rfl) h
theorem tF(o:Tmp){b:Bool}(hb:b=true)(h:At n ds w0 e H ((cb c).wpR ro P Q))(hc:c=.cond (.tmp o) (ca c) (cb c):=by kernel_rfl)(hv:iM e (.tmp o)=some (.bool (!b)):=by kernel_rfl):At n ds w0 e H (c.wpR ro P Q):=ka (.tmp o) _ _ hc (by rw[hv,hb];rfl) h
theorem T_bz(id:Nat)(h:At n ds w0 e H ((ca c).wpR ro P (Exit.inBlock id Q)))(hc:c=.block id (ca c):=by kernel_rfl):At n ds w0 e H (c.wpR ro P Q):=qx id _ hc h
theorem T_rz(id:Nat)(h:RegN ro P n ds w0 (Code.ops c) 0 e H Q)(hc:c=.region id (Code.ops c) false:=by kernel_rfl):At n ds w0 e H (c.wpR ro P Q):=my id (Code.ops c) hc h
theorem ll(id:Nat)(h:RegQ P n ds w0 (Code.ops c) 0 e H Q)(hc:c=.region id (Code.ops c) true:=by kernel_rfl)(hm:P.follows .mixedOrders=true:=by kernel_rfl)(hB:Region.lexB .any (Code.ops c)=true:=by kernel_rfl):At n ds w0 e H (c.wpR none P Q):=nG id (Code.ops c) hc hm hB h
theorem T_l1(k:Nat)(t:TypeId){a:Addr}{v:Value}(q:hat H a=some v)(dl:List Nat)(h:RegN ro P n ds w0 ops (i+1) (ed dl [(k,v)] e) H Q)(hx: ∀w,dY P ops i e w=some (some k,(aT t (.pointer (some a))).run P w):=by intro _;kernel_rfl)
  (hg: ∀w,(isAgg t).run P w=.ok false w:=by intro _;kernel_rfl) (he:(putS n e (some k) v).map (λe1=>(ed dl [(k,v)] e).map (λp=>e1.get p.1))=some ((ed dl [(k,v)] e).map (λp=>some p.2)):=by kernel_rfl):RegN ro P n ds w0 ops i e H Q:=T_ld (some k) t q dl [(k,v)] h hx hg he
theorem T_lr(k:Nat)(t:TypeId){a:Addr}{vs:List Value}(q:aG H a 0 vs)(dl:List Nat)(h:RegN ro P n ds w0 ops (i+1) (ed dl [(k,.agg vs.toArray)] e) H Q)(hx: ∀w,dY P ops i e w=some (some k,(aT t (.pointer (some a))).run P w):=by intro _;kernel_rfl)
  (hg: ∀w,(isAgg t).run P w=.ok true w:=by intro _;kernel_rfl) (hn: ∀w,(sizeOf t).run P w=.ok vs.length w:=by intro _;kernel_rfl) (he:(putS n e (some k) (.agg vs.toArray)).map (λe1=>(ed dl [(k,.agg vs.toArray)] e).map (λp=>e1.get p.1))=some ((ed dl [(k,.agg vs.toArray)] e).map (λp=>some p.2)):=by kernel_rfl):RegN ro P n ds w0 ops i e H Q:=
 T_vd (some k) (aT t (.pointer (some a))) (.agg vs.toArray) (hG (aQ hg hn q)) dl [(k,.agg vs.toArray)] h hx he
theorem T_q1(k:Nat)(v:Value)(dl:List Nat)(h:RegQ P n ds w0 ops (i+1) (ed dl [(k,v)] e) H Q)(hd:(ops.toList.drop i).head?.map (·.dst)=some (some k):=by kernel_rfl)
  (hv: ∀w,((ops.toList.drop i).head?.bind λo=>mD P ops o e w)=some (v,w):=by intro _;kernel_rfl) (he:(putS n e (some k) v).map (λe1=>(ed dl [(k,v)] e).map (λp=>e1.get p.1))=some ((ed dl [(k,v)] e).map (λp=>some p.2)):=by kernel_rfl):RegQ P n ds w0 ops i e H Q:=T_qd (some k) v dl [(k,v)] h hd hv he
theorem T_v1(k:Nat)(S:Sem Next)(v:Value)(hS: ∀w,w.heap=H->S.run P w=.ok (.value v) w)(dl:List Nat)(h:RegN ro P n ds w0 ops (i+1) (ed dl [(k,v)] e) H Q)(hx: ∀w,dY P ops i e w=some (some k,S.run P w):=by intro _;kernel_rfl)
  (he:(putS n e (some k) v).map (λe1=>(ed dl [(k,v)] e).map (λp=>e1.get p.1))=some ((ed dl [(k,v)] e).map (λp=>some p.2)):=by kernel_rfl):RegN ro P n ds w0 ops i e H Q:=T_vd (some k) S v hS dl [(k,v)] h hx he
theorem T_g1{fs:Facts}{fuel:Nat}{L:Array Bool}(i:Nat)(k:Nat)(v:Value)(L':Array Bool)(dl:List Nat)(S:Sem Next)(hS: ∀L w,Closed .any ops L->L.getD i true=false->fZ fs L w->S.run P w=.ok (.value v) w)
  (h:RegG ro P n ds w0 ops fs fuel L' (ed dl [(k,v)] e) H Q) (hx: ∀w,dY P ops i e w=some (some k,S.run P w):=by intro _;kernel_rfl)
  (hr:(Region.ready .any ops L).contains i=true:=by kernel_rfl) (hsel:Region.noSelect ops=true:=by kernel_rfl) (hdef:iX ops=true:=by kernel_rfl) (hf:Region.free .any ops L i=true:=by kernel_rfl) (hfs:fs.all (λf=>f.1 !=i)=true:=by kernel_rfl) (hL:L.setIfInBounds i true=L':=by kernel_rfl)
  (he:(putS n e (some k) v).map (λe1=>(ed dl [(k,v)] e).map (λp=>e1.get p.1))=some ((ed dl [(k,v)] e).map (λp=>some p.2)):=by kernel_rfl):RegG ro P n ds w0 ops fs (fuel+1) L e H Q:=lF i (some k) v L' _ S hx hS hr hsel hdef hf hfs hL he h
theorem aF{fs:Facts}{fuel:Nat}{L:Array Bool}(i:Nat)(k:Nat)(v:Value)(L':Array Bool)(dl:List Nat)
  (h:RegG ro P n ds w0 ops fs fuel L' (ed dl [(k,v)] e) H Q) (hx: ∀w,dY P ops i e w=some (some k,(pure (.value v):Sem Next).run P w):=by intro _;kernel_rfl)
  (hr:(Region.ready .any ops L).contains i=true:=by kernel_rfl) (hsel:Region.noSelect ops=true:=by kernel_rfl) (hdef:iX ops=true:=by kernel_rfl) (hf:Region.free .any ops L i=true:=by kernel_rfl) (hfs:fs.all (λf=>f.1 !=i)=true:=by kernel_rfl) (hL:L.setIfInBounds i true=L':=by kernel_rfl)
  (he:(putS n e (some k) v).map (λe1=>(ed dl [(k,v)] e).map (λp=>e1.get p.1))=some ((ed dl [(k,v)] e).map (λp=>some p.2)):=by kernel_rfl):RegG ro P n ds w0 ops fs (fuel+1) L e H Q:=lF i (some k) v L' _ (pure (.value v)) hx (λ_ _ _ _ _=>rfl) hr hsel hdef hf hfs hL he h
theorem T_nr{fn:Func}{R:zv}{Q2:Exit->Act->World->Prop}(k:Nat)(ts:List Nat)(vs:List Value)(hQ: ∀a w,kL P fn w0 R a w->Q .ret a w/\Q .normal a w)(h:R (tup vs) H)(hr: ∀w,sel (ts.zip vs) (runS P n ops ((ops.toList.drop i).take k) e w)=keep (ts.zip vs) w:=by intro _;kernel_rfl)(hi:ops.toList.drop (i+k)=[]:=by kernel_rfl)(hc:c=.ret:=by kernel_rfl)(hq:Q' .ret=Q .ret:=by exact rfl)
  (hf:fn.results.toList=ts.map .tmp:=by kernel_rfl) (hv:ts.map (Env.get (ts.zip vs))=vs.map some:=by kernel_rfl):RegN ro P n [] w0 ops i e H (Exit.then (c.wpR ro P Q') Q2):=T_ne k (ts.zip vs) (ie ts vs hQ h hc hq hf hv) hr hi
end
