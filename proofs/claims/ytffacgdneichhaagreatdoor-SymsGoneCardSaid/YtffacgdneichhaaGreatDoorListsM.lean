/-
 Lists on a heap: pairs, List. Proves nothing of any one statement.
-/
import Derived.Test.YtffacgdneichhaaGreatDoorRoom
set_option linter.unusedVariables false
set_option linter.unusedSimpArgs false
namespace Go.Proofs.YtffacgdneichhaaGreatDoor
open Go

def jH(m:Mem):Int->List (Int×Int)->Int->Prop
 | w,[],last=>w=last/\aJ last/\ ¬m.isPair last
 | w,pa::l,last=>w=pa.1/\ ∃tag d,Pr m pa.1 tag pa.2 d/\jH m d l last
theorem jH.word{m:Mem}{w last:Int}: ∀{l:List (Int×Int)},jH m w l last->aJ w
 | [],h=>by obtain⟨rfl,h,_⟩:=h;exact h
 | _::_,h=>by obtain⟨rfl,_,_,h,_⟩:=h;exact h.word


structure nq (H0:zV) (hv:zW) (m:Mem) (rc:LoopState->Option Code->Obj) (st:LoopState) (pe:Option Code) (lp D b b2 b3 b4 lo:Nat) (cars:List Int) (H:zV):Prop where
 view: ∃o,View H hv o/\mof o=m
 loop:H[lp]?=some (rc st pe)
 dfr:H[D]?=some (.deferred (some []))
 gb:H[b]?=some (.cells #[.pointer hv] 34 (0,0))
 gb2:H[b2]?=some (.cells #[.slice none 0 0] 45 (0,0))
 gb3:H[b3]?=some (.cells #[.bool false] 4 (0,0))
 row: ∃(B:zW) (c:Nat),H[b4]?=some (.cells #[.slice B cars.length c] 45 (0,0))/\Own H 33 1 B cars.length c (wvs cars)/\ ∀i∈blks B,lo<=i
 ext:Ext H0 H
theorem nq.keep{H0:zV}{hv:zW}{m:Mem}{rc:LoopState->Option Code->Obj}{st:LoopState}{pe:Option Code}{lp D b b2 b3 b4 lo:Nat}{cars:List Int}{H H':zV}{S:List Nat}
  (h:nq H0 hv m rc st pe lp D b b2 b3 b4 lo cars H) (f:Fr S H H') (hS: ∀i∈S,H0.size<=i/\i<lo/\i≠lp/\i≠D/\i≠b/\i≠b2/\i≠b3/\i≠b4) (hvw: ∃o,View H' hv o/\mof o=m):nq H0 hv m rc st pe lp D b b2 b3 b4 lo cars H':=by
 obtain⟨B,c,g4,how,hy⟩:=h.row
 refine⟨hvw,f.get (λhi=>(hS _ hi).2.2.1 rfl) h.loop,f.get (λhi=>(hS _ hi).2.2.2.1 rfl) h.dfr,f.get (λhi=>(hS _ hi).2.2.2.2.1 rfl) h.gb,f.get (λhi=>(hS _ hi).2.2.2.2.2.1 rfl) h.gb2,f.get (λhi=>(hS _ hi).2.2.2.2.2.2.1 rfl) h.gb3,
  ⟨B,c,f.get (λhi=>(hS _ hi).2.2.2.2.2.2.2 rfl) g4,how.keep f (λi hi hs=>by have:=hy i hi;have:=(hS _ hs).2.1;omega),hy⟩,h.ext.fr_trans f (λi hi=>(hS _ hi).1)⟩

theorem jH.nth{m:Mem}{w last:Int}: ∀{l:List (Int×Int)},jH m w l last-> ∀(k:Nat) (h:k<l.length),∃tag d,Pr m l[k].1 tag l[k].2 d
 | [],_,k,h=>by simp at h
 | pa::l,hc,0,_=>by obtain⟨_,tag,d,hp,_⟩:=hc;exact⟨tag,d,hp⟩
 | pa::l,hc,k+1,h=>by
  obtain⟨_,tag,d,_,hr⟩:=hc
  exact jH.nth hr k (by simpa using h)
theorem jA{H:zV}{i:Nat}{o o':Obj}(h:H[i]?=some o):(bC H i o')[i]?=some o':=bA (bB h)

def Bx(l:List (Nat×Obj))(H:zV):Prop:= ∀p∈l,H[p.1]?=some p.2
theorem Bx.fr{S:List Nat}{l:List (Nat×Obj)}{H H':zV}(h:Bx l H)(f:Fr S H H')(hS: ∀p∈l,p.1 ∉ S):Bx l H':=λp hp=>f.get (hS p hp) (h p hp)
theorem Bx.ext{l:List (Nat×Obj)}{H H':zV}(h:Bx l H)(e:Ext H H'):Bx l H':=λp hp=>e.get (h p hp)
theorem Bx.nil{H:zV}:Bx [] H:=λp hp=>by cases hp
theorem Bx.cons{b:Nat}{o:Obj}{l:List (Nat×Obj)}{H:zV}(h:H[b]?=some o)(k:Bx l H):Bx ((b,o)::l) H:=λp hp=>by
 rcases List.mem_cons.1 hp with rfl | hp
 ·exact h
 ·exact k p hp
theorem Bx.head{b:Nat}{o:Obj}{l:List (Nat×Obj)}{H:zV}(h:Bx ((b,o)::l) H):H[b]?=some o:=h (b,o) (List.mem_cons_self ..)
theorem Bx.tail{p:Nat×Obj}{l:List (Nat×Obj)}{H:zV}(h:Bx (p::l) H):Bx l H:=λq hq=>h q (List.mem_cons_of_mem _ hq)
theorem Bx.nth{l:List (Nat×Obj)}{H:zV}(h:Bx l H)(i:Nat){b:Nat}{o:Obj}(e:l[i]?=some (b,o)):H[b]?=some o:=h (b,o) (List.mem_of_getElem? e)
theorem Bx.lt{l:List (Nat×Obj)}{H:zV}(h:Bx l H): ∀p∈l,p.1<H.size:=λp hp=>bB (h p hp)

theorem db.keep{S:List Nat}{H H':zV}{p:zW}{xs:List Value}(h:db H p xs)(f:Fr S H H')(hd: ∀i∈blks p,i ∉ S):db H' p xs:=by
 cases p with
 | none=>exact h
 | some a=>exact f.rowAt (hd _ (by simp)) h
theorem Live.lt{H0 H:zV}{b:Blk}{x:Hp}(L:Live H0 H b x){i:Nat}(hi:i∈b.all):i<H.size:=L.at'.lt i hi
theorem Live.keep{S:List Nat}{H0 H H':zV}{b:Blk}{x:Hp}(L:Live H0 H b x)(f:Fr S H H')(h0: ∀i∈S,H0.size<=i)(hS: ∀i∈S,i ∉ b.all):Live H0 H' b x:=
 ⟨L.at'.keep f hS,L.ok,L.ext.fr_trans f h0,L.young⟩

theorem jH.keep{m m':Mem}{last:Int}(k:Keep m m')(hl: ∀m:Mem,¬m.isPair last): ∀{l:List (Int×Int)} {w:Int},jH m w l last->jH m' w l last
 | [],w,h=>⟨h.1,h.2.1,hl m'⟩
 | pa::l,w,h=>by
  obtain⟨rfl,tag,d,hp,hr⟩:=h
  exact⟨rfl,tag,d,hp.keep k,jH.keep k hl hr⟩
def kS(m:Mem):Int->List (Int×Int)->Int->Prop
 | w,[],last=>w=last
 | w,pa::l,last=>w=pa.1/\ ∃d,Pr m pa.1 1 pa.2 d/\kS m d l last
theorem kS.keep{m m':Mem}{last:Int}(k:Keep m m'): ∀{l:List (Int×Int)} {w:Int},kS m w l last->kS m' w l last
 | [],w,h=>h
 | pa::l,w,h=>by
  obtain⟨rfl,d,hp,hr⟩:=h
  exact⟨rfl,d,hp.keep k,kS.keep k hr⟩
theorem kS.word{m:Mem}{w last:Int}(hl:aJ last): ∀{l:List (Int×Int)},kS m w l last->aJ w
 | [],h=>by
  have h:w=last:=h
  rw[h];exact hl
 | _::_,h=>by obtain⟨rfl,_,h,_⟩:=h;exact h.word
structure qM (x x':Hp) (w tail:Int) (l:List (Int×Int)):Prop where
 links:kS x'.sp.mem w l tail
 keep:Keep x.sp.mem x'.sp.mem
 even:x'.sp.mem.Even
 room:x.sp.room-l.length<=x'.sp.room
 count:x'.sp.mem.count<=x.sp.mem.count+l.length
 rest:x'.sy=x.sy/\x'.en=x.en/\x'.ep=x.ep
theorem qM.cons{x x1 x2:Hp}{w w2 tail a:Int}{l:List (Int×Int)}(h:qM x x1 w tail l)(c:sw x1 x2 w2 1 a w)(hr:x1.sp.room-1<=x2.sp.room):qM x x2 w2 tail ((w2,a)::l):=
 ⟨⟨rfl,w,c.pr,h.links.keep c.made.keep⟩,h.keep.trans c.made.keep,c.even,by have:=h.room;simp;omega,by have:=h.count;have:=c.made.count;simp;omega,⟨c.rest.1.trans h.rest.1,c.rest.2.1.trans h.rest.2.1,c.rest.2.2.trans h.rest.2.2⟩⟩

