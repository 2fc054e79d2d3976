/-
 On a heap of a law's own: strings, vectors, whatever is made; what is told of it. Proves nothing of any one statement.
-/
import Derived.Test.YtibpklpgmgakcaaGreatDoorText
import Derived.Test.YtibpklpgmgakcaaGreatDoorCons
set_option linter.unusedVariables false
set_option linter.unusedSimpArgs false
namespace Go.Proofs.YtibpklpgmgakcaaGreatDoor
open Go

structure MadeOn (x x':Hp) (w kind more:Int) (ws:List Int):Prop where
 thing:Thing x'.sp.mem w kind more ws
 made:Made x.sp.mem x'.sp.mem w ws.length
 even:x'.sp.mem.Even
 rest:x'.sy=x.sy/\x'.en=x.en/\x'.ep=x.ep
theorem live_made{H0 H:Array Obj}{b:Blk}{x:Hp}(L:Live H0 H b x)(he:x.sp.mem.Even){kind more:Int}{ws:List Int}(hkd:1<=kind/\kind<=13)(hmo:0<=more/\more<281474976710656)(hl:ws.length<=62)(hw: ∀w∈ws,IsWord w)(hf:1<=x.sp.mem.free):
  ∃(w:Int) (x':Hp),makeR (some (b,x)) kind more ws=(w,0)/\makeO (some (b,x)) kind more ws=some (b,x')/\MadeOn x x' w kind more ws:=by
 obtain⟨w,x',e1,e2,hm⟩:=live_make L hkd hmo hl hw hf
 obtain⟨h1,h2,h3,h4⟩:=live_make_even L he hw e2
 exact⟨w,x',e1,e2,hm.thing,hm.made,h1,h2,h3,h4⟩
theorem live_make_any{H0 H:Array Obj}{b:Blk}{x:Hp}(L:Live H0 H b x)(he:x.sp.mem.Even){kind more:Int}{ws:List Int}(hw: ∀w∈ws,IsWord w)(hmo:IsWord more):
  ∃(w e:Int) (x':Hp),makeR (some (b,x)) kind more ws=(w,e)/\makeO (some (b,x)) kind more ws=some (b,x')/\((e=0/\(1<=kind/\kind<=13)/\MadeOn x x' w kind more ws)\/(e≠0/\x'=x)):=by
 obtain⟨m1,m2⟩:=make_some b x kind more ws
 by_cases hkd:(1<=kind/\kind<=13)/\more<281474976710656
 case neg=>
  have e1:x.sp.make kind more ws=(x.sp,0,1):=by unfold Sp.make;rw[if_pos hkd]
  exact⟨0,1,x,by rw[m1,e1],by rw[m2,e1],.inr ⟨by decide,rfl⟩⟩
 by_cases hl:ws.length<=62
 case neg=>
  have e1:x.sp.make kind more ws=(x.sp,0,6):=by unfold Sp.make;rw[if_neg (λh=>h hkd),if_pos (by omega)]
  exact⟨0,6,x,by rw[m1,e1],by rw[m2,e1],.inr ⟨by decide,rfl⟩⟩
 have hmo':0<=more/\more<281474976710656:=⟨hmo.1,hkd.2⟩
 by_cases hal:(x.sp.alloc 0 (rawK kind) ((ws.length+1:Nat):Int)).2.2=0
 ·obtain⟨h1,h2,h3,h4⟩:=Sp.make_ok0 L.ok hkd.1 hmo' hl hw hal
  exact⟨_,_,_,m1,m2,.inl ⟨h1,hkd.1,h2,h4,Sp.make_even L.ok he kind more ws hw,rfl,rfl,rfl⟩⟩
 ·obtain⟨h1,h2⟩:=Sp.make_no L.ok hkd.1 hmo' hl hal
  exact⟨_,_,_,m1,by rw[m2,h1],.inr ⟨h2,rfl⟩⟩
theorem Pr.type{m:Mem}{w tag a d:Int}(h:Pr m w tag a d):m.typ w=0:=nothing_typ h.notObj
end Go.Proofs.YtibpklpgmgakcaaGreatDoor
