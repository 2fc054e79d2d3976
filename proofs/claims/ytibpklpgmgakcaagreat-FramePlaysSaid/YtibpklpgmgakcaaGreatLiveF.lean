/-
 Frames on a heap of a law's own. Proves nothing of any one statement.
-/
import Derived.Test.YtibpklpgmgakcaaGreatFrame
import Derived.Test.YtibpklpgmgakcaaGreatLive
set_option linter.unusedVariables false
set_option linter.unusedSimpArgs false
namespace Go.Proofs.YtibpklpgmgakcaaGreat
open Go

theorem Thing.is{m:Mem}{w kind more:Int}{ws:List Int}(h:Thing m w kind more ws){least:Int}(hl:least<=ws.length):m.is w kind least:=⟨h.typ,by rw[h.len];exact hl⟩

theorem live_Extend{H0 H:Array Obj}{b:Blk}{x:Hp}(L:Live H0 H b x){lB:Option Addr}{lN lC:Nat}{parent:Int}{ws:List Int}(hp:IsWord parent)(hpar:parent=20\/x.sp.mem.typ parent=7)(hsrc:SrcAt H lB (wvs ws))(hlen:lN=ws.length)(hw: ∀w∈ws,IsWord w)
  (hl:ws.length<=61) (hf:1<=x.sp.mem.free) (hc:x.sp.mem.count<4611686018427387904):
  frame_Extend.C (some ⟨b.h,0,none⟩) parent lB lN lC H (λv H'=> ∃(w:Int) (x':Hp),v=.tuple #[.int .u64 w,.int .i64 0]/\Live H0 H' b x'/\MadeAs x x' w 7 0 (parent::ws)/\Fr b.all H H'):=by
 refine HC.mono (frame_Extend_c L.view hp hsrc hlen hw hc (by omega)) ?_
 rintro _ H1 ⟨rfl,V,f⟩
 have hno: ¬(parent≠20/\(mof (some (b,x))).typ parent≠7):=λh=>hpar.elim h.1 h.2
 have hall: ∀w∈parent::ws,IsWord w:=λw hw'=>by
  rcases List.mem_cons.1 hw' with rfl | h
  ·exact hp
  ·exact hw w h
 obtain⟨w,x',e1,e2,hm⟩:=live_make L (kind:=7) (more:=0) (by decide) (by decide) (by simp;omega) hall hf
 have e3:extR (some (b,x)) parent ws=(w,0):=by unfold extR;rw[if_neg hno,e1]
 have e4:extO (some (b,x)) parent ws=some (b,x'):=by unfold extO;rw[if_neg hno,e2]
 rw[e4]at V
 exact⟨w,x',by rw[e3],L.step V f,hm,Live.others f⟩
theorem live_Push{H0 H:Array Obj}{b:Blk}{x:Hp}(L:Live H0 H b x){lB:Option Addr}{lN lC:Nat}{kind next:Int}{ws:List Int}(hk:0<=kind/\kind<=2147483647)(hp:IsWord next)(hpar:next=20\/x.sp.mem.typ next=8)(hsrc:SrcAt H lB (wvs ws))(hlen:lN=ws.length)(hw: ∀w∈ws,IsWord w)
  (hl:ws.length<=60) (hf:1<=x.sp.mem.free) (hc:x.sp.mem.count<4611686018427387904):
  frame_Push.C (some ⟨b.h,0,none⟩) kind next lB lN lC H (λv H'=> ∃(w:Int) (x':Hp),v=.tuple #[.int .u64 w,.int .i64 0]/\Live H0 H' b x'/\MadeAs x x' w 8 0 (kind*8::next::ws)/\Fr b.all H H'):=by
 refine HC.mono (frame_Push_c L.view ⟨by omega,by omega⟩ hp hsrc hlen hw hc (by omega)) ?_
 rintro _ H1 ⟨rfl,V,f⟩
 have hno: ¬(next≠20/\(mof (some (b,x))).typ next≠8):=λh=>hpar.elim h.1 h.2
 have hall: ∀w∈kind*8::next::ws,IsWord w:=λw hw'=>by
  rcases List.mem_cons.1 hw' with rfl | h
  ·exact⟨by omega,by omega⟩
  rcases List.mem_cons.1 h with rfl | h
  ·exact hp
  ·exact hw w h
 obtain⟨w,x',e1,e2,hm⟩:=live_make L (kind:=8) (more:=0) (by decide) (by decide) (by simp;omega) hall hf
 have e3:pushR (some (b,x)) kind next ws=(w,0):=by unfold pushR;rw[if_neg (by omega),if_neg hno,e1]
 have e4:pushO (some (b,x)) kind next ws=some (b,x'):=by unfold pushO;rw[if_neg (by omega),if_neg hno,e2]
 rw[e4]at V
 exact⟨w,x',by rw[e3],L.step V f,hm,Live.others f⟩

theorem Thing.count'{m:Mem}{w more p:Int}{ws:List Int}(h:Thing m w 7 more (p::ws)):m.count' w=ws.length:=by
 unfold Mem.count';rw[if_pos (h.is (by simp<;>omega)),h.len];simp
theorem Thing.frameKind{m:Mem}{w more k p:Int}{ws:List Int}(h:Thing m w 8 more (k*8::p::ws))(hk:0<=k/\k<=2147483647):m.frameKind w=(k,0):=by
 unfold Mem.frameKind
 have hs:signed (k*8)=k*8:=by unfold signed;rw[if_neg (by omega)]
 rw[h.get0,hs,if_pos ⟨h.field_in ⟨by omega,by simp<;>omega⟩,by omega,⟨by omega,by omega⟩,by rw[h.len];simp;omega⟩]
 rw[show k*8 / 8=k by omega]
theorem Thing.frameNext{m:Mem}{w more k p:Int}{ws:List Int}(h:Thing m w 8 more (k::p::ws)):m.frameNext w=(p,0):=by
 unfold Mem.frameNext
 have h1:m.fieldE w 8 1=0:=h.field_in ⟨by omega,by simp<;>omega⟩
 have h2:m.get (w / 8+1+1)=p:=by have:=h.get 1 (by simp);simpa using this
 rw[if_pos (h.is (by simp<;>omega)),if_pos h1,h1,h2]
theorem Thing.above0{m:Mem}{w more p:Int}{ws:List Int}(h:Thing m w 7 more (p::ws)):m.aboveN 0 w=(w,0):=by
 rw[Mem.aboveN_0,if_pos (h.is (by simp<;>omega))]
theorem Thing.aboveS{m:Mem}{w more p:Int}{ws:List Int}(h:Thing m w 7 more (p::ws))(n:Nat):m.aboveN (n+1) w=m.aboveN n p:=by
 rw[Mem.aboveN_s,if_pos (h.field_in ⟨by omega,by simp<;>omega⟩),h.get0]
theorem above_nil{m:Mem}(n:Nat):m.aboveN n 20=(0,3):=by
 cases n with
 | zero=>rw[Mem.aboveN_0,if_neg (λh=>by have:=h.1;rw[nothing_typ nil_not]at this;exact absurd this (by decide))]
 | succ n=>rw[Mem.aboveN_s,if_neg (by rw[nothing nil_not];decide)]
theorem Thing.envIn{m:Mem}{w w' more p up i:Int}{ws:List Int}(h:Thing m w' 7 more (p::ws))(ha:m.above w up=(w',0))(hi:0<=i/\i<ws.length):m.envE w up i=0/\m.get ((m.above w up).1 / 8+1+(i+1))=ws.getD i.toNat 0:=by
 unfold Mem.envE
 rw[ha]
 refine⟨?_,?_⟩
 ·rw[if_neg (λhh=>hh rfl),if_neg (by rw[h.count'];omega)]
  exact h.field_in ⟨by omega,by simp<;>omega⟩
 ·have:=h.get (i.toNat+1) (by simp<;>omega)
  rw[show w' / 8+1+((i.toNat+1:Nat):Int)=w' / 8+1+(i+1)by omega]at this
  show m.get (w' / 8+1+(i+1))=_
  rw[this]
  simp
  rw[List.getElem?_eq_getElem (by omega)];rfl
end Go.Proofs.YtibpklpgmgakcaaGreat
