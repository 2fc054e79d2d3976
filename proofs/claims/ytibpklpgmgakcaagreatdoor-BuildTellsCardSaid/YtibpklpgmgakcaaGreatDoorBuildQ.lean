/-
  What a datum is on the heap (Built), and what a call that builds does (Step). Proves nothing of any one statement.
-/
import Derived.Lib.MapLaws
import Derived.Test.YtibpklpgmgakcaaGreatDoorDatM
import Derived.Test.YtibpklpgmgakcaaGreatDoorLaid
import Derived.Test.YtibpklpgmgakcaaGreatDoorNumB
import Derived.Test.YtibpklpgmgakcaaGreatDoorFbuild
import Derived.Test.YtibpklpgmgakcaaGreatDoorFbuild1
import Derived.Test.YtibpklpgmgakcaaGreatDoorFword
set_option linter.unusedVariables false
set_option linter.unusedSimpArgs false
set_option maxHeartbeats 1000000
namespace Go.Proofs.YtibpklpgmgakcaaGreatDoor
open Go

theorem enc_lib{c:Nat}(hv:Utf8.valid (c:Int)=true):(Utf8.encode (c:Int)).data.toList=Lib.encodeRune (c:Int):=by
  have hc:=(valid_nat c).1 hv
  unfold Utf8.encode Lib.encodeRune
  simp only[hv,if_true,Int.toNat_natCast]
  have u: ∀(a:Nat) (z:Int),z=(a:Int)->UInt8.ofNat a=z.toNat.toUInt8:=λa z h=>by subst h;simp
  by_cases h1:c<128
  · rw[if_pos h1,Lib.encodeRuneZ_one (by omega) (by omega)]
    simp only[List.map_cons,List.map_nil]
    rw[<-u c _ rfl]
  rw[if_neg h1]
  by_cases h2:c<2048
  · rw[if_pos h2,Lib.encodeRuneZ_two (by omega) (by omega)]
    simp only[List.map_cons,List.map_nil]
    rw[<-u (192+c / 64) _ (by omega),<-u (128+c % 64) _ (by omega)]
  rw[if_neg h2]
  by_cases h3:c<65536
  · rw[if_pos h3,Lib.encodeRuneZ_three (by omega)]
    simp only[List.map_cons,List.map_nil]
    rw[<-u (224+c / 4096) _ (by omega),<-u (128+c / 64 % 64) _ (by omega),<-u (128+c % 64) _ (by omega)]
  rw[if_neg h3,Lib.encodeRuneZ_four (by omega) (by omega)]
  simp only[List.map_cons,List.map_nil]
  rw[<-u (240+c / 262144) _ (by omega),<-u (128+c / 4096 % 64) _ (by omega),<-u (128+c / 64 % 64) _ (by omega),<-u (128+c % 64) _ (by omega)]
theorem catR_at(s:ByteArray): ∀(n p:Nat),s.size-p<=n->Lib.validD (s.data.toList.drop p)=true->(catR (runesAt s p)).data.toList=s.data.toList.drop p:=by
  intro n
  induction n with
  | zero=>
    intro p hn hv
    rw [runesAt_end (by omega), List.drop_eq_nil_of_le (by have : s.data.toList.length = s.size := by simp
                                                           omega)]
    rfl
  | succ n ih=>
    intro p hn hv
    by_cases hp:p<s.size
    · have hva:=valid_at hp
      rw[hv]at hva
      cases hr:refStep s p with
      | none=>rw[hr]at hva;cases hva
      | some ck=>
        obtain⟨c,k⟩:=ck
        rw[hr]at hva
        have hd:Utf8.decode s p=(c,k):=by rw[decode_ref,hr];rfl
        have hs:=refStep_some hr
        have hvl:Utf8.valid ((c,k).1:Int)=true:=hd▸decode_valid s p
        have hvl:Utf8.valid (c:Int)=true:=hvl
        have hst:runesAt s p=(c:Int)::runesAt s (p+k):=by
          have:=runesAt_step hp
          rw[hd]at this;exact this
        rw[hst]
        have ih2:=ih (p+k) (by omega) hva.symm
        have hne:s.data.toList.drop p≠[]:=λh1=>by
          have h2:=congrArg List.length h1
          have h3:s.data.toList.length=s.size:=by simp
          rw[List.length_drop,h3]at h2
          have h4:s.size-p=0:=h2
          omega
        have hed:=Lib.encode_decode _ hne (by rw[decode_drop,hd];exact hs.1)
        rw[decode_drop,hd]at hed
        have hcat:(catR ((c:Int)::runesAt s (p+k))).data.toList=(Utf8.encode (c:Int)).data.toList++(catR (runesAt s (p+k))).data.toList:=by
          show(Utf8.encode (c:Int)++catR (runesAt s (p+k))).data.toList=_
          rw[ByteArray.data_append,Array.toList_append]
        rw[hcat,ih2,enc_lib hvl,hed]
        show(s.data.toList.drop p).take k++s.data.toList.drop (p+k)=_
        rw[<-List.drop_drop,List.take_append_drop]
    · rw [runesAt_end hp, List.drop_eq_nil_of_le (by have : s.data.toList.length = s.size := by simp
                                                     omega)]
      rfl
theorem runes_back{s:ByteArray}(h:Lib.validD s.data.toList=true):runesStr (runesOf s)=s:=by
  rw[runesStr_cat]
  have:=catR_at s s.size 0 (by omega) (by simpa using h)
  rw[List.drop_zero]at this
  unfold runesOf
  exact ByteArray.ext (Array.toList_inj.1 this)
theorem text_back{s:ByteArray}(h:textOK s):wordsText (runesOf s)=s:=by
  rw[wordsText_letters (runesOf_letter s),runes_back h.1]

theorem alloc_full{s:Sp}(ok:SpOK s){k n:Int}(hm:may 0 k n)(h:(s.alloc 0 k n).2.2≠0):(s.alloc 0 k n).2.2=2:=by
  have hf: ¬1<=s.mem.free:=λhf=>h (Sp.alloc_can ok hm hf)
  have hk:0<=k/\k<=3:=by unfold may at hm;omega
  have h0:s.mem.free=0:=by
    have h0:0<=s.mem.free:=by rw[ok.mem.free];omega
    omega
  have ht:s.mem.take 0 k=(s.mem,0,2):=by unfold Mem.take;rw[if_neg (by omega),if_pos h0]
  unfold Sp.alloc at h⊢
  rw[if_neg (λhh=>hh hm)]at h⊢
  by_cases hc:s.cur (0:Int).toNat k.toNat≠0/\(s.mem.bump (s.cur (0:Int).toNat k.toNat-1) n).2.2=0
  · rw[if_pos hc]at h;exact absurd rfl h
  · rw[if_neg hc,ht];rfl
theorem make_or{H0 H:Array Obj}{b:Blk}{x:Hp}(L:Live H0 H b x)(he:x.sp.mem.Even){kind more:Int}{ws:List Int}(hkd:1<=kind/\kind<=13)(hmo:0<=more/\more<281474976710656)(hl:ws.length<=62)(hw: ∀w∈ws,IsWord w):
    ∃(w e:Int) (x':Hp),makeR (some (b,x)) kind more ws=(w,e)/\makeO (some (b,x)) kind more ws=some (b,x')/\((e=0/\MadeOn x x' w kind more ws/\Laid x.sp.mem x'.sp.mem w (ws.length+1))\/((e=2/\w=0)/\x'=x)):=by
  obtain⟨w,e,x',q1,q2,h⟩:=live_make_any L he (kind:=kind) (more:=more) hw ⟨hmo.1,by omega⟩
  refine⟨w,e,x',q1,q2,?_⟩
  rcases h with⟨rfl,_,hm⟩ | ⟨h1,rfl⟩
  · exact .inl ⟨rfl,hm,make_laid L.ok hw ⟨hmo.1,by omega⟩ q1 q2⟩
  · refine .inr ⟨?_,rfl⟩
    have hR:makeR (some (b,x')) kind more ws=(x'.sp.put (rawK kind) 3 ((more*65536+ws.length*256+kind*8+5)::ws)).2:=by
      unfold makeR;rw[if_neg (λh=>h ⟨hkd,hmo.2⟩),if_neg (by omega)];rfl
    rw[hR]at q1
    unfold Sp.put at q1
    by_cases hal:(x'.sp.alloc 0 (rawK kind) (((more*65536+ws.length*256+kind*8+5)::ws).length:Nat)).2.2=0
    · exfalso
      have hm:may 0 (rawK kind) (((more*65536+ws.length*256+kind*8+5)::ws).length:Nat):=alloc_may hal
      have hp:=Sp.put_ok L.ok hm (tag:=3) (.inr (.inr (.inl rfl))) (λv hv=>by
        rcases List.mem_cons.1 hv with rfl | hv
        · exact⟨by omega,by omega⟩
        · exact hw v hv) hal
      obtain⟨a,e1,_⟩:=hp
      unfold Sp.put at e1
      rw[e1]at q1
      simp at q1;omega
    · rw[if_neg hal]at q1
      have hm:may 0 (rawK kind) (((more*65536+ws.length*256+kind*8+5)::ws).length:Nat):=⟨by omega,.inr ⟨by unfold rawK;split<;>omega,by simp only[List.length_cons];omega,by simp only[List.length_cons];omega⟩⟩
      have:=alloc_full L.ok hm hal
      rw[this]at q1
      simp at q1
      exact⟨q1.2.symm,q1.1.symm⟩
theorem cons_or{H0 H:Array Obj}{b:Blk}{x:Hp}(L:Live H0 H b x)(he:x.sp.mem.Even){a d:Int}(ha:IsWord a)(hd:IsWord d):
    ∃(w e:Int) (x':Hp),putR (some (b,x)) 0 1 [a,d]=(w,e)/\putO (some (b,x)) 0 1 [a,d]=some (b,x')/\((e=0/\ConsAs x x' w 1 a d/\Laid x.sp.mem x'.sp.mem w 2)\/((e=2/\w=0)/\x'=x)):=by
  obtain⟨w,e,x',q1,q2,h⟩:=live_cons_any L he (tag:=1) (.inl rfl) ha hd
  have q1:putR (some (b,x)) 0 1 [a,d]=(w,e):=q1
  have q2:putO (some (b,x)) 0 1 [a,d]=some (b,x'):=q2
  refine⟨w,e,x',q1,q2,?_⟩
  have e1:(x.sp.put 0 1 [a,d]).2=(w,e):=q1
  rcases h with⟨rfl,hc⟩ | ⟨h1,rfl⟩
  · refine .inl ⟨rfl,hc,?_⟩
    have e2:{x with sp:=(x.sp.put 0 1 [a,d]).1}=x':=by
      have h:some (b,{x with sp:=(x.sp.put 0 1 [a,d]).1})=some (b,x'):=q2
      simpa using h
    have h:=put_laid (kind:=0) (tag:=1) (ws:=[a,d]) L.ok (.inl rfl) (λv hv=>by
      simp at hv;rcases hv with rfl | rfl<;>assumption) (by simp) (by rw[e1])
    rw[e1]at h
    subst e2
    exact h
  · refine .inr ⟨?_,rfl⟩
    have hm:may 0 0 (([a,d]:List Int).length:Nat):=⟨by omega,.inl ⟨by omega,rfl⟩⟩
    unfold Sp.put at e1
    by_cases hal:(x'.sp.alloc 0 0 (([a,d]:List Int).length:Nat)).2.2=0
    · exfalso
      obtain⟨p,e3,_⟩:=Sp.put_ok L.ok hm (tag:=1) (.inl rfl) (λv hv=>by
        simp at hv;rcases hv with rfl | rfl<;>assumption) hal
      unfold Sp.put at e3
      rw[e3]at e1
      simp at e1;omega
    · rw[if_neg hal]at e1
      have:=alloc_full L.ok hm hal
      rw[this]at e1
      simp at e1
      exact⟨e1.2.symm,e1.1.symm⟩

theorem make_no{H0 H:Array Obj}{b:Blk}{x:Hp}(L:Live H0 H b x)(he:x.sp.mem.Even){kind more:Int}{ws:List Int}(hkd:1<=kind/\kind<=13)(hmo:0<=more/\more<281474976710656)(hl:ws.length<=62)(hw: ∀w∈ws,IsWord w)(h:makeR (some (b,x)) kind more ws=(0,2)):x.sp.mem.free<1:=by
  by_cases hf:1<=x.sp.mem.free
  · obtain⟨w,x',e1,_⟩:=live_made L he hkd hmo hl hw hf
    rw[e1]at h;simp at h
  · omega
theorem cons_no{H0 H:Array Obj}{b:Blk}{x:Hp}(L:Live H0 H b x)(he:x.sp.mem.Even){a d:Int}(ha:IsWord a)(hd:IsWord d)(h:putR (some (b,x)) 0 1 [a,d]=(0,2)):x.sp.mem.free<1:=by
  by_cases hf:1<=x.sp.mem.free
  · obtain⟨w,x',e1,_⟩:=live_cons L he (tag:=1) (.inl rfl) ha hd hf
    have e1:putR (some (b,x)) 0 1 [a,d]=(w,0):=e1
    rw[e1]at h;simp at h
  · omega

def tE:ByteArray:=⟨#[]⟩
def conW(k:Int):Option Int:=if k=0 then some 20 else if k=1 then some 12 else if k=2 then some 4 else if k=9 then some 36 else if k=10 then some 28 else none
def SymAt(m:Mem)(w:Int)(t:ByteArray):Prop:= ∃s,Thing m w 4 0 [s]/\Thing m s 2 0 (runesOf t)
def NumAt(m:Mem)(w:Int)(neg:Bool)(mag:List Int):Prop:=
  (w % 8=0/\IsWord w/\(normR (decide (signed w / 8<0)) (ofL (signed w / 8))).1=neg/\(normR (decide (signed w / 8<0)) (ofL (signed w / 8))).2.1=mag)\/Thing m w 3 (if neg=true then 1 else 0) mag
inductive Built (Q:Int->Prop) (m:Mem) (syl:List Int):Int->Dt->Prop
  | con {w k:Int} (h:conW k=some w):Built Q m syl w (.mk k 0 false [] tE [])
  | chr {c:Int} (h:charB c=true):Built Q m syl (c*256+60) (.mk 3 c false [] tE [])
  | num {w:Int} {neg:Bool} {mag:List Int} (h:NumAt m w neg mag) (hm:mayR neg mag=true) (hl: ∀x∈mag,IsLimb x):Built Q m syl w (.mk 4 0 neg mag tE [])
  | str {w:Int} {t:ByteArray} (h:Thing m w 2 0 (runesOf t)) (ht:textOK t):Built Q m syl w (.mk 5 0 false [] t [])
  | sym {w:Int} {t:ByteArray} (h:w∈syl) (hs:SymAt m w t) (ht:textOK t):Built Q m syl w (.mk 6 0 false [] t [])
  | vec {w:Int} {ws:List Int} {l:List Dt} (h:Thing m w 1 0 ws) (hl:ws.length=l.length) (each: ∀(i:Nat) (h1:i<ws.length) (h2:i<l.length),Built Q m syl ws[i] l[i]):Built Q m syl w (.mk 8 0 false [] tE l)
  | pair {w a b:Int} {x y:Dt} (h:Pr m w 1 a b) (hq:Q w) (ha:Built Q m syl a x) (hb:Built Q m syl b y):Built Q m syl w (.mk 7 0 false [] tE [x,y])
theorem conW_word{k w:Int}(h:conW k=some w):IsWord w/\w % 8=4:=by
  unfold conW at h
  split at h
  · cases h;exact⟨⟨by decide,by decide⟩,by decide⟩
  split at h
  · cases h;exact⟨⟨by decide,by decide⟩,by decide⟩
  split at h
  · cases h;exact⟨⟨by decide,by decide⟩,by decide⟩
  split at h
  · cases h;exact⟨⟨by decide,by decide⟩,by decide⟩
  split at h
  · cases h;exact⟨⟨by decide,by decide⟩,by decide⟩
  cases h
theorem charB_bd{c:Int}(h:charB c=true):0<=c/\c<=1114111:=by
  have hp:(0<=c/\c<=1114111)/\(c<55296\/57343<c):=by simpa[charB]using h
  exact hp.1
theorem Built.word{Q:Int->Prop}{m:Mem}{syl:List Int}{w:Int}{d:Dt}(h:Built Q m syl w d):IsWord w:=by
  cases h with
  | con h=>exact(conW_word h).1
  | chr h=>have:=charB_bd h;exact⟨by omega,by omega⟩
  | num h _ _=>
    rcases h with h | h
    · exact h.2.1
    · exact h.word
  | str h _=>exact h.word
  | sym _ h _=>obtain⟨s,h,_⟩:=h;exact h.word
  | vec h _ _=>exact h.word
  | pair h _ _ _=>exact h.word
theorem SymAt.keep{m m':Mem}{w:Int}{t:ByteArray}(hn: ∀k,(m.seg k).n<=64)(k:Keep m m')(h:SymAt m w t):SymAt m' w t:=by
  obtain⟨s,h1,h2⟩:=h
  exact⟨s,h1.keep hn k,h2.keep hn k⟩
theorem Built.keep{Q:Int->Prop}{m m':Mem}{syl syl':List Int}(hn: ∀k,(m.seg k).n<=64)(k:Keep m m')(hs: ∀w∈syl,w∈syl'){w:Int}{d:Dt}(h:Built Q m syl w d):Built Q m' syl' w d:=by
  induction h with
  | con h=>exact .con h
  | chr h=>exact .chr h
  | num h hm hl=>
    rcases h with h | h
    · exact .num (.inl h) hm hl
    · exact .num (.inr (h.keep hn k)) hm hl
  | str h ht=>exact .str (h.keep hn k) ht
  | sym h h2 ht=>exact .sym (hs _ h) (h2.keep hn k) ht
  | vec h hl each ih=>exact .vec (h.keep hn k) hl ih
  | pair h hq ha hb iha ihb=>exact .pair (h.keep k) hq iha ihb
theorem Built.weaken{Q Q':Int->Prop}{m:Mem}{syl:List Int}(hq: ∀w,Q w->Q' w){w:Int}{d:Dt}(h:Built Q m syl w d):Built Q' m syl w d:=by
  induction h with
  | con h=>exact .con h
  | chr h=>exact .chr h
  | num h hm hl=>exact .num h hm hl
  | str h ht=>exact .str h ht
  | sym h h2 ht=>exact .sym h h2 ht
  | vec h hl each ih=>exact .vec h hl ih
  | pair h hq' ha hb iha ihb=>exact .pair h (hq _ hq') iha ihb

theorem nameR_sym{m:Mem}{w:Int}{t:ByteArray}(h:SymAt m w t)(ht:textOK t):nameR m w=(t,0):=by
  obtain⟨s,h1,h2⟩:=h
  unfold nameR
  have hg:m.get (w / 8+1+0)=s:=by have:=h1.get 0 (by simp);simpa using this
  rw[if_pos (h1.field_in ⟨by omega,by simp⟩),hg,if_pos ⟨h2.obj,h2.typ⟩,h2.words,text_back ht]
def SymInv(m:Mem)(syl:List Int):Prop:= ∀w∈syl,∃t,SymAt m w t/\textOK t/\findR m syl t=some w
theorem findR_keep{m m':Mem}(hn: ∀k,(m.seg k).n<=64)(k:Keep m m')(t:ByteArray): ∀{syl:List Int},(∀w∈syl,∃t,SymAt m w t/\textOK t)->findR m' syl t=findR m syl t
  | [],_=>rfl
  | w::r,h=>by
    obtain⟨u,h1,h2⟩:=h w (by simp)
    have e:symIs m' t w=symIs m t w:=by unfold symIs;rw[nameR_sym h1 h2,nameR_sym (h1.keep hn k) h2]
    have ih:=findR_keep hn k t (syl:=r) (λv hv=>h v (by simp[hv]))
    unfold findR at ih⊢
    rw[List.find?_cons,List.find?_cons,e,ih]
theorem SymInv.keep{m m':Mem}{syl:List Int}(hn: ∀k,(m.seg k).n<=64)(k:Keep m m')(h:SymInv m syl):SymInv m' syl:=λw hw=>by
  obtain⟨t,h1,h2,h3⟩:=h w hw
  exact⟨t,h1.keep hn k,h2,by rw[findR_keep hn k t (λv hv=>by obtain⟨u,a,b,_⟩:=h v hv;exact⟨u,a,b⟩)];exact h3⟩
theorem findR_mem{m:Mem}{syl:List Int}{t:ByteArray}{w:Int}(h:findR m syl t=some w):w∈syl/\symIs m t w=true:=by
  unfold findR at h
  exact⟨List.mem_of_find?_eq_some h,List.find?_some h⟩
theorem sym_text{m:Mem}{t u:ByteArray}{w:Int}(h:symIs m t w=true)(hs:SymAt m w u)(hu:textOK u):u=t:=by
  unfold symIs at h
  rw[nameR_sym hs hu]at h
  simp only[Bool.and_eq_true,decide_eq_true_eq]at h
  have:=h.2
  rw[Lib.toList_data,Lib.toList_data]at this
  exact ByteArray.ext (Array.toList_inj.1 this)
theorem SymInv.found{m:Mem}{syl:List Int}(h:SymInv m syl){t:ByteArray}{w:Int}(hf:findR m syl t=some w):w∈syl/\SymAt m w t:=by
  obtain⟨h1,h2⟩:=findR_mem hf
  obtain⟨u,h3,h4,_⟩:=h w h1
  have:=sym_text h2 h3 h4
  subst this
  exact⟨h1,h3⟩
theorem SymInv.find{m:Mem}{syl:List Int}(h:SymInv m syl){t:ByteArray}{w:Int}(hw:w∈syl)(hs:SymAt m w t)(ht:textOK t):findR m syl t=some w:=by
  obtain⟨u,h3,h4,h5⟩:=h w hw
  have e:u=t:=by
    have h1:=nameR_sym h3 h4
    rw[nameR_sym hs ht]at h1
    exact(Prod.mk.inj h1).1.symm
  subst e
  exact h5
theorem SymInv.snoc{m:Mem}{syl:List Int}(h:SymInv m syl){t:ByteArray}{w:Int}(hs:SymAt m w t)(ht:textOK t)(hf:findR m syl t=none):SymInv m (syl++[w]):=λv hv=>by
  rcases List.mem_append.1 hv with hv | hv
  · obtain⟨u,h1,h2,h3⟩:=h v hv
    refine⟨u,h1,h2,?_⟩
    unfold findR at h3⊢
    rw[List.find?_append,h3];rfl
  · simp at hv
    subst hv
    refine⟨t,hs,ht,?_⟩
    rw[findR_snoc hf,if_pos (by unfold symIs;rw[nameR_sym hs ht];simp)]
def symCost(m:Mem)(syl:List Int):Int:=(syl.map λw=>3+((runesOf (nameR m w).1).length:Int)).sum
def symNames(m:Mem)(syl:List Int):List ByteArray:=syl.map λw=>(nameR m w).1
theorem names_keep{m m':Mem}{syl:List Int}(hn: ∀k,(m.seg k).n<=64)(k:Keep m m')(h:SymInv m syl): ∀w∈syl,nameR m' w=nameR m w:=λw hw=>by
  obtain⟨t,h1,h2,_⟩:=h w hw
  rw[nameR_sym h1 h2,nameR_sym (h1.keep hn k) h2]
theorem symCost_keep{m m':Mem}{syl:List Int}(hn: ∀k,(m.seg k).n<=64)(k:Keep m m')(h:SymInv m syl):symCost m' syl=symCost m syl/\symNames m' syl=symNames m syl:=by
  have e:=names_keep hn k h
  unfold symCost symNames
  rw[List.map_congr_left (λw hw=>by rw[e w hw]),List.map_congr_left (f:=λw=>(nameR m' w).1) (g:=λw=>(nameR m w).1) (λw hw=>by rw[e w hw])]
  exact⟨rfl,rfl⟩

structure Step (H0 H H':Array Obj) (k:Blk) (x x':Hp) (syl syl':List Int) (c bw:Int) (ns:List ByteArray):Prop where
  sy:SyAt H0 H' k x' syl'
  fr:Fr (k.all++syB x.sy) H H'
  syB: ∀i∈syB x'.sy,i∈syB x.sy\/H.size<=i
  keep:Keep x.sp.mem x'.sp.mem
  even:x'.sp.mem.Even
  count:x'.sp.mem.count<=x.sp.mem.count+c/\x.sp.mem.free<=x'.sp.mem.free+c
  len:(syl'.length:Int)<=syl.length+c/\(syl.Nodup->syl'.Nodup)
  inv:SymInv x'.sp.mem syl'
  sub: ∀w∈syl,w∈syl'
  words:x'.sp.mem.words [0]-symCost x'.sp.mem syl'=x.sp.mem.words [0]-symCost x.sp.mem syl+bw
  names: ∀t,t∈symNames x'.sp.mem syl' ↔ t∈symNames x.sp.mem syl\/t∈ns
theorem Step.refl{H0 H:Array Obj}{k:Blk}{x:Hp}{syl:List Int}(S:SyAt H0 H k x syl)(he:x.sp.mem.Even)(hi:SymInv x.sp.mem syl):Step H0 H H k x x syl syl 0 0 []:=
  ⟨S,Fr.refl _ _,λi h=> .inl h,Keep.refl _,he,by omega,⟨by omega,λh=>h⟩,hi,λw h=>h,by omega,by simp⟩
theorem Step.trans{H0 H H' H'':Array Obj}{k:Blk}{x x' x'':Hp}{syl syl' syl'':List Int}{c c' bw bw':Int}{ns ns':List ByteArray}(a:Step H0 H H' k x x' syl syl' c bw ns)(b:Step H0 H' H'' k x' x'' syl' syl'' c' bw' ns'):
    Step H0 H H'' k x x'' syl syl'' (c+c') (bw+bw') (ns++ns'):=by
  have hsz:=a.fr.size
  refine⟨b.sy,a.fr.trans' b.fr (λi hi _=>hi) (λi hi hlt=>?_),λi hi=>?_,a.keep.trans b.keep,b.even,by have:=a.count;have:=b.count;omega,⟨by have:=a.len.1;have:=b.len.1;omega,λh=>b.len.2 (a.len.2 h)⟩,b.inv,λw h=>b.sub w (a.sub w h),by have:=a.words;have:=b.words;omega,λt=>?_⟩
  · rcases List.mem_append.1 hi with h | h
    · exact List.mem_append.2 (.inl h)
    · rcases a.syB i h with h | h
      · exact List.mem_append.2 (.inr h)
      · omega
  · rcases b.syB i hi with h | h
    · exact a.syB i h
    · exact .inr (by omega)
  · rw[b.names,a.names,List.mem_append];exact or_assoc
theorem Step.grow{H0 H H' H'':Array Obj}{k:Blk}{x x':Hp}{syl syl':List Int}{c bw:Int}{ns:List ByteArray}(a:Step H0 H H' k x x' syl syl' c bw ns)(e:Ext H' H''):Step H0 H H'' k x x' syl syl' c bw ns:=
  ⟨a.sy.keep rfl (e.fr (S:=[])) (by simp),a.fr.trans e.fr,a.syB,a.keep,a.even,a.count,a.len,a.inv,a.sub,a.words,a.names⟩
theorem Step.le{H0 H H':Array Obj}{k:Blk}{x x':Hp}{syl syl':List Int}{c c' bw:Int}{ns:List ByteArray}(a:Step H0 H H' k x x' syl syl' c bw ns)(h:c<=c'):Step H0 H H' k x x' syl syl' c' bw ns:=
  ⟨a.sy,a.fr,a.syB,a.keep,a.even,by have:=a.count;omega,⟨by have:=a.len.1;omega,a.len.2⟩,a.inv,a.sub,a.words,a.names⟩
theorem Step.at{H0 H H':Array Obj}{k:Blk}{x x':Hp}{syl syl':List Int}{c bw bw':Int}{ns ns':List ByteArray}(a:Step H0 H H' k x x' syl syl' c bw ns)(h:bw=bw')(h2: ∀t,t∈ns ↔ t∈ns'):Step H0 H H' k x x' syl syl' c bw' ns':=
  ⟨a.sy,a.fr,a.syB,a.keep,a.even,a.count,a.len,a.inv,a.sub,h▸a.words,λt=>by rw[a.names,h2]⟩
theorem Step.made{H0 H H':Array Obj}{k:Blk}{x x':Hp}{syl:List Int}(S:SyAt H0 H k x syl)(L:Live H0 H k x)(hi:SymInv x.sp.mem syl){w:Int}{n:Nat}(f:Fr k.all H H')(hk:Keep x.sp.mem x'.sp.mem)(he:x'.sp.mem.Even)(hc:x'.sp.mem.count<=x.sp.mem.count+1)(hfr:x.sp.mem.free-1<=x'.sp.mem.free)(hsy:x'.sy=x.sy)(hl:Laid x.sp.mem x'.sp.mem w n):
    Step H0 H H' k x x' syl syl 1 n []:=by
  have hn: ∀q,(x.sp.mem.seg q).n<=64:=L.n64
  obtain⟨c1,c2⟩:=symCost_keep hn hk hi
  refine⟨S.keep hsy f (λi hi=> .inl hi),f.mono (λi hi _=>by simp[hi]),λi h=>by rw[hsy]at h;exact .inl h,hk,he,⟨hc,by omega⟩,⟨by omega,λh=>h⟩,hi.keep hn hk,λw h=>h,?_,λt=>by rw[c2];simp⟩
  have:=hl.words [0] (.inr rfl)
  rw[c1,this];omega
end Go.Proofs.YtibpklpgmgakcaaGreatDoor

namespace Go.Proofs.YtibpklpgmgakcaaGreatDoor
open Go

theorem Live.addSy{H0 H:Array Obj}{k:Blk}{x:Hp}{syl:List Int}(L:Live H0 H k x)(S:SyAt H0 H k x syl): ∀i∈syB x.sy,i<H.size:=λi hi=>by
 obtain⟨B,c,e,o,hB,hw⟩:=S
 rw[e]at hi
 exact o.lt i hi
theorem step_made{H0 H H':Array Obj}{k:Blk}{x x':Hp}{syl:List Int}(S:SyAt H0 H k x syl)(L:Live H0 H k x)(hi:SymInv x.sp.mem syl){w kind more:Int}{ws:List Int}(f:Fr k.all H H')(M:MadeOn x x' w kind more ws)(D:Laid x.sp.mem x'.sp.mem w (ws.length+1)):
  Step H0 H H' k x x' syl syl 1 ((ws.length+1:Nat):Int) []:=
 Step.made S L hi f M.made.keep M.even M.made.count M.made.free M.rest.1 D
theorem step_stay{H0 H H' H'':Array Obj}{k:Blk}{x x':Hp}{syl syl':List Int}{c bw:Int}{ns:List ByteArray}(a:Step H0 H H' k x x' syl syl' c bw ns)(f:Fr k.all H' H''):Step H0 H H'' k x x' syl syl' c bw ns:=
 ⟨a.sy.keep rfl f (λi hi=> .inl hi),a.fr.trans' f (λi hi _=>hi) (λi hi _=>by simp[hi]),a.syB,a.keep,a.even,a.count,a.len,a.inv,a.sub,a.words,a.names⟩
def Fell(H0 H H':Array Obj)(k:Blk)(x x':Hp)(syl:List Int)(C:Int):Prop:=x.sp.mem.free<=C/\ ∃(syl':List Int) (c bw:Int) (ns:List ByteArray),Step H0 H H' k x x' syl syl' c bw ns/\c<=C
theorem Fell.le{H0 H H':Array Obj}{k:Blk}{x x':Hp}{syl:List Int}{C C':Int}(h:Fell H0 H H' k x x' syl C)(hc:C<=C'):Fell H0 H H' k x x' syl C':=by
 obtain⟨h1,syl',c,bw,ns,h2,h3⟩:=h
 exact⟨by omega,syl',c,bw,ns,h2,by omega⟩
theorem Fell.after{H0 H H' H'':Array Obj}{k:Blk}{x x' x'':Hp}{syl syl':List Int}{c bw C:Int}{ns:List ByteArray}(a:Step H0 H H' k x x' syl syl' c bw ns)(h:Fell H0 H' H'' k x' x'' syl' C):Fell H0 H H'' k x x'' syl (c+C):=by
 obtain⟨h1,syl2,c2,bw2,ns2,h2,h3⟩:=h
 have:=a.count
 exact⟨by omega,syl2,c+c2,_,_,a.trans h2,by omega⟩
theorem Fell.stay{H0 H H' H'':Array Obj}{k:Blk}{x x':Hp}{syl syl':List Int}{c bw:Int}{ns:List ByteArray}(a:Step H0 H H' k x x' syl syl' c bw ns)(f:Fr k.all H' H'')(h:x'.sp.mem.free<1):Fell H0 H H'' k x x' syl c:=by
 have:=a.count
 exact⟨by omega,syl',c,bw,ns,step_stay a f,Int.le_refl _⟩
theorem live_Intern_c{H0 H:Array Obj}{k:Blk}{x:Hp}{name:ByteArray}{syl:List Int}(L:Live H0 H k x)(he:x.sp.mem.Even)(S:SyAt H0 H k x syl)(hi:SymInv x.sp.mem syl)(hl:syl.length<=1000000)(ht:textOK name)(hne:1<=(runesOf name).length)
  (hv:unicode_utf8_ValidString.C name H (λv A'=>v=.bool true/\Ext H A')) (hc:x.sp.mem.count<1000000000):
  syms_Intern.C (some ⟨k.h,0,none⟩) name H (λv H'=> ∃(w e:Int) (x':Hp),v=.tuple #[.int .u64 w,.int .i64 e]/\Live H0 H' k x'/\((e=2/\w=0/\Fell H0 H H' k x x' syl 2)\/(e=0/\ ∃syl',Step H0 H H' k x x' syl syl' 2 0 [name]/\w∈syl'/\SymAt x'.sp.mem w name))):=by
 have S0:=S
 have hnn:name.toList≠(ByteArray.mk #[]).toList:=λh=>by
  have h0:=(nil_text _).1 h
  unfold runesOf at hne
  rw[runesAt_end (by omega)]at hne
  simp at hne
 have h62:=ht.2
 obtain⟨B,c,e,o,hB,hw⟩:=S
 refine HC.via λR hR=>syms_Intern.link ?_
 unfold syms_Intern.pt
 rw[if_neg hnn]
 refine HC.mono hv ?_
 rintro _ H1 ⟨rfl,e1⟩
 refine⟨_,rfl,?_⟩
 rw[if_pos rfl]
 refine HC.mono (RuneCount_c (by omega)) ?_
 rintro _ H2 ⟨rfl,e2⟩
 refine⟨_,rfl,?_⟩
 rw[if_neg (by omega)]
 have e12:=e1.trans e2
 refine HC.mono (syms_Find_c (L.grow e12).view (by rw[show(Addr.mk k.h 0 none).add 1=⟨k.h,1,none⟩from rfl,(L.grow e12).at'.syAt,e]) rfl (o.ext e12).src hl hw) ?_
 rintro _ H3 ⟨rfl,e3⟩
 have e13:=e12.trans e3
 rw[show mof (some (k,x))=x.sp.mem from rfl]
 cases hf:findR x.sp.mem syl name with
 | some w=>
  refine⟨_,_,rfl,?_⟩
  rw[if_pos (by rfl)]
  obtain⟨f1,f2⟩:=hi.found hf
  have hn:=nameR_sym f2 ht
  have st:=(Step.refl S0 he hi).grow e13
  refine hR _ _ ⟨w,0,x,rfl,L.grow e13,.inr ⟨rfl,syl,⟨st.sy,st.fr,st.syB,st.keep,st.even,by omega,⟨by omega,λh=>h⟩,st.inv,st.sub,st.words,λt=>?_⟩,f1,f2⟩⟩
  constructor
  ·intro h;exact .inl h
  ·intro h
   rcases h with h | h
   ·exact h
   ·simp at h;subst h
    exact List.mem_map.2 ⟨w,f1,by rw[hn]⟩
 | none=>
  refine⟨_,_,rfl,?_⟩
  rw[if_neg (by decide),onPtr_some]
  refine HC.mono (obj_String_c (s:=name) (L.grow e13).view (show x.sp.mem.count<_ by omega)) ?_
  rintro _ H4 ⟨rfl,V4,f4⟩
  have hst:strR (some (k,x)) name=makeR (some (k,x)) 2 0 (runesOf name)/\strO (some (k,x)) name=makeO (some (k,x)) 2 0 (runesOf name):=by
   unfold strR strO;rw[if_neg (by omega),if_neg (by omega)];exact⟨rfl,rfl⟩
  rw[hst.2]at V4
  rw[hst.1]
  obtain⟨s,es,x1,q1,q2,hor⟩:=make_or (L.grow e13) he (kind:=2) (more:=0) (by decide) (by decide) h62 (runesOf_word name)
  have no4:=make_no (L.grow e13) he (kind:=2) (more:=0) (by decide) (by decide) h62 (runesOf_word name)
  rw[q1]at no4
  rw[q2]at V4
  rw[q1]
  have L4:=(L.grow e13).step V4 f4
  refine⟨_,_,rfl,?_⟩
  rcases hor with⟨rfl,M4,D4⟩ | ⟨⟨rfl,rfl⟩,rfl⟩
  case inr=>
   rw[if_neg (by decide)]
   exact hR _ _ ⟨0,2,x1,rfl,L4,.inl ⟨rfl,rfl,(Fell.stay ((Step.refl S0 he hi).grow e13) (Live.others f4) (no4 rfl)).le (by omega)⟩⟩
  rw[if_pos rfl]
  have f4':=Live.others f4
  intro b H5 hb hH5
  have e5:Ext H4 H5:=Ext.push' hH5
  have c1:=M4.made.count
  refine HC.mono (obj_Make_c (ws:=[s]) (L4.grow e5).view (rowAt_blk (push_get hb hH5) _ 0 0 (λj hj=>by simp[wvs])) rfl (by simpa using M4.thing.word) (by decide) ⟨by decide,by decide⟩ (show x1.sp.mem.count<_ by omega) (by simp)) ?_
  rintro _ H6 ⟨rfl,V6,f6⟩
  obtain⟨w,ew,x2,q3,q4,hor2⟩:=make_or (L4.grow e5) M4.even (kind:=4) (more:=0) (ws:=[s]) (by decide) (by decide) (by simp) (by simpa using M4.thing.word)
  have no6:=make_no (L4.grow e5) M4.even (kind:=4) (more:=0) (ws:=[s]) (by decide) (by decide) (by simp) (by simpa using M4.thing.word)
  rw[q3]at no6
  rw[q4]at V6
  rw[q3]
  have L6:=(L4.grow e5).step V6 f6
  have f6':=Live.others f6
  refine⟨_,_,rfl,?_⟩
  rcases hor2 with⟨rfl,M6,D6⟩ | ⟨⟨rfl,rfl⟩,rfl⟩
  case inr=>
   rw[if_neg (by decide)]
   exact hR _ _ ⟨0,2,x2,rfl,L6,.inl ⟨rfl,rfl,(Fell.stay ((((Step.refl S0 he hi).grow e13).trans (step_made (S0.keep rfl (e13.fr (S:=[])) (by simp)) (L.grow e13) hi f4' M4 D4)).grow e5) f6' (no6 rfl)).le (by omega)⟩⟩
  rw[if_pos rfl]
  have c2:=M6.made.count
  have hsy:x2.sy=.slice B syl.length c:=M6.rest.1.trans (M4.rest.1.trans e)
  refine⟨B,syl.length,c,by rw[show(Addr.mk k.h 0 none).add 1=⟨k.h,1,none⟩from rfl,L6.at'.syAt,hsy],λb2 H7 hb2 hH7=>?_⟩
  have e7:Ext H6 H7:=Ext.push' hH7
  have s13:=e13.size
  have s4:=f4'.size
  have s5:=e5.size
  have s6:=f6'.size
  have o6:=(((o.ext e13).keep f4' (λi hi=>(hB i hi).1)).ext e5).keep f6' (λi hi=>(hB i hi).1)
  have hBlt: ∀i∈blks B,i<H.size:=λi hi=>o.lt i hi
  refine own_append (ys:=wvs [w]) (o6.ext e7) (rowAt_blk (push_get hb2 hH7) _ 0 0 (λj hj=>by simp)) (by simp) (allOne_wvs _) rfl (by omega) ?_
  intro p' c' H8 o8 f8 hnew
  have L7:=L6.grow e7
  have hkall: ∀i∈k.all,i<H.size:=λi hi=>L.lt hi
  have L8:Live H0 H8 k x2:=L7.keep f8 (λi hi=>(hB i hi).2) (λi hi=>(hB i hi).1)
  obtain⟨c9,h9,f9⟩:=L8.at'.putSy (.slice p' (syl.length+1) c')
  rw[show(Addr.mk k.h 0 none).add 1=⟨k.h,1,none⟩from rfl]
  refine⟨c9,λH9 hH9=>?_⟩
  rw[<-hH9]at h9 f9
  have L0:=L.ext.size
  have hp7: ∀i∈blks p',i∈blks B\/H.size<=i:=λi hi=>by
   rcases hnew i hi with h | h
   ·exact .inl h
   ·have s7:=e7.size;exact .inr (by omega)
  have hp8: ∀i∈blks p',i ∉ k.all/\H0.size<=i:=λi hi=>by
   rcases hp7 i hi with h | h
   ·exact hB i h
   ·exact⟨λhk=>by have:=hkall i hk;omega,by omega⟩
  have hkh:k.h∈k.all:=by simp[Blk.all]
  have hS:syB x.sy=blks B:=by rw[e];rfl
  have hn: ∀q,(x.sp.mem.seg q).n<=64:=L.n64
  have hn1: ∀q,(x1.sp.mem.seg q).n<=64:=L4.n64
  have k2:Keep x.sp.mem x2.sp.mem:=M4.made.keep.trans M6.made.keep
  have inv2:SymInv x2.sp.mem syl:=hi.keep hn k2
  have sa:SymAt x2.sp.mem w name:=⟨s,M6.thing,M4.thing.keep hn1 M6.made.keep⟩
  have hf2:findR x2.sp.mem syl name=none:=by
   rw[findR_keep hn k2 name (λv hv=>by obtain⟨u,a,b,_⟩:=hi v hv;exact⟨u,a,b⟩)];exact hf
  have hnm:=nameR_sym sa ht
  obtain⟨k1,k3⟩:=symCost_keep hn k2 hi
  have hw1:=D4.words [0] (.inr rfl)
  have hw2:=D6.words [0] (.inr rfl)
  refine hR _ _ ⟨w,0,{x2 with sy:=.slice p' (syl.length+1) c'},rfl,⟨h9,L8.ok,L8.ext.fr_trans f9 (λi hi=>by simp at hi;subst hi;exact L8.young _ hkh),L8.young⟩,.inr ⟨rfl,syl++[w],⟨⟨p',c',by simp,?_,hp8,λu hu=>?_⟩,?_,λi hi=>?_,k2,M6.even,?_,?_,inv2.snoc sa ht hf2,λv hv=>by simp[hv],?_,λt=>?_⟩,by simp,sa⟩⟩
  ·have:=o8.keep f9 (λi hi h=>by simp at h;subst h;exact(hp8 _ hi).1 hkh)
   simpa[wvs]using this
  ·rcases List.mem_append.1 hu with h | h
   ·exact hw u h
   ·simp at h;subst h;exact M6.thing.word
  ·rw[hS]
   exact((((((e13.fr (S:=k.all++blks B)).trans (f4'.mono (λi hi _=>by simp[hi]))).trans e5.fr).trans (f6'.mono (λi hi _=>by simp[hi]))).trans e7.fr).trans (f8.mono (λi hi _=>by simp[hi]))).trans (f9.mono (λi hi _=>by simp at hi;subst hi;simp[hkh]))
  ·rw[hS];exact hp7 i hi
  ·show x2.sp.mem.count<=x.sp.mem.count+2/\x.sp.mem.free<=x2.sp.mem.free+2
   have:=M4.made.free
   have:=M6.made.free
   omega
  ·refine⟨by simp,λhnd=>?_⟩
   rw[List.nodup_append]
   refine⟨hnd,by simp,λu hu v hv e=>?_⟩
   simp at hv;subst hv;subst e
   have:=inv2.find hu sa ht
   rw[hf2]at this;cases this
  ·show x2.sp.mem.words [0]-symCost x2.sp.mem (syl++[w])=_
   have:symCost x2.sp.mem (syl++[w])=symCost x.sp.mem syl+(3+((runesOf name).length:Int)):=by
    rw[<-k1];unfold symCost;rw[List.map_append,List.sum_append];simp[hnm]
   rw[this,hw2,hw1];simp;omega
  ·show t∈symNames x2.sp.mem (syl++[w]) ↔ _
   unfold symNames at k3⊢
   rw[List.map_append,k3];simp[hnm]

mutual
def baseD:Dt->Int
 | .mk k _ neg mag t l=>(if k=4 then(if(fixR neg mag).2=true then 0 else(mag.length:Int)+1)else if k=5 then((runesOf t).length:Int)+1 else if k=7 then 2 else if k=8 then(l.length:Int)+1 else 0)+baseL l
def baseL:List Dt->Int
 | []=>0
 | d::r=>baseD d+baseL r
end
mutual
def namesD:Dt->List ByteArray
 | .mk k _ _ _ t l=>(if k=6 then[t]else[])++namesL l
def namesL:List Dt->List ByteArray
 | []=> []
 | d::r=>namesD d++namesL r
end
theorem baseL_snoc: ∀(l:List Dt) (d:Dt),baseL (l++[d])=baseL l+baseD d
 | [],d=>by simp[baseL]
 | x::r,d=>by simp only[List.cons_append,baseL];rw[baseL_snoc r d];omega
theorem countL_snoc: ∀(l:List Dt) (d:Dt),countL (l++[d])=countL l+countD d
 | [],d=>by simp[countL]
 | x::r,d=>by simp only[List.cons_append,countL];rw[countL_snoc r d];omega
theorem namesL_snoc: ∀(l:List Dt) (d:Dt),namesL (l++[d])=namesL l++namesD d
 | [],d=>by simp[namesL]
 | x::r,d=>by simp only[List.cons_append,namesL];rw[namesL_snoc r d];simp
def pairD(x y:Dt):Dt:=.mk 7 0 false [] tE [x,y]
def consD(cs:List Dt)(r:Dt):Dt:=cs.foldr pairD r
theorem consD_cons(c:Dt)(cs:List Dt)(r:Dt):consD (c::cs) r=pairD c (consD cs r):=rfl
theorem baseD_pair(x y:Dt):baseD (pairD x y)=2+(baseD x+baseD y):=by simp[pairD,baseD,baseL]
theorem countD_pair(x y:Dt):countD (pairD x y)=1+(countD x+countD y):=by simp[pairD,countD,countL]
theorem namesD_pair(x y:Dt):namesD (pairD x y)=namesD x++namesD y:=by simp[pairD,namesD,namesL]
theorem tE_of{t:ByteArray}(h:t.size=0):t=tE:=by
 have h:t.data.size=0:=h
 exact ByteArray.ext (by rw[Array.size_eq_zero_iff.1 h];rfl)
theorem plain_pair{k c:Int}{neg:Bool}{mag:List Int}{t:ByteArray}{l:List Dt}(h:Plain (.mk k c neg mag t l))(hk:k=7): ∃x y,l=[x,y]/\Dt.mk k c neg mag t l=pairD x y/\Plain x/\Plain y:=by
 cases h with
 | mk pk pc pc3 pn p4 pt p56 p6 pl p7 p62 peach=>
 subst hk
 have h2:=p7 rfl
 match l,h2 with
 | [x,y],_=>
  have hn:=pn (by decide)
  have hc:=pc (by decide)
  have ht:=tE_of (pt (by decide) (by decide))
  subst hc ht
  rw[hn.1,hn.2]
  exact⟨x,y,rfl,rfl,peach x (by simp),peach y (by simp)⟩
theorem plain_chain(n:Nat): ∀d,countD d<=n->Plain d-> ∃cs r,d=consD cs r/\r.kind≠7/\Plain r/\(∀c∈cs,Plain c)/\(d.kind=7->cs≠[]):=by
 induction n with
 | zero=>intro d h;have:=countD_pos d;omega
 | succ n ih=>
  intro d hc hp
  by_cases h7:d.kind=7
  ·cases d with
   | mk k c neg mag t l=>
   obtain⟨x,y,_,e,hx,hy⟩:=plain_pair hp h7
   rw[e,countD_pair]at hc
   have:=countD_pos x
   obtain⟨cs,r,e2,h3,h4,h5,_⟩:=ih y (by omega) hy
   refine⟨x::cs,r,by rw[e,e2];rfl,h3,h4,λz hz=>?_,λ_=>by simp⟩
   rcases List.mem_cons.1 hz with rfl | hz
   ·exact hx
   ·exact h5 z hz
  ·exact⟨[],d,rfl,h7,hp,by simp,λh=>absurd h h7⟩
theorem countD_cons(r:Dt): ∀cs:List Dt,countD (consD cs r)=cs.length+countL cs+countD r
 | []=>by simp[consD,countL]
 | c::cs=>by rw[consD_cons,countD_pair,countD_cons r cs];simp only[countL,List.length_cons];omega
theorem light_parts{k c:Int}{neg:Bool}{mag:List Int}{t:ByteArray}{l:List Dt}(h:Light (.mk k c neg mag t l)):t.size<=1000/\mag.length<=300/\ ∀x∈l,Light x:=by
 cases h;exact⟨by assumption,by assumption,by assumption⟩
theorem light_pair{x y:Dt}(h:Light (pairD x y)):Light x/\Light y:=by
 have:=(light_parts h).2.2
 exact⟨this x (by simp),this y (by simp)⟩
theorem light_cons{r:Dt}: ∀{cs:List Dt},Light (consD cs r)->(∀c∈cs,Light c)/\Light r
 | [],h=>⟨by simp,h⟩
 | c::cs,h=>by
  rw[consD_cons]at h
  obtain⟨h1,h2⟩:=light_pair h
  obtain⟨h3,h4⟩:=light_cons h2
  refine⟨λz hz=>?_,h4⟩
  rcases List.mem_cons.1 hz with rfl | hz
  ·exact h1
  ·exact h3 z hz
end Go.Proofs.YtibpklpgmgakcaaGreatDoor

namespace Go.Proofs.YtibpklpgmgakcaaGreatDoor
open Go

def Out(H:Array Obj)(k:Blk)(x:Hp)(i:Nat):Prop:=i<H.size/\i ∉ k.all/\i ∉ syB x.sy
theorem Out.not{H:Array Obj}{k:Blk}{x:Hp}{i:Nat}(h:Out H k x i):i ∉ k.all++syB x.sy:=λhi=>by
 rcases List.mem_append.1 hi with hi | hi
 ·exact h.2.1 hi
 ·exact h.2.2 hi
theorem Out.step{H0 H H':Array Obj}{k:Blk}{x x':Hp}{syl syl':List Int}{c bw:Int}{ns:List ByteArray}(S:Step H0 H H' k x x' syl syl' c bw ns){i:Nat}(h:Out H k x i):Out H' k x' i:=
 ⟨Nat.lt_of_lt_of_le h.1 S.fr.size,h.2.1,λhi=>by
  rcases S.syB i hi with hi | hi
  ·exact h.2.2 hi
  ·have:=h.1;omega⟩
theorem Out.grow{H H':Array Obj}{k:Blk}{x:Hp}{i:Nat}(h:Out H k x i)(e:Ext H H'):Out H' k x i:=⟨Nat.lt_of_lt_of_le h.1 e.size,h.2⟩
theorem Out.fresh{H0 H H':Array Obj}{k:Blk}{x:Hp}{syl:List Int}(L:Live H0 H k x)(S:SyAt H0 H k x syl){i:Nat}(h1:H.size<=i)(h2:i<H'.size):Out H' k x i:=
 ⟨h2,λhi=>by have:=L.lt hi;omega,λhi=>by have:=L.addSy S i hi;omega⟩
structure PEnv (H:Array Obj) (k:Blk) (x:Hp) (b b3:Nat):Prop where
 hb:hat H ⟨b,0,none⟩=some (.pointer (some ⟨k.h,0,none⟩))
 hb3:hat H ⟨b3,0,none⟩=some (.func (.func 28) #[] #[.pointer (some ⟨b,0,none⟩),.pointer (some ⟨b3,0,none⟩)])
 ob:Out H k x b
 ob3:Out H k x b3
theorem PEnv.step{H0 H H':Array Obj}{k:Blk}{x x':Hp}{b b3:Nat}{syl syl':List Int}{c bw:Int}{ns:List ByteArray}(E:PEnv H k x b b3)(S:Step H0 H H' k x x' syl syl' c bw ns):PEnv H' k x' b b3:=
 ⟨S.fr.hat E.ob.not E.hb,S.fr.hat E.ob3.not E.hb3,E.ob.step S,E.ob3.step S⟩
theorem PEnv.grow{H H':Array Obj}{k:Blk}{x:Hp}{b b3:Nat}(E:PEnv H k x b b3)(e:Ext H H'):PEnv H' k x b b3:=⟨e.hat E.hb,e.hat E.hb3,E.ob.grow e,E.ob3.grow e⟩
theorem DatAt.step{H0 H H':Array Obj}{k:Blk}{x x':Hp}{syl syl':List Int}{c bw:Int}{ns:List ByteArray}(S:Step H0 H H' k x x' syl syl' c bw ns){v:Dv}{d:Dt}(h:DatAt (Out H k x) H v d):DatAt (Out H' k x') H' v d:=
 h.keep S.fr (λi hi ho=>ho.not hi) (λi ho=>ho.step S)
theorem DatAt.grow{H H':Array Obj}{k:Blk}{x:Hp}(e:Ext H H'){v:Dv}{d:Dt}(h:DatAt (Out H k x) H v d):DatAt (Out H' k x) H' v d:=
 h.keep (S:=[]) e.fr (by simp) (λi ho=>ho.grow e)
def NoPr(m:Mem)(u:Int):Prop:= ∀tag a d,¬Pr m u tag a d
theorem NoPr.elder{m m':Mem}(k:Keep m m'){u:Int}(h:NoPr m' u):NoPr m u:=λtag a d hp=>h tag a d (hp.keep k)
def PutR(H0 H:Array Obj)(k:Blk)(x:Hp)(syl:List Int)(d:Dt)(r:Value)(H':Array Obj):Prop:=
 ∃(w e:Int) (x':Hp),r=.tuple #[.int .u64 w,.int .i64 e]/\Live H0 H' k x'/\((e=2/\w=0/\Fell H0 H H' k x x' syl (2*countD d))\/(e=0/\ ∃syl',Step H0 H H' k x x' syl syl' (2*countD d) (baseD d) (namesD d)/\Built (NoPr x.sp.mem) x'.sp.mem syl' w d))
theorem plain_con{k c:Int}{neg:Bool}{mag:List Int}{t:ByteArray}{l:List Dt}(h:Plain (.mk k c neg mag t l))(h3:k≠3)(h4:k≠4)(h5:k≠5)(h6:k≠6)(h7:k≠7)(h8:k≠8):Dt.mk k c neg mag t l=.mk k 0 false [] tE []:=by
 cases h with
 | mk pk pc pc3 pn p4 pt p56 p6 pl p7 p62 peach=>
 rw[pc h3,(pn h4).1,(pn h4).2,tE_of (pt h5 h6),pl h7 h8]
theorem plain_chr{c:Int}{neg:Bool}{mag:List Int}{t:ByteArray}{l:List Dt}(h:Plain (.mk 3 c neg mag t l)):Dt.mk 3 c neg mag t l=.mk 3 c false [] tE []/\charB c=true:=by
 cases h with
 | mk pk pc pc3 pn p4 pt p56 p6 pl p7 p62 peach=>
 refine⟨?_,pc3 rfl⟩
 rw[(pn (by decide)).1,(pn (by decide)).2,tE_of (pt (by decide) (by decide)),pl (by decide) (by decide)]
theorem plain_num{c:Int}{neg:Bool}{mag:List Int}{t:ByteArray}{l:List Dt}(h:Plain (.mk 4 c neg mag t l)):Dt.mk 4 c neg mag t l=.mk 4 0 neg mag tE []/\mayR neg mag=true:=by
 cases h with
 | mk pk pc pc3 pn p4 pt p56 p6 pl p7 p62 peach=>
 refine⟨?_,p4 rfl⟩
 rw[pc (by decide),tE_of (pt (by decide) (by decide)),pl (by decide) (by decide)]
theorem plain_str{c:Int}{neg:Bool}{mag:List Int}{t:ByteArray}{l:List Dt}(h:Plain (.mk 5 c neg mag t l)):Dt.mk 5 c neg mag t l=.mk 5 0 false [] t []/\textOK t:=by
 cases h with
 | mk pk pc pc3 pn p4 pt p56 p6 pl p7 p62 peach=>
 refine⟨?_,p56 (.inl rfl)⟩
 rw[pc (by decide),(pn (by decide)).1,(pn (by decide)).2,pl (by decide) (by decide)]
theorem plain_sym{c:Int}{neg:Bool}{mag:List Int}{t:ByteArray}{l:List Dt}(h:Plain (.mk 6 c neg mag t l)):Dt.mk 6 c neg mag t l=.mk 6 0 false [] t []/\textOK t/\1<=(runesOf t).length:=by
 cases h with
 | mk pk pc pc3 pn p4 pt p56 p6 pl p7 p62 peach=>
 refine⟨?_,p56 (.inr rfl),p6 rfl⟩
 rw[pc (by decide),(pn (by decide)).1,(pn (by decide)).2,pl (by decide) (by decide)]
theorem plain_vec{c:Int}{neg:Bool}{mag:List Int}{t:ByteArray}{l:List Dt}(h:Plain (.mk 8 c neg mag t l)):Dt.mk 8 c neg mag t l=.mk 8 0 false [] tE l/\l.length<=62/\ ∀x∈l,Plain x:=by
 cases h with
 | mk pk pc pc3 pn p4 pt p56 p6 pl p7 p62 peach=>
 refine⟨?_,p62,peach⟩
 rw[pc (by decide),(pn (by decide)).1,(pn (by decide)).2,tE_of (pt (by decide) (by decide))]
theorem may_parts{neg:Bool}{mag:List Int}(h:mayR neg mag=true):mag.length<=48/\top mag=mag.length/\trim mag=mag/\normR neg mag=(neg,mag,0):=by
 unfold mayR at h
 simp at h
 obtain⟨h1,h2,h3⟩:=h
 have ht:trim mag=mag:=by unfold trim;rw[List.take_of_length_le (by omega)]
 refine⟨h1,h2,ht,?_⟩
 unfold normR
 rw[if_neg (by omega),ht,h2]
 rcases h3 with rfl | h3
 ·simp
 ·have:decide (0<mag.length)=true:=by simpa using h3
  rw[this,Bool.and_true]
theorem fixR_bd{neg:Bool}{ls:List Int}(hl: ∀x∈ls,IsLimb x)(h:(fixR neg ls).2=true): -1152921504606846976<=(fixR neg ls).1/\(fixR neg ls).1<1152921504606846976:=by
 have hl0:=limb_at hl 0
 have hl1:=limb_at hl 1
 have hX:fixX ls=ls.getD 0 0+4294967296*ls.getD 1 0:=rfl
 unfold IsLimb at hl0 hl1
 unfold fixR at h⊢
 by_cases h1:2<top ls
 ·rw[if_pos h1]at h;cases h
 rw[if_neg h1]at h⊢
 by_cases h2:fixX ls>1152921504606846976
 ·rw[if_pos h2]at h;cases h
 rw[if_neg h2]at h⊢
 by_cases h3:fixX ls=1152921504606846976/\neg=false
 ·rw[if_pos h3]at h;cases h
 rw[if_neg h3]at h⊢
 by_cases h4:neg=true
 ·rw[if_pos h4];dsimp only;omega
 ·rw[if_neg h4]
  have h5:neg=false:=by simpa using h4
  have:fixX ls≠1152921504606846976:=λh=>h3 ⟨h,h5⟩
  dsimp only;omega
theorem char_letter{c:Int}(h:charB c=true):0<=c/\letterB c=true:=by
 have hp:(0<=c/\c<=1114111)/\(c<55296\/57343<c):=by simpa[charB]using h
 refine⟨hp.1.1,?_⟩
 unfold letterB
 simp
 omega
theorem step_out{S:List Nat}{H0 H H' H'':Array Obj}{k:Blk}{x x':Hp}{syl syl':List Int}{c bw:Int}{ns:List ByteArray}(a:Step H0 H H' k x x' syl syl' c bw ns)(f:Fr S H' H'')(h1: ∀i∈S,H.size<=i)(h2: ∀i∈S,i ∉ syB x'.sy):Step H0 H H'' k x x' syl syl' c bw ns:=by
 refine⟨?_,a.fr.trans' f (λi hi _=>hi) (λi hi hlt=>absurd (h1 i hi) (by omega)),a.syB,a.keep,a.even,a.count,a.len,a.inv,a.sub,a.words,a.names⟩
 obtain⟨B,c,e,o,hB,hw⟩:=a.sy
 refine⟨B,c,e,o.keep f (λi hi hs=>h2 i hs (by rw[e];exact hi)),hB,hw⟩
set_option maxRecDepth 20000 in
theorem put_c(N:Nat): ∀(d:Dt),countD d<=N->Plain d->Light d-> ∀{H0 H:Array Obj} {k:Blk} {x:Hp} {syl:List Int} {v:Dv} {b b3:Nat} (L:Live H0 H k x) (T:Tabs8 H0) (he:x.sp.mem.Even) (S:SyAt H0 H k x syl) (hi:SymInv x.sp.mem syl) (D:DatAt (Out H k x) H v d) (E:PEnv H k x b b3)
  (hs:(syl.length:Int)+2*countD d<=100000) (hc:x.sp.mem.count+2*countD d<=100000),
  build_Heap_1.C v.kind v.c v.neg v.mB v.mN v.mC v.t v.lB v.lN v.lC (some ⟨b,0,none⟩) (some ⟨b3,0,none⟩) H (PutR H0 H k x syl d):=by
 induction N with
 | zero=>intro d h;have:=countD_pos d;omega
 | succ N ih=>
 intro d hN hplain hlight H0 H k x syl v b b3 L T he S hi D E hs hc
 have D0:=D
 have hplain0:=hplain
 have hlight0:=hlight
 have hpos:=countD_pos d
 refine HC.via λR hR=>build_Heap_1.link ?_
 unfold build_Heap_1.pt
 intro b1 H1 hb1 hH1
 have e1:=Ext.push' hH1
 have B:=DBox.new (v:=v) hb1 hH1
 have g1:=push_get hb1 hH1
 have L1:=L.grow e1
 have S1:SyAt H0 H1 k x syl:=S.keep rfl (e1.fr (S:=[])) (by simp)
 have E1:=E.grow e1
 have st1:=(Step.refl S he hi).grow e1
 have ok: ∀(w:Int) (x':Hp) (syl':List Int) (A:Array Obj) (c:Int),Live H0 A k x'->Step H0 H A k x x' syl syl' c (baseD d) (namesD d)->c<=2*countD d->Built (NoPr x.sp.mem) x'.sp.mem syl' w d->R (.tuple #[.int .u64 w,.int .i64 0]) A:=
  λw x' syl' A c LA sA hcc hB=>hR _ _ ⟨w,0,x',rfl,LA,.inr ⟨rfl,syl',sA.le hcc,hB⟩⟩
 have no: ∀(x':Hp) (A:Array Obj),Live H0 A k x'->Fell H0 H A k x x' syl (2*countD d)->R (.tuple #[.int .u64 0,.int .i64 2]) A:=λx' A LA hfr=>hR _ _ ⟨0,2,x',rfl,LA,.inl ⟨rfl,rfl,hfr⟩⟩
 refine⟨_,B.kind,?_⟩
 rw[D.vkind]
 have put: ∀(d':Dt),countD d'<=N->Plain d'->Light d'-> ∀{A:Array Obj} {y:Hp} {sy:List Int} {u:Dv} (LA:Live H0 A k y) (he:y.sp.mem.Even) (SA:SyAt H0 A k y sy) (hi:SymInv y.sp.mem sy) (DA:DatAt (Out A k y) A u d') (EA:PEnv A k y b b3)
   (hs:(sy.length:Int)+2*countD d'<=100000) (hc:y.sp.mem.count+2*countD d'<=100000) {K:Value->Array Obj->Prop},(∀r A',PutR H0 A k y sy d' r A'->K r A')->
   FC Tryz.prog (.func (.func 28) #[] #[.pointer (some ⟨b,0,none⟩),.pointer (some ⟨b3,0,none⟩)]) #[.agg u.cells.toArray] A K:=λd' h1 h2 h3 A y sy u LA he SA hi DA EA hs hc K hK=>by
  refine FC.of (enters_of Tryz.func28 (by kernel_rfl) rfl) ?_
  show build_Heap_1.C u.kind u.c u.neg u.mB u.mN u.mC u.t u.lB u.lN u.lC (some ⟨b,0,none⟩) (some ⟨b3,0,none⟩) A K
  exact HC.mono (ih d' h1 h2 h3 LA T he SA hi DA EA hs hc) hK
 clear ih
 by_cases h7:d.kind=7
 case pos=>
  rw[if_neg (by omega),if_neg (by omega),if_neg (by omega),if_neg (by omega),if_neg (by omega),if_neg (by omega),if_neg (by omega),if_neg (by omega),if_neg (by omega),if_pos h7]
  obtain⟨cs,r,hd,hr7,hpr,hpc,hcs⟩:=plain_chain (countD d).toNat d (by omega) hplain0
  have hcn:=hcs h7
  clear hcs
  subst hd
  obtain⟨hlc,hlr⟩:=light_cons hlight0
  have hcd:=countD_cons r cs
  have hcl:=countL_pos cs
  have hrp:=countD_pos r
  have hlen0:0<cs.length:=List.length_pos_iff.2 hcn
  have hb1H:b1=H.size:=hb1
  have hb1':b1<H1.size:=lt_size g1
  refine⟨λcB cN cC A=> ∃(vs:List Dv) (u:Dv),cN<=cs.length/\vs.length=cN/\Ext H A/\H1.size<=A.size/\A[b1]?=some (.cells u.cells.toArray 51 (0,0))/\DatAt (Out H k x) H u (consD (cs.drop cN) r)/\Own A 51 6 cB cN cC (vs.flatMap Dv.cells)/\(∀i∈blks cB,H1.size<=i)/\(∀(i:Nat) (h1:i<vs.length) (h2:i<cs.length),DatAt (Out H k x) H vs[i] cs[i]),
   λ_ n _ _=>cs.length-n,⟨[],v,by omega,rfl,e1,Nat.le_refl _,g1,by simpa using D,own_nil,by simp,by simp⟩,?_⟩
  rintro cB cN cC A ⟨vs,u,hj,hvl,eA,hszA,gA,DA,ho,hcB,hvs⟩
  have BA:=DBox.of gA
  refine⟨_,BA.kind,?_⟩
  rw[DA.vkind]
  by_cases hj2:cN<cs.length
  ·-- one more
   rw[List.drop_eq_getElem_cons hj2,consD_cons]at DA
   rw[List.drop_eq_getElem_cons hj2,consD_cons]
   rw[if_pos (by rfl)]
   generalize hrest:consD (cs.drop (cN+1)) r=rest at DA
   have DA':=DA
   unfold pairD at DA'
   cases DA' with
   | mk _ _ _ _ _ _ _ us ek ec en et hk hc' hm hmc hmb hsrc hlm hll hlc' hlb hus mP lP row each=>
   have hus2:us.length=2:=hus
   obtain⟨a,ha,hr0⟩:=row 0 (by omega)
   obtain⟨a',ha',hr1⟩:=row 1 (by omega)
   have haa:a'=a:=by rw[ha]at ha';exact(Option.some.inj ha').symm
   subst haa
   have d0:=each 0 (by omega) (by simp)
   have d1:=each 1 (by omega) (by simp)
   simp only[List.getElem_cons_zero,List.getElem_cons_succ]at d0 d1
   have hl2:u.lN=2:=hll
   refine⟨_,_,_,BA.l,a',ha,⟨by decide,by rw[hl2];decide⟩,_,_,_,_,_,_,_,_,_,_,eA.rowAt hr0,λb4 H14 hb4 hH14=>?_⟩
   have e14:=Ext.push' hH14
   refine own_append (ys:=us[0].cells) (ho.ext e14) (rowAt_blk (push_get hb4 hH14) _ 0 0 (λj hj=>by simp)) rfl (by rfl) rfl (by omega) ?_
   intro p' c' H15 ho15 f15 hnew
   have e15:Ext H H15:=(eA.trans e14).fr_trans f15 (λi hi=>by have:=hcB i hi;omega)
   have g15:H15[b1]?=_:=f15.get (λhh=>by have:=hcB _ hh;omega) (e14.get gA)
   have B15:=DBox.of g15
   refine⟨_,_,_,B15.l,a',ha,⟨by decide,by rw[hl2];decide⟩,_,_,_,_,_,_,_,_,_,_,e15.rowAt hr1,?_⟩
   obtain⟨s1,s2⟩:=box_set (vs:=us[1].cells) (n:=6) g15 rfl rfl
   refine⟨s1,λH16 hH16=>?_⟩
   obtain⟨g16,f16⟩:=s2 H16 hH16
   have hp': ∀i∈blks p',H1.size<=i:=λi hi=>by
    rcases hnew i hi with h | h
    ·exact hcB i h
    ·have:=e14.size;omega
   have z1:=e14.size
   have z2:=f15.size
   have z3:=f16.size
   refine⟨⟨vs++[us[0]],us[1],by omega,by simp[hvl],e15.fr_trans f16 (λi hi=>by simp at hi;omega),by omega,g16,by rw[hrest];exact d1,?_,hp',λi h1 h2=>?_⟩,by show cs.length-(cN+1)<cs.length-cN;omega⟩
   ·have:=ho15.keep f16 (λi hi hh=>by simp at hh;have:=hp' i hi;omega)
    simpa using this
   ·by_cases hi:i<vs.length
    ·rw[List.getElem_append_left hi];exact hvs i hi h2
    ·have hieq:i=cN:=by simp[hvl]at h1;omega
     subst hieq
     simp only[hvl.symm,List.getElem_append_right (Nat.le_refl _),Nat.sub_self,List.getElem_cons_zero]
     simpa[hvl]using d0
  ·-- the last
   have hjl:cN=cs.length:=by omega
   subst hjl
   rw[List.drop_eq_nil_of_le (Nat.le_refl _)]at DA⊢
   have DA:DatAt (Out H k x) H u r:=DA
   rw[show(consD [] r)=r from rfl,if_neg hr7]
   have EA:PEnv A k x b b3:=E.grow eA
   refine⟨_,rfl,_,EA.hb3,_,_,_,_,_,_,_,_,_,_,BA.row,?_⟩
   have LA:=L.grow eA
   have SA:SyAt H0 A k x syl:=S.keep rfl (eA.fr (S:=[])) (by simp)
   refine put r (by omega) hpr hlr (u:=u) LA he SA hi (DA.grow eA) EA (by omega) (by omega) ?_
   rintro _ H17 ⟨w,e,y,rfl,L17,hor⟩
   refine⟨_,_,rfl,?_⟩
   have stA:Step H0 H A k x x syl syl 0 0 []:=(Step.refl S he hi).grow eA
   have hcbO: ∀i∈blks cB,Out A k x i:=λi hi=>Out.fresh L S (by have:=hcB i hi;have:=e1.size;omega) (ho.lt i hi)
   have w64c:IntKind.wrap .i64 ((cs.length:Int)-1)=(cs.length:Int)-1:=w64 (by omega)
   rw[w64c]
   refine⟨λwv ev i A'=>(-1<=i/\i<cs.length)/\ ∃y:Hp,Live H0 A' k y/\((ev=2/\Fell H0 H A' k x y syl (2*countD (consD cs r)))\/(ev=0/\ ∃syl',Step H0 H A' k x y syl syl' (2*(countL (cs.drop (i+1).toNat)+countD r)+(cs.length-1-i)) (2*(cs.length-1-i)+baseL (cs.drop (i+1).toNat)+baseD r) (namesL (cs.drop (i+1).toNat)++namesD r)/\Built (NoPr x.sp.mem) y.sp.mem syl' wv (consD (cs.drop (i+1).toNat) r)/\
     PEnv A' k y b b3/\Own A' 51 6 cB cs.length cC (vs.flatMap Dv.cells)/\(∀i∈blks cB,Out A' k y i)/\IsWord wv)),
    λ_ _ i _=>(i+1).toNat,?_,?_⟩
   ·refine⟨by omega,y,L17,?_⟩
    rcases hor with⟨rfl,rfl,hfr⟩ | ⟨rfl,syl',st,hB⟩
    ·exact .inl ⟨rfl,(Fell.after stA hfr).le (by omega)⟩
    ·have hd0:cs.drop ((cs.length:Int)-1+1).toNat=[]:=List.drop_eq_nil_of_le (by omega)
     refine .inr ⟨rfl,syl',?_,?_,EA.step st,ho.keep st.fr (λi hi hh=>(hcbO i hi).not hh),λi hi=>(hcbO i hi).step st,hB.word⟩
     ·rw[hd0]
      exact((stA.trans st).le (by simp only[countL];omega)).at (by simp only[baseL];omega) (λt=>by simp[namesL])
     ·rw[hd0];exact hB
   rintro wv ev i H18 ⟨hi',y,L18,hor⟩
   by_cases hgo:i>=0/\ev=0
   case neg=>
    rw[if_neg (by simpa using hgo)]
    rcases hor with⟨rfl,hfr⟩ | ⟨rfl,syl',st,hB,_,_,_,_⟩
    ·rw[if_neg (by decide)];exact no y _ L18 hfr
    ·rw[if_pos rfl]
     have hin:i= -1:=by
      have: ¬i>=0:=λh=>hgo ⟨h,rfl⟩
      omega
     subst hin
     simp only[Int.reduceNeg,Int.reduceAdd,Int.toNat_zero,List.drop_zero]at st hB
     refine ok _ y syl' _ _ L18 (st.at ?_ ?_) ?_ hB
     ·have hb: ∀cs:List Dt,baseD (consD cs r)=2*cs.length+baseL cs+baseD r:=by
       intro cs
       induction cs with
       | nil=>simp[consD,baseL]
       | cons c cs ih=>rw[consD_cons,baseD_pair,ih];simp only[baseL,List.length_cons];omega
      rw[hb];omega
     ·have hb: ∀cs:List Dt,namesD (consD cs r)=namesL cs++namesD r:=by
       intro cs
       induction cs with
       | nil=>simp[consD,namesL]
       | cons c cs ih=>rw[consD_cons,namesD_pair,ih];simp only[namesL,List.append_assoc]
      intro t;rw[hb]
     ·omega
   rw[if_pos (by simpa using hgo)]
   obtain⟨h0,rfl⟩:=hgo
   rcases hor with⟨h,_⟩ | ⟨_,syl',st,hB,E18,ho18,hcb18,hwv⟩
   ·cases h
   refine⟨_,E18.hb3,?_⟩
   have hin:i.toNat<cs.length:=by omega
   have hinv:i.toNat<vs.length:=by omega
   obtain⟨a,ha,_,hrow⟩:=ho18.elem (f:=Dv.cells) (λ_=>rfl) (by decide) hinv
   have hmem:cs[i.toNat]∈cs:=List.getElem_mem hin
   have hcm:=countL_mem hmem
   have hcl2:=countL_pos (cs.drop (i+1).toNat)
   have hdc:cs.drop i.toNat=cs[i.toNat]::cs.drop (i+1).toNat:=by rw[List.drop_eq_getElem_cons hin,show(i+1).toNat=i.toNat+1 by omega]
   have hsum:countL (cs.drop i.toNat)<=countL cs:=by
    have: ∀(l:List Dt) (n:Nat),countL (l.drop n)<=countL l:=by
     intro l
     induction l with
     | nil=>intro n;simp
     | cons z l ih=>intro n;cases n with
      | zero=>simp
      | succ n=>simp only[List.drop_succ_cons,countL];have:=ih n;have:=countD_pos z;omega
    exact this cs _
   rw[hdc]at hsum
   simp only[countL]at hsum
   have hcnt18:=st.count
   have hlen18:=st.len.1
   have hmp:=countD_pos cs[i.toNat]
   refine⟨a,ha,⟨h0,hi'.2⟩,_,_,_,_,_,_,_,_,_,_,hrow,?_⟩
   refine put cs[i.toNat] (by omega) (hpc _ hmem) (hlc _ hmem) (u:=vs[i.toNat]) L18 st.even st.sy st.inv ((hvs _ hinv hin).step st) E18 (by omega) (by omega) ?_
   rintro _ H19 ⟨w2,e2,y2,rfl,L19,hor2⟩
   refine⟨_,_,rfl,?_⟩
   rw[w64 (n:=i-1) (by omega)]
   have hmeas:(i-1+1).toNat< (i+1).toNat:=by omega
   rcases hor2 with⟨rfl,rfl,hfr⟩ | ⟨rfl,syl2,st2,hB2⟩
   ·rw[if_neg (by decide)]
    exact⟨⟨by omega,y2,L19,.inl ⟨rfl,(Fell.after st hfr).le (by omega)⟩⟩,hmeas⟩
   rw[if_pos rfl]
   have E19:=E18.step st2
   refine⟨_,rfl,_,E19.hb,?_⟩
   have st3:=st.trans st2
   have hcnt3:=st3.count
   refine HC.mono (obj_Cons_c L19.view hB2.word hwv (show y2.sp.mem.count<_ by omega)) ?_
   rintro _ H20 ⟨rfl,V20,f20⟩
   obtain⟨w3,e3,y3,q1,q2,hor3⟩:=cons_or L19 st2.even hB2.word hwv
   have nof:=cons_no L19 st2.even hB2.word hwv
   rw[q1]at nof
   rw[q2]at V20
   rw[q1]
   have L20:=L19.step V20 f20
   refine⟨_,_,rfl,?_⟩
   rcases hor3 with⟨rfl,M,D3⟩ | ⟨⟨rfl,rfl⟩,rfl⟩
   case inr=>exact⟨⟨by omega,y3,L20,.inl ⟨rfl,(Fell.stay st3 (Live.others f20) (nof rfl)).le (by omega)⟩⟩,hmeas⟩
   have f20':=Live.others f20
   have st4:=Step.made st2.sy L19 st2.inv f20' M.made.keep M.even M.made.count M.made.free M.rest.1 D3
   have st5:=st3.trans st4
   have hdr:cs.drop (i-1+1).toNat=cs[i.toNat]::cs.drop (i+1).toNat:=by rw[<-hdc];congr 1;omega
   have hcb19: ∀j∈blks cB,Out H19 k y2 j:=λj hj=>(hcb18 j hj).step st2
   refine⟨⟨by omega,y3,L20,.inr ⟨rfl,syl2,?_,?_,E19.step st4,(ho18.keep st2.fr (λj hj hh=>(hcb18 j hj).not hh)).keep st4.fr (λj hj hh=>(hcb19 j hj).not hh),λj hj=>(hcb19 j hj).step st4,M.pr.word⟩⟩,hmeas⟩
   ·rw[hdr]
    simp only[countL,baseL,namesL]
    exact(st5.le (by omega)).at (by omega) (λt=>by simp only[List.mem_append,List.append_nil,List.not_mem_nil,or_false];constructor<;>(intro h;rcases h with(h | h) | h<;>simp[h]))
   ·rw[hdr,consD_cons]
    have n19:=L19.n64
    have n18:=L18.n64
    refine .pair M.pr (λtag p q hp=>?_) ?_ ?_
    ·have:=M.made.fresh 0 (by omega)
     have hp2:=(hp.keep st3.keep)
     exact this (by have:=hp2.at'.used hp2.word;simpa using this)
    ·exact(hB2.weaken (λu hu=>hu.elder st.keep)).keep n19 M.made.keep (λu hu=>hu)
    ·exact(hB.keep n18 st2.keep st2.sub).keep n19 M.made.keep (λu hu=>hu)
 case neg=>
  cases d with
  | mk kd c neg mag t l=>
  rw[show(Dt.mk kd c neg mag t l).kind=kd from rfl]at h7⊢
  cases D with
  | mk _ _ _ _ _ _ _ us ek ec en et hk hc' hm hmc hmb hsrc hlm hll hlc hlb hus mP lP row each=>
  obtain⟨ht1000,hm300,hlight1⟩:=light_parts hlight0
  have con: ∀w,conW kd=some w->kd≠3->kd≠4->kd≠5->kd≠6->kd≠8->R (.tuple #[.int .u64 w,.int .i64 0]) H1:=λw hw h3 h4 h5 h6 h8=>by
   have e:=plain_con hplain0 h3 h4 h5 h6 h7 h8
   refine ok w x syl H1 0 L1 (st1.at ?_ ?_) (by omega) (by rw[e];exact .con hw)
   ·rw[e];simp[baseD,baseL,h4,h5,h7,h8]
   ·rw[e];intro t;simp[namesD,namesL,h6]
  by_cases q1:kd=1
  ·rw[if_pos q1];exact con 12 (by subst q1;rfl) (by omega) (by omega) (by omega) (by omega) (by omega)
  rw[if_neg q1]
  by_cases q2:kd=2
  ·rw[if_pos q2];exact con 4 (by subst q2;rfl) (by omega) (by omega) (by omega) (by omega) (by omega)
  rw[if_neg q2]
  by_cases q9:kd=9
  ·rw[if_pos q9];exact con 36 (by subst q9;rfl) (by omega) (by omega) (by omega) (by omega) (by omega)
  rw[if_neg q9]
  by_cases q10:kd=10
  ·rw[if_pos q10];exact con 28 (by subst q10;rfl) (by omega) (by omega) (by omega) (by omega) (by omega)
  rw[if_neg q10]
  by_cases q3:kd=3
  ·rw[if_pos q3]
   subst q3
   obtain⟨e,hch⟩:=plain_chr hplain0
   refine⟨_,B.c,?_⟩
   rw[ec]
   refine HC.mono (word_Char_c hc') ?_
   rintro _ H2 ⟨rfl,e2⟩
   rw[if_pos (char_letter hch)]
   refine⟨_,_,rfl,ok _ x syl H2 0 (L1.grow e2) ((st1.grow e2).at ?_ ?_) (by omega) (by rw[e];exact .chr hch)⟩
   ·rw[e];simp[baseD,baseL]
   ·rw[e];intro t;simp[namesD,namesL]
  rw[if_neg q3]
  have hcntx:x.sp.mem.count<1000000000:=by omega
  by_cases q4:kd=4
  ·rw[if_pos q4]
   subst q4
   obtain⟨e,hmay⟩:=plain_num hplain0
   obtain⟨hm48,htop,htrim,hnorm⟩:=may_parts hmay
   refine⟨_,rfl,_,E1.hb,_,_,_,_,B.num,?_⟩
   rw[en]
   refine HC.mono (obj_Int_c L1.view (show x.sp.mem.count<_ by omega) (SrcAt.stay hsrc (e1.fr (S:=[])) (by simp)) hm hmc (by omega) hlm) ?_
   rintro _ H2 ⟨rfl,V2,f2⟩
   have LF:=λy (h:bigO (some (k,x)) neg mag=some (k,y))=>L1.step (h▸V2) f2
   have f2':=Live.others f2
   by_cases hfx:(fixR neg mag).2=true
   ·have q:bigR (some (k,x)) neg mag=(fixW (fixR neg mag).1,0)/\bigO (some (k,x)) neg mag=some (k,x):=by
     refine⟨?_,?_⟩
     ·unfold bigR;rw[hnorm,htrim,if_neg (by omega),if_pos hfx]
     ·unfold bigO;rw[hnorm,htrim,if_neg (by omega),if_pos hfx]
    rw[q.1]
    have L2:=LF x q.2
    clear LF
    have hz:=signed_fix (fixR_bd hlm hfx)
    have hb:=fix_back (neg:=neg) hlm (by omega) (by rw[hnorm,htrim];exact hfx)
    rw[hnorm,htrim]at hb
    refine⟨_,_,rfl,ok _ x syl H2 0 L2 ((step_stay st1 f2').at ?_ ?_) (by omega) ?_⟩
    ·rw[e];simp[baseD,baseL,hfx]
    ·rw[e];intro t;simp[namesD,namesL]
    ·rw[e]
     refine .num (.inl ⟨hz.1,hz.2.2,?_,?_⟩) hmay hlm
     ·rw[hz.2.1,hb]
     ·rw[hz.2.1,hb]
   ·have q:bigR (some (k,x)) neg mag=makeR (some (k,x)) 3 (if neg=true then 1 else 0) mag/\bigO (some (k,x)) neg mag=makeO (some (k,x)) 3 (if neg=true then 1 else 0) mag:=by
     refine⟨?_,?_⟩
     ·unfold bigR;rw[hnorm,htrim,if_neg (by omega),if_neg hfx]
     ·unfold bigO;rw[hnorm,htrim,if_neg (by omega),if_neg hfx]
    rw[q.1]
    obtain⟨w,ew,y,r1,r2,hor⟩:=make_or L1 he (kind:=3) (more:=if neg=true then 1 else 0) (ws:=mag) (by decide) (by split<;>decide) (by omega) (λz hz=>by have:=hlm z hz;unfold IsLimb at this;exact⟨by omega,by omega⟩)
    have nof:=make_no L1 he (kind:=3) (more:=if neg=true then 1 else 0) (ws:=mag) (by decide) (by split<;>decide) (by omega) (λz hz=>by have:=hlm z hz;unfold IsLimb at this;exact⟨by omega,by omega⟩)
    rw[r1]at nof
    rw[r1]
    have L2:=LF y (q.2.trans r2)
    clear LF
    refine⟨_,_,rfl,?_⟩
    rcases hor with⟨rfl,M,D3⟩ | ⟨⟨rfl,rfl⟩,rfl⟩
    case inr=>exact no y _ L2 ((Fell.stay st1 f2' (nof rfl)).le (by omega))
    refine ok w y syl H2 (0+1) L2 ((st1.trans (step_made S1 L1 hi f2' M D3)).at ?_ ?_) (by omega) ?_
    ·rw[e];simp[baseD,baseL,hfx]
    ·rw[e];intro t;simp[namesD,namesL]
    ·rw[e];exact .num (.inr M.thing) hmay hlm
  rw[if_neg q4]
  by_cases q5:kd=5
  ·rw[if_pos q5]
   subst q5
   obtain⟨e,htx⟩:=plain_str hplain0
   have h62:=htx.2
   refine⟨_,rfl,_,E1.hb,_,B.t,?_⟩
   rw[et]
   refine HC.mono (obj_String_c (s:=t) L1.view (show x.sp.mem.count<_ by omega)) ?_
   rintro _ H2 ⟨rfl,V2,f2⟩
   have hst:strR (some (k,x)) t=makeR (some (k,x)) 2 0 (runesOf t)/\strO (some (k,x)) t=makeO (some (k,x)) 2 0 (runesOf t):=by
    unfold strR strO;rw[if_neg (by omega),if_neg (by omega)];exact⟨rfl,rfl⟩
   obtain⟨w,ew,y,r1,r2,hor⟩:=make_or L1 he (kind:=2) (more:=0) (by decide) (by decide) h62 (runesOf_word t)
   have nof:=make_no L1 he (kind:=2) (more:=0) (by decide) (by decide) h62 (runesOf_word t)
   rw[r1]at nof
   rw[hst.2,r2]at V2
   rw[hst.1,r1]
   have L2:=L1.step V2 f2
   have f2':=Live.others f2
   refine⟨_,_,rfl,?_⟩
   rcases hor with⟨rfl,M,D3⟩ | ⟨⟨rfl,rfl⟩,rfl⟩
   case inr=>exact no y _ L2 ((Fell.stay st1 f2' (nof rfl)).le (by omega))
   refine ok w y syl H2 (0+1) L2 ((st1.trans (step_made S1 L1 hi f2' M D3)).at ?_ ?_) (by omega) ?_
   ·rw[e];simp[baseD,baseL]
   ·rw[e];intro t;simp[namesD,namesL]
   ·rw[e];exact .str M.thing htx
  rw[if_neg q5]
  by_cases q6:kd=6
  ·rw[if_pos q6]
   subst q6
   obtain⟨e,htx,hne⟩:=plain_sym hplain0
   refine⟨_,rfl,_,E1.hb,_,B.t,?_⟩
   rw[et]
   refine HC.mono (live_Intern_c (name:=t) L1 he S1 hi (by omega) htx hne (HC.mono (ValidString_c (T.ext L1.ext) (by omega)) (λv A' h=>⟨by rw[h.1,htx.1],h.2⟩)) (by omega)) ?_
   rintro _ H2 ⟨w,ew,y,rfl,L2,hor⟩
   refine⟨_,_,rfl,?_⟩
   rcases hor with⟨rfl,rfl,hfr⟩ | ⟨rfl,syl',st,hw,hs⟩
   ·exact no y _ L2 ((Fell.after st1 hfr).le (by omega))
   refine ok w y syl' H2 (0+2) L2 ((st1.trans st).at ?_ ?_) (by omega) ?_
   ·rw[e];simp[baseD,baseL]
   ·rw[e];intro t;simp[namesD,namesL]
   ·rw[e];exact .sym hw hs htx
  rw[if_neg q6]
  by_cases q8:kd=8
  case neg=>
   rw[if_neg q8,if_neg h7]
   have h0:kd=0:=by
    have hp:=hplain0
    cases hp with
    | mk pk _ _ _ _ _ _ _ _ _ _ _=>omega
   exact con 20 (by subst h0;rfl) (by omega) (by omega) (by omega) (by omega) (by omega)
  rw[if_pos q8]
  subst q8
  obtain⟨e,h62,hpl⟩:=plain_vec hplain0
  rw[show countD (.mk 8 c neg mag t l)=1+countL l from rfl]at hN hs hc ok no
  have hb1H:b1=H.size:=hb1
  have sz1:=e1.size
  have hsumT: ∀(n:Nat),countL (l.take n)<=countL l:=by
   have: ∀(l:List Dt) (n:Nat),countL (l.take n)<=countL l:=by
    intro l
    induction l with
    | nil=>intro n;simp
    | cons z l ih=>intro n;cases n with
     | zero=>have:=countL_pos (z::l);simp only[List.take_zero,countL]at this⊢;omega
     | succ n=>simp only[List.take_succ_cons,countL];have:=ih n;omega
   exact this l
  refine⟨_,_,_,B.l,?_⟩
  refine⟨λlB lN lC s A=> ∃(y:Hp) (syl' ws:List Int),s=lN/\lN<=l.length/\ws.length=lN/\Live H0 A k y/\Step H0 H A k x y syl syl' (2*countL (l.take lN)) (baseL (l.take lN)) (namesL (l.take lN))/\Own A 54 1 lB lN lC (wvs ws)/\(∀i∈blks lB,H.size<=i/\Out A k y i)/\(∀w∈ws,IsWord w)/\
    ∀(i:Nat) (h1:i<ws.length) (h2:i<l.length),Built (NoPr x.sp.mem) y.sp.mem syl' ws[i] l[i],λ_ n _ _ _=>l.length-n,
   ⟨x,syl,[],rfl,by omega,rfl,L1,by simpa[baseL,countL,namesL]using st1,own_nil,by simp,by simp,λi h1=>by simp at h1⟩,?_⟩
  rintro lB lN lC s A ⟨y,syl',ws,rfl,hlN,hwl,LA,st,ho,hcb,hww,hbt⟩
  have hcnt:=st.count
  have hlen:=st.len.1
  have hsT:=hsumT lN
  rw[hll]
  by_cases hlt:((lN:Nat):Int)< ((l.length:Nat):Int)
  ·rw[if_pos hlt]
   have hlt':lN<l.length:=by omega
   obtain⟨a,ha,hr⟩:=row lN (by omega)
   have hob:Out H k x a.block:=lP (λh0=>by subst h0;simp at hlt') a.block (by rw[ha];simp)
   have hrA:RowAt A (a.add (lN*6)) 0 us[lN].cells:=st.fr.rowAt (by rw[addr_block_add];exact hob.not) hr
   refine⟨a,ha,⟨by omega,hlt⟩,_,_,_,_,_,_,_,_,_,_,hrA,λb7 H7 hb7 hH7=>?_⟩
   obtain⟨cp7,pu7⟩:=box_new (vs:=us[lN].cells) hb7 hH7 rfl rfl
   refine⟨cp7,λH8 hH8=>?_⟩
   obtain⟨g8,e8⟩:=pu7 H8 hH8
   have L8:=LA.grow e8
   have st8:=st.grow e8
   have E8:=E.step st8
   refine⟨_,rfl,_,E8.hb3,_,_,_,_,_,_,_,_,_,_,box_row g8,?_⟩
   have hmem:l[lN]∈l:=List.getElem_mem hlt'
   have hcm:=countL_mem hmem
   have hmp:=countD_pos l[lN]
   have htk:l.take (lN+1)=l.take lN++[l[lN]]:=List.take_succ_eq_append_getElem hlt'
   have hsT1:=hsumT (lN+1)
   rw[htk,countL_snoc]at hsT1
   refine put l[lN] (by omega) (hpl _ hmem) (hlight1 _ hmem) (u:=us[lN]) L8 st8.even st8.sy st8.inv ((each lN (by omega) hlt').step st8) E8 (by omega) (by omega) ?_
   rintro _ H9 ⟨w,ew,z,rfl,L9,hor⟩
   refine⟨_,_,rfl,?_⟩
   rcases hor with⟨rfl,rfl,hfr⟩ | ⟨rfl,syl2,st2,hB2⟩
   ·rw[if_neg (by decide)];exact no z _ L9 ((Fell.after st8 hfr).le (by omega))
   rw[if_pos rfl]
   intro b10 H10 hb10 hH10
   have e10:=Ext.push' hH10
   have st9:=st8.trans st2
   have hcb8: ∀i∈blks lB,H.size<=i/\Out H8 k y i:=λi hi=>⟨(hcb i hi).1,(hcb i hi).2.grow e8⟩
   have hcb9: ∀i∈blks lB,H.size<=i/\Out H9 k z i:=λi hi=>⟨(hcb8 i hi).1,(hcb8 i hi).2.step st2⟩
   have ho9:=(ho.ext e8).keep st2.fr (λi hi hh=>(hcb8 i hi).2.not hh)
   have hz9:=st9.fr.size
   have h10:=e10.size
   have h00:=L.ext.size
   refine own_append (ys:=wvs [w]) (ho9.ext e10) (rowAt_blk (push_get hb10 hH10) _ 0 0 (λj hj=>by simp)) (by simp) (allOne_wvs _) rfl (by omega) ?_
   intro p' c' H11 ho11 f11 hnew
   have L11:Live H0 H11 k z:=(L9.grow e10).keep f11 (λi hi=>by have:=(hcb i hi).1;omega) (λi hi=>(hcb9 i hi).2.2.1)
   have st11:=step_out (st9.grow e10) f11 (λi hi=>(hcb i hi).1) (λi hi=>(hcb9 i hi).2.2.2)
   have hp': ∀i∈blks p',H.size<=i/\Out H11 k z i:=λi hi=>by
    rcases hnew i hi with h | h
    ·refine⟨(hcb i h).1,?_,(hcb9 i h).2.2⟩
     exact ho11.lt i hi
    ·exact⟨by omega,Out.fresh (L9.grow e10) ((st9.grow e10).sy) h (ho11.lt i hi)⟩
   have n9:=L8.n64
   refine⟨⟨z,syl2,ws++[w],by rw[w64 (by omega)];omega,by omega,by simp[hwl],L11,?_,by simpa[wvs]using ho11,hp',λu hu=>?_,λi h1 h2=>?_⟩,by show l.length-(lN+1)<l.length-lN;omega⟩
   ·rw[htk,countL_snoc,baseL_snoc,namesL_snoc]
    exact(st11.le (by omega)).at rfl (λt=>Iff.rfl)
   ·rcases List.mem_append.1 hu with h | h
    ·exact hww u h
    ·simp at h;subst h;exact hB2.word
   ·by_cases hi:i<ws.length
    ·rw[List.getElem_append_left hi]
     exact(hbt i hi h2).keep n9 st2.keep st2.sub
    ·have hieq:i=lN:=by simp[hwl]at h1;omega
     subst hieq
     simp only[hwl.symm,List.getElem_append_right (Nat.le_refl _),Nat.sub_self,List.getElem_cons_zero]
     simpa[hwl]using hB2.weaken (λu hu=>hu.elder st8.keep)
  ·rw[if_neg hlt]
   have hlN2:lN=l.length:=by omega
   subst hlN2
   rw[List.take_length]at st hcnt hlen
   have EA:=E.step st
   refine⟨_,rfl,_,EA.hb,?_⟩
   refine HC.mono (obj_Make_c (ws:=ws) LA.view ho.src hwl.symm hww (by decide) ⟨by decide,by decide⟩ (show y.sp.mem.count<_ by omega) (by omega)) ?_
   rintro _ H12 ⟨rfl,V12,f12⟩
   obtain⟨w,ew,z,r1,r2,hor⟩:=make_or LA st.even (kind:=1) (more:=0) (ws:=ws) (by decide) (by decide) (by omega) hww
   have nof:=make_no LA st.even (kind:=1) (more:=0) (ws:=ws) (by decide) (by decide) (by omega) hww
   rw[r1]at nof
   rw[r2]at V12
   rw[r1]
   have L12:=LA.step V12 f12
   have f12':=Live.others f12
   refine⟨_,_,rfl,?_⟩
   rcases hor with⟨rfl,M,D3⟩ | ⟨⟨rfl,rfl⟩,rfl⟩
   case inr=>exact no z _ L12 ((Fell.stay st f12' (nof rfl)).le (by omega))
   refine ok w z syl' H12 (2*countL l+1) L12 ((st.trans (step_made st.sy LA st.inv f12' M D3)).at ?_ ?_) (by omega) ?_
   ·rw[e];simp only[baseD];simp[hwl];omega
   ·rw[e];intro t;simp[namesD,namesL]
   ·rw[e]
    refine .vec M.thing hwl (λi h1 h2=>(hbt i h1 h2).keep LA.n64 M.made.keep (λu hu=>hu))
end Go.Proofs.YtibpklpgmgakcaaGreatDoor

