/-
 There and back of numbers that lie in a word. Proves nothing of any one program.
-/
import Derived.Test.YtibpklpgmgakcaaGreatDoorNumH
set_option linter.unusedVariables false
set_option linter.unusedSimpArgs false
namespace Go.Proofs.YtibpklpgmgakcaaGreatDoor
open Go
theorem ofL_back{ls:List Int}(hlm: ∀x∈ls,IsLimb x)(ht:top ls<=2):trim [fixX ls % 4294967296,fixX ls / 4294967296]=trim ls:=by
 have hl0:=limb_at hlm 0
 have hl1:=limb_at hlm 1
 have hX:fixX ls=ls.getD 0 0+4294967296*ls.getD 1 0:=rfl
 refine trim_congr λi=>?_
 match i with
 | 0=>show fixX ls % 4294967296=_;omega
 | 1=>show fixX ls / 4294967296=_;omega
 | i+2=>rw[top_zero ls (i+2) (by omega),getD_past _ _ (by simp)]
theorem fixX_zero{ls:List Int}(hlm: ∀x∈ls,IsLimb x)(h:fixX ls=0)(ht:top ls<=2):top ls=0:=by
 have hl0:=limb_at hlm 0
 have hl1:=limb_at hlm 1
 have hX:fixX ls=ls.getD 0 0+4294967296*ls.getD 1 0:=rfl
 rcases(show top ls=0\/top ls=1\/top ls=2 by omega)with h0 | h0 | h0
 ·exact h0
 ·exact absurd (show ls.getD (top ls-1) 0=0 by rw[h0];show ls.getD 0 0=0;omega) (topN_last ls _ (by show top ls≠0;omega))
 ·exact absurd (show ls.getD (top ls-1) 0=0 by rw[h0];show ls.getD 1 0=0;omega) (topN_last ls _ (by show top ls≠0;omega))
theorem fix_back{neg:Bool}{ls:List Int}(hlm: ∀x∈ls,IsLimb x)(h48: ¬48<top ls)(h:(fixR (normR neg ls).1 (trim ls)).2=true):
  normR (decide ((fixR (normR neg ls).1 (trim ls)).1<0)) (ofL (fixR (normR neg ls).1 (trim ls)).1)=normR neg ls:=by
 have hlt:=limbs_trim hlm
 have hl0:=limb_at hlt 0
 have hl1:=limb_at hlt 1
 have hX:fixX (trim ls)=(trim ls).getD 0 0+4294967296*(trim ls).getD 1 0:=rfl
 have ht2:top ls<=2:=by
  rcases Nat.lt_or_ge 2 (top ls)with h2 | h2
  ·unfold fixR at h;rw[top_trim,if_pos h2]at h;exact absurd h (by decide)
  ·exact h2
 have hn1:(normR neg ls).1=(neg && decide (0<top ls)):=by unfold normR;rw[if_neg h48]
 have hmag: ∀x:Int,(x=fixX (trim ls)\/x= -fixX (trim ls))->trim (ofL x)=trim ls:=λx hx=>by
  have hm:mag x=fixX (trim ls):=by unfold mag;split<;>omega
  unfold ofL;rw[hm,ofL_back hlt (by rw[top_trim];exact ht2),trim_trim]
 have htop: ∀x:Int,(x=fixX (trim ls)\/x= -fixX (trim ls))->top (ofL x)=top ls:=λx hx=>by rw[<-trim_len,hmag x hx,trim_len]
 have fin: ∀x:Int,(x=fixX (trim ls)\/x= -fixX (trim ls))->(decide (x<0) && decide (0<top ls))=(neg && decide (0<top ls))->normR (decide (x<0)) (ofL x)=normR neg ls:=λx hx hs=>by
  unfold normR
  rw[htop x hx,if_neg h48,if_neg h48,hmag x hx,hs]
 have hz:top ls≠0->0<fixX (trim ls):=λhne=>by
  have:fixX (trim ls)≠0:=λe=>hne (by have:=fixX_zero hlt e (by rw[top_trim];exact ht2);rw[top_trim]at this;exact this)
  omega
 unfold fixR at h⊢
 rw[top_trim,if_neg (by omega)]at h⊢
 by_cases h2:fixX (trim ls)>1152921504606846976
 ·rw[if_pos h2]at h;exact absurd h (by decide)
 rw[if_neg h2]at h⊢
 by_cases h3:fixX (trim ls)=1152921504606846976/\(normR neg ls).1=false
 ·rw[if_pos h3]at h;exact absurd h (by decide)
 rw[if_neg h3]at h⊢
 by_cases h4:(normR neg ls).1=true
 ·rw[if_pos h4]
  rw[hn1]at h4
  simp at h4
  refine fin _ (.inr rfl) ?_
  have:=hz (by omega)
  rw[h4.1,decide_eq_true (p:= -fixX (trim ls)<0) (by omega)]
 ·rw[if_neg h4]
  rw[hn1]at h4
  refine fin _ (.inl rfl) ?_
  rw[decide_eq_false (p:=fixX (trim ls)<0) (by omega)]
  simp at h4⊢
  intro hh;have:=h4 hh;omega
theorem signed_fix{x:Int}(h: -1152921504606846976<=x/\x<1152921504606846976):fixW x % 8=0/\signed (fixW x) / 8=x/\IsWord (fixW x):=by
 unfold fixW signed
 refine⟨by omega,?_,by omega,by omega⟩
 split<;>omega
end Go.Proofs.YtibpklpgmgakcaaGreatDoor
