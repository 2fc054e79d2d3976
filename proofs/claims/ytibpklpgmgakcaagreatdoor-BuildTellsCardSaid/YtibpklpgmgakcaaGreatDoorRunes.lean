/-
 Characters that become a text, and are told again. Proves nothing of any one statement.
-/
import Derived.Test.YtibpklpgmgakcaaGreatDoorText
set_option linter.unusedVariables false
set_option linter.unusedSimpArgs false
namespace Go.Proofs.YtibpklpgmgakcaaGreatDoor
open Go

theorem u8(n:Nat)(h:n<256):(UInt8.ofNat n).toNat=n:=by
 simp[UInt8.toNat_ofNat'];omega
section
variable {S:ByteArray} {i:Nat}
end
def Letter(r:Int):Prop:=Utf8.valid r=true
theorem Letter.nat{r:Int}(h:Letter r):0<=r/\r<=1114111:=by
 unfold Letter Utf8.valid at h
 simp only[Bool.or_eq_true,Bool.and_eq_true,decide_eq_true_eq]at h
 omega
def catR:List Int->ByteArray
 | []=>ByteArray.empty
 | r::rs=>Utf8.encode r++catR rs
theorem ba_assoc(a b c:ByteArray):a++b++c=a++(b++c):=by
 apply ByteArray.ext;simp[ByteArray.data_append,Array.append_assoc]
theorem ba_nil(a:ByteArray):a++ByteArray.empty=a:=by
 apply ByteArray.ext;simp[ByteArray.data_append]
theorem nil_ba(a:ByteArray):ByteArray.empty++a=a:=by
 apply ByteArray.ext;simp[ByteArray.data_append]
theorem foldl_cat: ∀(rs:List Int) (s:ByteArray),rs.foldl (λs n=>s++Utf8.encode n) s=s++catR rs
 | [],s=>(ba_nil s).symm
 | r::rs,s=>by
  rw[List.foldl_cons,foldl_cat rs,ba_assoc];rfl
theorem runesStr_cat(rs:List Int):runesStr rs=catR rs:=by
 unfold runesStr;rw[foldl_cat,nil_ba]
theorem decode_valid(s:ByteArray)(pos:Nat):Utf8.valid ((Utf8.decode s pos).1:Int)=true:=by
 unfold Utf8.decode
 simp only[]
 have small: ∀c:Nat,c<55296->Utf8.valid (c:Int)=true:=λc h=>by
  unfold Utf8.valid
  rw[decide_eq_true (show(0:Int)<=c by omega),decide_eq_true (show(c:Int)<0xD800 by omega)];rfl
 split
 ·exact small _ (by omega)
 split
 ·split
  ·exact small _ (by omega)
  ·decide
 split
 ·split
  ·rename_i h;simp only[Bool.and_eq_true]at h;exact h.2
  ·decide
 split
 ·split
  ·rename_i h;simp only[Bool.and_eq_true]at h;exact h.2
  ·decide
 ·decide
theorem runesFrom_letter(s:ByteArray): ∀(f pos:Nat),∀r∈runesFrom s f pos,Letter r
 | 0,_,r,h=>by simp[runesFrom]at h
 | f+1,pos,r,h=>by
  simp only[runesFrom]at h
  by_cases hp:pos<s.size
  ·rw[if_pos hp]at h
   rcases List.mem_cons.1 h with rfl | h
   ·exact decode_valid s pos
   ·exact runesFrom_letter s f _ r h
  ·rw[if_neg hp]at h;simp at h
theorem runesOf_letter(s:ByteArray): ∀r∈runesOf s,Letter r:=runesFrom_letter s _ _
theorem wordsText_letters{ws:List Int}(h: ∀r∈ws,Letter r):wordsText ws=runesStr ws:=by
 unfold wordsText
 congr 1
 refine(List.map_congr_left λx hx=>?_).trans (List.map_id _)
 have:=(h x hx).nat
 rw[if_neg (by omega)];rfl
end Go.Proofs.YtibpklpgmgakcaaGreatDoor
