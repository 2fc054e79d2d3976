/-
  The document's reading of a text (moraineref03.Runes) is the model's. Proves nothing of any one statement.
-/
import Derived.Test.YtibpklpgmgakcaaGreatDoorValid
import Derived.Test.YtibpklpgmgakcaaGreatDoorRunes
import Derived.Test.YtibpklpgmgakcaaGreatDoorFref03
import Derived.Test.YtibpklpgmgakcaaGreatDoorFref031
set_option linter.unusedVariables false
set_option linter.unusedSimpArgs false
namespace Go.Proofs.YtibpklpgmgakcaaGreatDoor
open Go

def by8(s:ByteArray)(i:Nat):Nat:=(s.get! i).toNat
theorem by8_lt(s:ByteArray)(i:Nat):by8 s i<256:=(s.get! i).toNat_lt
def refStep(s:ByteArray)(i:Nat):Option (Nat×Nat):=
  if by8 s i<128 then some (by8 s i,1)
  else if 194<=by8 s i/\by8 s i<224 then
    if i+2<=s.size/\by8 s (i+1) / 64=2 then some (by8 s i % 32*64+by8 s (i+1) % 64,2)else none
  else if 224<=by8 s i/\by8 s i<240 then
    if i+3<=s.size/\by8 s (i+1) / 64=2/\by8 s (i+2) / 64=2/\2048<=by8 s i % 16*4096+by8 s (i+1) % 64*64+by8 s (i+2) % 64/\(by8 s i % 16*4096+by8 s (i+1) % 64*64+by8 s (i+2) % 64<55296\/57343<by8 s i % 16*4096+by8 s (i+1) % 64*64+by8 s (i+2) % 64)
    then some (by8 s i % 16*4096+by8 s (i+1) % 64*64+by8 s (i+2) % 64,3)else none
  else if 240<=by8 s i/\by8 s i<245 then
    if i+4<=s.size/\by8 s (i+1) / 64=2/\by8 s (i+2) / 64=2/\by8 s (i+3) / 64=2/\65536<=by8 s i % 8*262144+by8 s (i+1) % 64*4096+by8 s (i+2) % 64*64+by8 s (i+3) % 64/\by8 s i % 8*262144+by8 s (i+1) % 64*4096+by8 s (i+2) % 64*64+by8 s (i+3) % 64<=1114111
    then some (by8 s i % 8*262144+by8 s (i+1) % 64*4096+by8 s (i+2) % 64*64+by8 s (i+3) % 64,4)else none
  else none
theorem valid_nat(c:Nat):Utf8.valid (c:Int)=true ↔ c<55296\/(57343<c/\c<=1114111):=by
  unfold Utf8.valid
  simp only[Bool.or_eq_true,Bool.and_eq_true,decide_eq_true_eq]
  omega
theorem decode_ref(s:ByteArray)(i:Nat):Utf8.decode s i=(refStep s i).getD (65533,1):=by
  have l0:=by8_lt s i
  have l1:=by8_lt s (i+1)
  have l2:=by8_lt s (i+2)
  have l3:=by8_lt s (i+3)
  unfold Utf8.decode refStep
  simp only[Nat.add_zero]
  have g: ∀j,(s.get! j).toNat=by8 s j:=λ_=>rfl
  simp only[g]
  generalize by8 s i=a at*
  generalize by8 s (i+1)=b at*
  generalize by8 s (i+2)=c at*
  generalize by8 s (i+3)=d at*
  by_cases h1:a<128
  · rw[if_pos h1,if_pos h1];rfl
  rw[if_neg h1,if_neg h1]
  by_cases k1:i+1<s.size/\b / 64=2
  case neg=>
    have e1:(decide (i+1<s.size) && b / 64==2)=false:=by rw[Bool.eq_false_iff];intro h;simp at h;exact k1 h
    rw[e1]
    simp only[Bool.and_false,Bool.false_and,if_false,Bool.false_eq_true]
    by_cases h2:194<=a/\a<224
    · rw[if_pos h2,if_neg (λh=>k1 ⟨by omega,h.2⟩)];rfl
    rw[if_neg h2]
    by_cases h3:224<=a/\a<240
    · rw[if_pos h3,if_neg (λh=>k1 ⟨by omega,h.2.1⟩)];rfl
    rw[if_neg h3]
    by_cases h4:240<=a/\a<245
    · rw[if_pos h4,if_neg (λh=>k1 ⟨by omega,h.2.1⟩)];rfl
    rw[if_neg h4];rfl
  have e1:(decide (i+1<s.size) && b / 64==2)=true:=by simp;exact k1
  rw[e1]
  simp only[Bool.and_true]
  by_cases m2:192<=a/\a<224
  · rw[if_pos (by rw[beq_iff_eq];omega)]
    by_cases h2:194<=a/\a<224
    · rw[if_pos (by omega),if_pos h2,if_pos ⟨by omega,k1.2⟩];rfl
    · rw[if_neg (by omega),if_neg h2,if_neg (by omega),if_neg (by omega)];rfl
  rw[if_neg (by rw[beq_iff_eq];omega),if_neg (show¬(194<=a/\a<224)by omega)]
  by_cases k2:i+2<s.size/\c / 64=2
  case neg=>
    have e2:(decide (i+2<s.size) && c / 64==2)=false:=by rw[Bool.eq_false_iff];intro h;simp at h;exact k2 h
    rw[e2]
    simp only[Bool.and_false,Bool.false_and,if_false,Bool.false_eq_true]
    by_cases h3:224<=a/\a<240
    · rw[if_pos h3,if_neg (λh=>k2 ⟨by omega,h.2.2.1⟩)];rfl
    rw[if_neg h3]
    by_cases h4:240<=a/\a<245
    · rw[if_pos h4,if_neg (λh=>k2 ⟨by omega,h.2.2.1⟩)];rfl
    rw[if_neg h4];rfl
  have e2:(decide (i+2<s.size) && c / 64==2)=true:=by simp;exact k2
  rw[e2]
  simp only[Bool.and_true]
  by_cases m3:224<=a/\a<240
  · rw[if_pos (by rw[beq_iff_eq];omega),if_pos m3]
    generalize hv:a % 16*4096+b % 64*64+c % 64=v
    by_cases hc:2048<=v/\(v<55296\/57343<v)
    · rw[if_pos (by rw[Bool.and_eq_true,decide_eq_true_eq,valid_nat];omega),if_pos ⟨by omega,k1.2,k2.2,hc.1,hc.2⟩];rfl
    · rw[if_neg (by rw[Bool.and_eq_true,decide_eq_true_eq,valid_nat];omega),if_neg (λh=>hc h.2.2.2)];rfl
  rw[if_neg (by rw[beq_iff_eq];omega),if_neg m3]
  by_cases k3:i+3<s.size/\d / 64=2
  case neg=>
    have e3:(decide (i+3<s.size) && d / 64==2)=false:=by rw[Bool.eq_false_iff];intro h;simp at h;exact k3 h
    rw[e3]
    simp only[Bool.and_false,Bool.false_and,if_false,Bool.false_eq_true]
    by_cases h4:240<=a/\a<245
    · rw[if_pos h4,if_neg (λh=>k3 ⟨by omega,h.2.2.2.1⟩)];rfl
    rw[if_neg h4];rfl
  have e3:(decide (i+3<s.size) && d / 64==2)=true:=by simp;exact k3
  rw[e3]
  simp only[Bool.and_true]
  by_cases m4:240<=a/\a<248
  · rw[if_pos (by rw[beq_iff_eq];omega)]
    generalize hv:a % 8*262144+b % 64*4096+c % 64*64+d % 64=v
    by_cases h4:240<=a/\a<245
    · rw[if_pos h4]
      by_cases hc:65536<=v/\v<=1114111
      · rw[if_pos (by rw[Bool.and_eq_true,decide_eq_true_eq,valid_nat];omega),if_pos ⟨by omega,k1.2,k2.2,k3.2,hc.1,hc.2⟩];rfl
      · rw[if_neg (by rw[Bool.and_eq_true,decide_eq_true_eq,valid_nat];omega),if_neg (λh=>hc h.2.2.2.2)];rfl
    · rw[if_neg h4,if_neg (by rw[Bool.and_eq_true,decide_eq_true_eq,valid_nat];omega)];rfl
  rw[if_neg (by rw[beq_iff_eq];omega),if_neg (show¬(240<=a/\a<245)by omega)];rfl
theorem refStep_some{s:ByteArray}{i c k:Nat}(h:refStep s i=some (c,k)): ¬(c=65533/\k=1)/\1<=k:=by
  have l0:=by8_lt s i
  unfold refStep at h
  by_cases h1:by8 s i<128
  · rw[if_pos h1]at h
    simp only[Option.some.injEq,Prod.mk.injEq]at h;omega
  rw[if_neg h1]at h
  by_cases h2:194<=by8 s i/\by8 s i<224
  · rw[if_pos h2]at h
    split at h
    · simp only[Option.some.injEq,Prod.mk.injEq]at h;omega
    · cases h
  rw[if_neg h2]at h
  by_cases h3:224<=by8 s i/\by8 s i<240
  · rw[if_pos h3]at h
    split at h
    · simp only[Option.some.injEq,Prod.mk.injEq]at h;omega
    · cases h
  rw[if_neg h3]at h
  by_cases h4:240<=by8 s i/\by8 s i<245
  · rw[if_pos h4]at h
    split at h
    · simp only[Option.some.injEq,Prod.mk.injEq]at h;omega
    · cases h
  rw[if_neg h4]at h;cases h
theorem decode_drop(s:ByteArray)(i:Nat):Lib.decodeL (s.data.toList.drop i)=Utf8.decode s i:=by
  have hg: ∀k,(ByteArray.mk (s.data.toList.drop i).toArray).get! (0+k)=s.get! (i+k):=λk=>by
    rw[<-ba_getD,<-ba_getD]
    simp[List.getD_eq_getElem?_getD,List.getElem?_drop]
  have hs: ∀k,((0+k< (ByteArray.mk (s.data.toList.drop i).toArray).size)=(i+k<s.size)):=λk=>by
    have h1:(ByteArray.mk (s.data.toList.drop i).toArray).size=s.size-i:=by
      show(s.data.toList.drop i).toArray.size=_
      simp
    rw[h1];exact propext (by omega)
  unfold Lib.decodeL Utf8.decode
  simp only[hg,hs]
theorem valid_at{s:ByteArray}{i:Nat}(h:i<s.size):Lib.validD (s.data.toList.drop i)=match refStep s i with | none=>false | some (_,k)=>Lib.validD (s.data.toList.drop (i+k)):=by
  have hne:s.data.toList.drop i≠[]:=λh1=>by
    have h2:=congrArg List.length h1
    have h3:s.data.toList.length=s.size:=by simp
    rw[List.length_drop,h3]at h2
    have h4:s.size-i=0:=h2
    omega
  rw[Lib.validD_step _ hne,decode_drop,decode_ref]
  cases hr:refStep s i with
  | none=>rfl
  | some p=>
    obtain⟨c,k⟩:=p
    have:=(refStep_some hr).1
    show(if(c=65533/\k=1)then false else _)=_
    rw[if_neg this]
    show Lib.validD ((s.data.toList.drop i).drop k)=_
    rw[List.drop_drop]
theorem tab32:((List.range 256).all λn=>decide (iand .i32 (n:Int) 31=((n % 32:Nat):Int)) && (decide (iand .i32 (n:Int) 15=((n % 16:Nat):Int)) && (decide (iand .i32 (n:Int) 7=((n % 8:Nat):Int)) && ((decide (iand .u8 (n:Int) 192=128)==decide (n / 64=2)) && decide (IntKind.wrap .i32 (iand .u8 (n:Int) 63)=((n % 64:Nat):Int))))))=true:=by kernel_rfl
theorem tab32_at{n:Nat}(h:n<256):iand .i32 (n:Int) 31=((n % 32:Nat):Int)/\iand .i32 (n:Int) 15=((n % 16:Nat):Int)/\iand .i32 (n:Int) 7=((n % 8:Nat):Int)/\(iand .u8 (n:Int) 192=128 ↔ n / 64=2)/\IntKind.wrap .i32 (iand .u8 (n:Int) 63)=((n % 64:Nat):Int):=by
  have h1:=List.all_eq_true.1 tab32 n (List.mem_range.2 h)
  simp only[Bool.and_eq_true,decide_eq_true_eq,beq_iff_eq,decide_eq_decide]at h1
  exact⟨h1.1,h1.2.1,h1.2.2.1,h1.2.2.2.1,h1.2.2.2.2⟩
theorem ior_i32{x y:Int}(hx:0<=x/\x<2147483648)(hd:x % 64=0)(hy:0<=y/\y<64):ior .i32 x y=x+y:=by
  have e: ∀z:Int,0<=z->z<2147483648->(BitVec.ofInt IntKind.i32.bits z).toNat=z.toNat:=λz h0 h1=>by
    rw[BitVec.toNat_ofInt]
    show(z % ((2 ^ 32:Nat):Int)).toNat=_
    rw[Int.emod_eq_of_lt h0 (by show z<4294967296;omega)]
  unfold ior
  rw[BitVec.toNat_or,e x hx.1 hx.2,e y hy.1 (by omega)]
  have hq:x.toNat=2 ^ 6*(x.toNat / 64):=by show x.toNat=64*_;omega
  have hyn:y.toNat<2 ^ 6:=by show y.toNat<64;omega
  rw[hq,<-Nat.two_pow_add_eq_or_of_lt hyn,<-hq,wi32 (by omega)]
  omega
theorem step_i32{c:Int}{b:Nat}(hc:0<=c/\c<33554432)(hb:b<256):ior .i32 (ishl .i32 c 6) (IntKind.wrap .i32 (iand .u8 ((b:Nat):Int) 63))=c*64+((b % 64:Nat):Int):=by
  have e1:ishl .i32 c 6=c*64:=by
    unfold ishl
    show IntKind.wrap .i32 (c*64)=_
    rw[wi32 (by omega)]
  rw[e1,(tab32_at hb).2.2.2.2,ior_i32 (by omega) (by omega) (by omega)]
def acc8(s:ByteArray)(p:Nat)(c:Int):Nat->Int
  | 0=>c
  | k+1=>acc8 s p c k*64+((by8 s (p+(k+1)) % 64:Nat):Int)
def Lead(a n:Nat)(c:Int):Prop:=(a<128/\n=1/\c=a)\/((194<=a/\a<224)/\n=2/\c=((a % 32:Nat):Int))\/((224<=a/\a<240)/\n=3/\c=((a % 16:Nat):Int))\/((240<=a/\a<245)/\n=4/\c=((a % 8:Nat):Int))
theorem Lead.n{a n:Nat}{c:Int}(h:Lead a n c):1<=n/\n<=4:=by unfold Lead at h;omega
theorem acc8_bd(s:ByteArray)(p:Nat){c:Int}(hc:0<=c/\c<128):(0<=acc8 s p c 0/\acc8 s p c 0<128)/\(0<=acc8 s p c 1/\acc8 s p c 1<8192)/\(0<=acc8 s p c 2/\acc8 s p c 2<524288)/\(0<=acc8 s p c 3/\acc8 s p c 3<33554432):=by
  have h1:acc8 s p c 1=c*64+((by8 s (p+1) % 64:Nat):Int):=rfl
  have h2:acc8 s p c 2=acc8 s p c 1*64+((by8 s (p+2) % 64:Nat):Int):=rfl
  have h3:acc8 s p c 3=acc8 s p c 2*64+((by8 s (p+3) % 64:Nat):Int):=rfl
  have h0:acc8 s p c 0=c:=rfl
  omega
theorem ref_bad{s:ByteArray}{p n:Nat}{c:Int}(L:Lead (by8 s p) n c)(h:s.size<p+n\/(∃j,1<=j/\j<n/\by8 s (p+j) / 64≠2)\/(n=3/\acc8 s p c (n-1)<2048)\/(n=4/\acc8 s p c (n-1)<65536)\/ ¬(acc8 s p c (n-1)<55296\/(57343<acc8 s p c (n-1)/\acc8 s p c (n-1)<=1114111)))(hp:p<s.size):refStep s p=none:=by
  have l1:=by8_lt s (p+1)
  unfold refStep
  rcases L with⟨h1,rfl,rfl⟩ | ⟨h1,rfl,rfl⟩ | ⟨h1,rfl,rfl⟩ | ⟨h1,rfl,rfl⟩
  · exfalso
    have e:acc8 s p ((by8 s p:Nat):Int) (1-1)=by8 s p:=rfl
    rw[e]at h
    rcases h with h | ⟨j,h2,h3,_⟩ | h | h | h<;>omega
  · rw[if_neg (by omega),if_pos h1,if_neg]
    have e:acc8 s p ((by8 s p % 32:Nat):Int) (2-1)=((by8 s p % 32:Nat):Int)*64+((by8 s (p+1) % 64:Nat):Int):=rfl
    rw[e]at h
    rintro⟨q1,q2⟩
    rcases h with h | ⟨j,h2,h3,h4⟩ | h | h | h
    · omega
    · obtain rfl:j=1:=by omega
      exact h4 q2
    all_goals omega
  · rw[if_neg (by omega),if_neg (by omega),if_pos h1,if_neg]
    have e:acc8 s p ((by8 s p % 16:Nat):Int) (3-1)=(((by8 s p % 16:Nat):Int)*64+((by8 s (p+1) % 64:Nat):Int))*64+((by8 s (p+2) % 64:Nat):Int):=rfl
    rw[e]at h
    rintro⟨q1,q2,q3,q4,q5⟩
    rcases h with h | ⟨j,h2,h3,h4⟩ | h | h | h
    · omega
    · have:j=1\/j=2:=by omega
      rcases this with rfl | rfl
      · exact h4 q2
      · exact h4 q3
    all_goals omega
  · rw[if_neg (by omega),if_neg (by omega),if_neg (by omega),if_pos h1,if_neg]
    have e:acc8 s p ((by8 s p % 8:Nat):Int) (4-1)=((((by8 s p % 8:Nat):Int)*64+((by8 s (p+1) % 64:Nat):Int))*64+((by8 s (p+2) % 64:Nat):Int))*64+((by8 s (p+3) % 64:Nat):Int):=rfl
    rw[e]at h
    rintro⟨q1,q2,q3,q4,q5,q6⟩
    rcases h with h | ⟨j,h2,h3,h4⟩ | h | h | h
    · omega
    · have:j=1\/j=2\/j=3:=by omega
      rcases this with rfl | rfl | rfl
      · exact h4 q2
      · exact h4 q3
      · exact h4 q4
    all_goals omega
theorem ref_good{s:ByteArray}{p n:Nat}{c:Int}(L:Lead (by8 s p) n c)(h1:p+n<=s.size)(h2: ∀j,1<=j->j<n->by8 s (p+j) / 64=2)(h3:n=3->2048<=acc8 s p c (n-1))(h4:n=4->65536<=acc8 s p c (n-1))(h5:acc8 s p c (n-1)<55296\/(57343<acc8 s p c (n-1)/\acc8 s p c (n-1)<=1114111)):
    refStep s p=some ((acc8 s p c (n-1)).toNat,n):=by
  unfold refStep
  rcases L with⟨q,rfl,rfl⟩ | ⟨q,rfl,rfl⟩ | ⟨q,rfl,rfl⟩ | ⟨q,rfl,rfl⟩
  · rw[if_pos q]
    refine congrArg (λz:Nat=>some (z,1)) ?_
    have e:acc8 s p ((by8 s p:Nat):Int) (1-1)=by8 s p:=rfl
    omega
  · have e:acc8 s p ((by8 s p % 32:Nat):Int) (2-1)=((by8 s p % 32:Nat):Int)*64+((by8 s (p+1) % 64:Nat):Int):=rfl
    rw[if_neg (by omega),if_pos q,if_pos ⟨h1,h2 1 (by omega) (by omega)⟩]
    refine congrArg (λz:Nat=>some (z,2)) ?_
    omega
  · have e:acc8 s p ((by8 s p % 16:Nat):Int) (3-1)=(((by8 s p % 16:Nat):Int)*64+((by8 s (p+1) % 64:Nat):Int))*64+((by8 s (p+2) % 64:Nat):Int):=rfl
    have h3':=h3 rfl
    generalize acc8 s p ((by8 s p % 16:Nat):Int) (3-1)=Y at*
    have g1:=h2 1 (by omega) (by omega)
    have g2:=h2 2 (by omega) (by omega)
    rw[if_neg (by omega),if_neg (by omega),if_pos q,if_pos ⟨h1,g1,g2,by omega,by omega⟩]
    refine congrArg (λz:Nat=>some (z,3)) ?_
    omega
  · have e:acc8 s p ((by8 s p % 8:Nat):Int) (4-1)=((((by8 s p % 8:Nat):Int)*64+((by8 s (p+1) % 64:Nat):Int))*64+((by8 s (p+2) % 64:Nat):Int))*64+((by8 s (p+3) % 64:Nat):Int):=rfl
    have h4':=h4 rfl
    generalize acc8 s p ((by8 s p % 8:Nat):Int) (4-1)=Y at*
    have g1:=h2 1 (by omega) (by omega)
    have g2:=h2 2 (by omega) (by omega)
    have g3:=h2 3 (by omega) (by omega)
    rw[if_neg (by omega),if_neg (by omega),if_neg (by omega),if_pos q,if_pos ⟨h1,g1,g2,g3,by omega,by omega⟩]
    refine congrArg (λz:Nat=>some (z,4)) ?_
    omega
def i32v(l:List Int):List Value:=l.map (Value.int .i32)
def charB(c:Int):Bool:=((decide (c>=0)) && (decide (c<=1114111))) && ((decide (c<55296)) || (decide (c>57343)))
theorem ref_Char_c{H:Array Obj}{c:Int}:moraineref03_Char.C c H (λv H'=>v=.bool (charB c)/\H=H'):=by
  refine HC.via λR hR=>moraineref03_Char.link ?_
  unfold moraineref03_Char.pt
  exact hR _ _ ⟨rfl,rfl⟩
theorem charB_true{c:Int}(h:0<=c):charB c=true ↔ (c<55296\/(57343<c/\c<=1114111)):=by
  unfold charB
  simp only[Bool.and_eq_true,Bool.or_eq_true,decide_eq_true_eq]
  omega
set_option maxRecDepth 100000 in
theorem ref_Runes_c{H:Array Obj}{s:ByteArray}(hs:s.size<=1000000):moraineref03_Runes.C s H (λv H'=> ∃(B:Option Addr) (n c:Nat),v=.tuple #[.slice B n c,.bool (Lib.validD s.data.toList)]/\(Lib.validD s.data.toList=true->n=(runesOf s).length/\Own H' 21 1 B n c (i32v (runesOf s))/\ ∀j∈blks B,H.size<=j)/\Ext H H'):=by
  refine HC.via λR hR=>moraineref03_Runes.link ?_
  unfold moraineref03_Runes.pt
  refine⟨λB n c i A=> ∃(p:Nat) (rs:List Int),i=p/\p<=s.size/\n=rs.length/\n<=p/\runesOf s=rs++runesAt s p/\Own A 21 1 B n c (i32v rs)/\(∀j∈blks B,H.size<=j)/\Lib.validD (s.data.toList.drop p)=Lib.validD s.data.toList/\Ext H A,λ_ _ _ i _=>(s.size-i).toNat,
    ⟨0,[],rfl,by omega,rfl,by simp,rfl,own_nil,by simp,rfl,Ext.refl _⟩,?_⟩
  rintro B n c i A ⟨p,rs,rfl,hp,rfl,hnp,hr,how,hy,hv,eA⟩
  by_cases hlt:(p:Int)< (s.size:Int)
  · rw[if_pos hlt]
    have hlt':p<s.size:=by omega
    have no: ∀A',Ext H A'->refStep s p=none->R (.tuple #[.slice none 0 0,.bool false]) A':=λA' e hn=>by
      have h1:=valid_at hlt'
      rw[hn,hv]at h1
      exact hR _ _ ⟨none,0,0,by rw[h1],(λh=>by rw[h1]at h;cases h),e⟩
    have l0:=by8_lt s p
    have w0:IntKind.wrap .i32 (((s.get! p).toNat:Nat):Int)=((by8 s p:Nat):Int):=by
      show IntKind.wrap .i32 ((by8 s p:Nat):Int)=_
      rw[wi32 (by omega)]
    refine⟨s.get! p,⟨by omega,by rw[Int.toNat_natCast];exact ba_get s hlt'⟩,λnv c2 A'=> ∃m:Nat,nv=m/\Lead (by8 s p) m c2/\A=A',?_,?_⟩
    · rw[w0]
      obtain⟨t1,t2,t3,_⟩:=tab32_at l0
      by_cases h1:((by8 s p:Nat):Int)<128
      · rw[if_pos h1];exact⟨1,rfl,.inl ⟨by omega,rfl,rfl⟩,rfl⟩
      rw[if_neg h1]
      by_cases h2:194<=by8 s p/\by8 s p<224
      · rw[if_pos (by simp;omega),t1];exact⟨2,rfl,.inr (.inl ⟨h2,rfl,rfl⟩),rfl⟩
      rw[if_neg (by simp;omega)]
      by_cases h3:224<=by8 s p/\by8 s p<240
      · rw[if_pos (by simp;omega),t2];exact⟨3,rfl,.inr (.inr (.inl ⟨h3,rfl,rfl⟩)),rfl⟩
      rw[if_neg (by simp;omega)]
      by_cases h4:240<=by8 s p/\by8 s p<245
      · rw[if_pos (by simp;omega),t3];exact⟨4,rfl,.inr (.inr (.inr ⟨h4,rfl,rfl⟩)),rfl⟩
      rw[if_neg (by simp;omega)]
      refine no A eA ?_
      unfold refStep
      rw[if_neg (by omega),if_neg h2,if_neg h3,if_neg h4]
    rintro _ c2 A' ⟨m,rfl,hL,hA'⟩
    subst hA'
    have hm:=hL.n
    have hc2:0<=c2/\c2<128:=by unfold Lead at hL;omega
    have hbd:=acc8_bd s p hc2
    rw[w64 (n:=(p:Int)+(m:Int)) (by omega)]
    by_cases hover:(p:Int)+(m:Int)>(s.size:Int)
    · rw[if_pos hover]
      exact no A eA (ref_bad hL (.inl (by omega)) hlt')
    rw[if_neg hover]
    refine⟨λc3 k A'=> ∃j:Nat,k=((j+1:Nat):Int)/\j+1<=m/\c3=acc8 s p c2 j/\(∀q,1<=q->q<=j->by8 s (p+q) / 64=2)/\A=A',λ_ k _=>(m-k).toNat,⟨0,rfl,by omega,rfl,λq h1 h2=>by omega,rfl⟩,?_⟩
    rintro c3 _ A' ⟨j,rfl,hj,rfl,hq,hA'⟩
    subst hA'
    by_cases hk:((j+1:Nat):Int)< (m:Int)
    · rw[if_pos hk,w64 (n:=(p:Int)+((j+1:Nat):Int)) (by omega)]
      have hlj:p+(j+1)<s.size:=by omega
      have lj:=by8_lt s (p+(j+1))
      obtain⟨_,_,_,t4,_⟩:=tab32_at lj
      have gj:s[Int.toNat ((p:Int)+((j+1:Nat):Int))]?=some (s.get! (p+(j+1))):=by
        rw[show Int.toNat ((p:Int)+((j+1:Nat):Int))=p+(j+1)by omega];exact ba_get s hlj
      refine⟨s.get! (p+(j+1)),⟨by omega,gj⟩,?_⟩
      by_cases hb:by8 s (p+(j+1)) / 64=2
      · rw[if_pos (show iand .u8 (((s.get! (p+(j+1))).toNat:Nat):Int) 192=128 from t4.2 hb)]
        refine⟨s.get! (p+(j+1)),⟨by omega,gj⟩,?_⟩
        have e:ior .i32 (ishl .i32 (acc8 s p c2 j) 6) (IntKind.wrap .i32 (iand .u8 (((s.get! (p+(j+1))).toNat:Nat):Int) 63))=acc8 s p c2 (j+1):=by
          have hjb:0<=acc8 s p c2 j/\acc8 s p c2 j<33554432:=by
            have:j=0\/j=1\/j=2:=by omega
            rcases this with rfl | rfl | rfl<;>omega
          exact step_i32 hjb lj
        rw[e]
        refine⟨⟨j+1,by rw[w64 (by omega)];omega,by omega,rfl,λq h1 h2=>?_,rfl⟩,by show((m:Int)-IntKind.wrap .i64 (((j+1:Nat):Int)+1)).toNat< ((m:Int)-((j+1:Nat):Int)).toNat;rw[w64 (by omega)];omega⟩
        rcases Nat.lt_or_ge j q with h | h
        · obtain rfl:q=j+1:=by omega
          exact hb
        · exact hq q h1 h
      · rw[if_neg (show¬iand .u8 (((s.get! (p+(j+1))).toNat:Nat):Int) 192=128 from λh=>hb (t4.1 h))]
        exact no A eA (ref_bad hL (.inr (.inl ⟨j+1,by omega,by omega,hb⟩)) hlt')
    rw[if_neg hk]
    obtain rfl:j=m-1:=by omega
    have h0:0<=acc8 s p c2 (m-1)/\acc8 s p c2 (m-1)<33554432:=by
      have:m=1\/m=2\/m=3\/m=4:=by omega
      rcases this with rfl | rfl | rfl | rfl
      · exact⟨hbd.1.1,by have:acc8 s p c2 (1-1)=acc8 s p c2 0:=rfl;omega⟩
      · exact⟨hbd.2.1.1,by have:acc8 s p c2 (2-1)=acc8 s p c2 1:=rfl;omega⟩
      · exact⟨hbd.2.2.1.1,by have:acc8 s p c2 (3-1)=acc8 s p c2 2:=rfl;omega⟩
      · exact⟨hbd.2.2.2.1,hbd.2.2.2.2⟩
    have bad:(m=3/\acc8 s p c2 (m-1)<2048)\/(m=4/\acc8 s p c2 (m-1)<65536)\/ ¬(acc8 s p c2 (m-1)<55296\/(57343<acc8 s p c2 (m-1)/\acc8 s p c2 (m-1)<=1114111))->R (.tuple #[.slice none 0 0,.bool false]) A:=λh=>no A eA (ref_bad hL (.inr (.inr h)) hlt')
    have good:(m=3->2048<=acc8 s p c2 (m-1))->(m=4->65536<=acc8 s p c2 (m-1))->(acc8 s p c2 (m-1)<55296\/(57343<acc8 s p c2 (m-1)/\acc8 s p c2 (m-1)<=1114111))->
        ∀(b:Nat) (H5:Array Obj),b=A.size->H5=A.push (.cells #[.int .i32 (acc8 s p c2 (m-1))] 21)->
        appendK 1 21 4 [.int .i32 0] B rs.length c (some (Addr.mk b 0 none)) 1 H5 (λap apC H6=>
         ((∃(p':Nat) (rs':List Int),(p:Int)+(m:Int)=p'/\p'<=s.size/\rs.length+1=rs'.length/\rs.length+1<=p'/\runesOf s=rs'++runesAt s p'/\Own H6 21 1 ap (rs.length+1) apC (i32v rs')/\(∀j∈blks ap,H.size<=j)/\Lib.validD (s.data.toList.drop p')=Lib.validD s.data.toList/\Ext H H6)
          /\((s.size:Int)-((p:Int)+(m:Int))).toNat< ((s.size:Int)-(p:Int)).toNat)):=λq3 q4 q5 b H5 hb hH5=>by
      have hst:=ref_good hL (by omega) (λj h1 h2=>hq j h1 (by omega)) q3 q4 q5
      have e5:Ext A H5:=Ext.push' hH5
      refine own_append (ys:=[.int .i32 (acc8 s p c2 (m-1))]) (how.ext e5) (rowAt_blk (push_get hb hH5) _ 0 0 (λj hj=>by simp)) (by simp) rfl rfl (by omega) ?_
      intro p' c' H6 how6 f6 hnew
      have hdec:Utf8.decode s p=((acc8 s p c2 (m-1)).toNat,m):=by rw[decode_ref,hst];rfl
      have hra:=runesAt_step hlt'
      rw[hdec]at hra
      have hva:=valid_at hlt'
      rw[hst]at hva
      refine⟨⟨p+m,rs++[acc8 s p c2 (m-1)],by omega,by omega,by simp,by omega,?_,by rw[i32v,List.map_append];exact how6,λj hj=>?_,?_,(eA.trans e5).fr_trans f6 (λj hj=>hy j hj)⟩,by omega⟩
      · rw[hr,hra,List.append_assoc]
        show _=rs++([acc8 s p c2 (m-1)]++runesAt s (p+m))
        rw[show(((acc8 s p c2 (m-1)).toNat:Nat):Int)=acc8 s p c2 (m-1)by omega];rfl
      · rcases hnew j hj with h | h
        · exact hy j h
        · have:=eA.size;have:=e5.size;omega
      · rw[<-hv];exact hva.symm
    have hch:=charB_true h0.1
    by_cases m3:(m:Int)=3
    · rw[if_pos m3]
      by_cases hsm:acc8 s p c2 (m-1)<2048
      · rw[if_pos hsm];exact bad (.inl ⟨by omega,hsm⟩)
      rw[if_neg hsm,if_neg (by omega)]
      refine HC.mono ref_Char_c ?_
      rintro _ A' ⟨rfl,hA'⟩
      subst hA'
      refine⟨_,rfl,?_⟩
      by_cases hcb:charB (acc8 s p c2 (m-1))=true
      · rw[if_pos hcb];exact good (λ_=>by omega) (λ_=>by omega) (hch.1 hcb)
      · rw[if_neg hcb];exact bad (.inr (.inr (λh=>hcb (hch.2 h))))
    rw[if_neg m3]
    by_cases m4:(m:Int)=4
    · rw[if_pos m4]
      by_cases hsm:acc8 s p c2 (m-1)<65536
      · rw[if_pos hsm];exact bad (.inr (.inl ⟨by omega,hsm⟩))
      rw[if_neg hsm]
      refine HC.mono ref_Char_c ?_
      rintro _ A' ⟨rfl,hA'⟩
      subst hA'
      refine⟨_,rfl,?_⟩
      by_cases hcb:charB (acc8 s p c2 (m-1))=true
      · rw[if_pos hcb];exact good (λ_=>by omega) (λ_=>by omega) (hch.1 hcb)
      · rw[if_neg hcb];exact bad (.inr (.inr (λh=>hcb (hch.2 h))))
    rw[if_neg m4]
    refine HC.mono ref_Char_c ?_
    rintro _ A' ⟨rfl,hA'⟩
    subst hA'
    refine⟨_,rfl,?_⟩
    by_cases hcb:charB (acc8 s p c2 (m-1))=true
    · rw[if_pos hcb];exact good (λ_=>by omega) (λ_=>by omega) (hch.1 hcb)
    · rw[if_neg hcb];exact bad (.inr (.inr (λh=>hcb (hch.2 h))))
  · rw[if_neg hlt]
    have hpe:p=s.size:=by omega
    subst hpe
    have hvt:Lib.validD s.data.toList=true:=by
      rw[<-hv,List.drop_eq_nil_of_le (by simp)];rfl
    rw[runesAt_end (by omega),List.append_nil]at hr
    subst hr
    exact hR _ _ ⟨B,_,c,by rw[hvt],λ_=>⟨rfl,how,hy⟩,eA⟩
end Go.Proofs.YtibpklpgmgakcaaGreatDoor
