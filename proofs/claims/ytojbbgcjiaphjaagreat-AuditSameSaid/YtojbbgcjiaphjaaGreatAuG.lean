/-
  What is wrong with a word (audit); a word put into a knot. Proves nothing of any one statement.
-/
import Derived.Test.YtojbbgcjiaphjaaGreatAuH
set_option linter.unusedVariables false
set_option linter.unusedSimpArgs false
namespace Go.Proofs.YtojbbgcjiaphjaaGreat
open Go

def isN(ks:List (Int×Value))(w:Int):Int:=match(mget ks w).getD (.int .i64 0)with | .int .i64 n=>n | _=>0
def jK(ks:List (Int×Value))(w:Int):Int:=
  if w % 8=5\/w % 8=6 then 1 else if(w % 8=1\/w % 8=2\/w % 8=3)/\mayW w=true/\isN ks w=0 then 18 else if mayW w=true then 0 else 1
set_option maxRecDepth 100000 in
theorem qk{A:zV}{mr:Nat}{es:Array MapEntry}{cl:Nat}{ks:List (Int×Value)}{w:Int}(hm:A[mr]?=some (.map es cl))(hE:Ents (bT .u64) es.toList ks)(hv: ∀w,∃n:Int,(mget ks w).getD (.int .i64 0)=.int .i64 n)(hw:aP w):
    cY.C w (some mr) A (λv A'=>v=.int .i64 (jK ks w)/\Ext A A'):=by
  refine HC.via λR hR=>cY.link ?_
  unfold cY.pt
  obtain⟨n,hn⟩:=hv w
  have hisN:isN ks w=n:=by unfold isN;rw[hn]
  refine HC.mono (fK hw) ?_
  rintro _ H1 ⟨rfl,e1⟩
  refine⟨_,rfl,?_⟩
  by_cases h5:w % 8=5
  · rw[if_pos h5];exact hR _ _ ⟨by unfold jK;rw[if_pos (.inl h5)],e1⟩
  rw[if_neg h5]
  by_cases h6:w % 8=6
  · rw[if_pos h6];exact hR _ _ ⟨by unfold jK;rw[if_pos (.inr h6)],e1⟩
  rw[if_neg h6]
  have hno: ¬(w % 8=5\/w % 8=6):=by omega
  have body:(w % 8=1\/w % 8=2\/w % 8=3)->cJ.C w H1 (λv_2 H2=> ∃x_2:Bool,v_2=.bool x_2/\
    if x_2=true then(
     ∃mr_1:Nat,(some mr:Option Nat)=some mr_1/\
     ∃(es:Array MapEntry) (cl:Nat) (ks:List (Int×Value)),H2[mr_1]?=some (.map es cl)/\Ents (bT .u64) es.toList ks/\
     ∃x_3:Int,(mget ks w).getD (.int .i64 0)=.int .i64 x_3/\
     if x_3=0 then(
      R (.int .i64 18) H2)
     else
     cJ.C w H2 (λv_3 H3=> ∃x_4:Bool,v_3=.bool x_4/\
      if x_4=true then(
       R (.int .i64 0) H3)
      else
      R (.int .i64 1) H3))
    else
    cJ.C w H2 (λv_4 H4=> ∃x_5:Bool,v_4=.bool x_5/\
     if x_5=true then(
      R (.int .i64 0) H4)
     else
     R (.int .i64 1) H4)):=λht=>by
    refine HC.mono (iX hw) ?_
    rintro _ H2 ⟨rfl,e2⟩
    refine⟨_,rfl,?_⟩
    have last: ∀{H2:zV},Ext A H2-> ¬(mayW w=true/\isN ks w=0)->cJ.C w H2 (λv_3 H3=> ∃x_4:Bool,v_3=.bool x_4/\
      if x_4=true then(
       R (.int .i64 0) H3)
      else
      R (.int .i64 1) H3):=λe hq=>by
      refine HC.mono (iX hw) ?_
      rintro _ H3 ⟨rfl,e3⟩
      refine⟨_,rfl,?_⟩
      by_cases hmay:mayW w=true
      · rw[if_pos hmay];exact hR _ _ ⟨by unfold jK;rw[if_neg hno,if_neg (λq=>hq q.2),if_pos hmay],e.trans e3⟩
      · rw[if_neg hmay];exact hR _ _ ⟨by unfold jK;rw[if_neg hno,if_neg (λq=>hq q.2),if_neg hmay],e.trans e3⟩
    by_cases hmay:mayW w=true
    · rw[if_pos hmay]
      refine⟨mr,rfl,es,cl,ks,(e1.trans e2).get hm,hE,n,hn,?_⟩
      by_cases hn0:n=0
      · rw[if_pos hn0];exact hR _ _ ⟨by unfold jK;rw[if_neg hno,if_pos ⟨ht,hmay,by omega⟩],e1.trans e2⟩
      · rw[if_neg hn0];exact last (e1.trans e2) (λq=>hn0 (by omega))
    · rw[if_neg hmay];exact last (e1.trans e2) (λq=>hmay q.1)
  by_cases h1:w % 8=1
  · rw[if_pos h1];exact body (.inl h1)
  rw[if_neg h1]
  by_cases h2:w % 8=2
  · rw[if_pos h2];exact body (.inr (.inl h2))
  rw[if_neg h2]
  by_cases h3:w % 8=3
  · rw[if_pos h3];exact body (.inr (.inr h3))
  rw[if_neg h3]
  refine HC.mono (iX hw) ?_
  rintro _ H3 ⟨rfl,e3⟩
  refine⟨_,rfl,?_⟩
  by_cases hmay:mayW w=true
  · rw[if_pos hmay];exact hR _ _ ⟨by unfold jK;rw[if_neg hno,if_neg (by omega),if_pos hmay],e1.trans e3⟩
  · rw[if_neg hmay];exact hR _ _ ⟨by unfold jK;rw[if_neg hno,if_neg (by omega),if_neg hmay],e1.trans e3⟩
