/-
  syms: names, finding a name. Proves nothing of any one statement.
-/
import Derived.Test.YtibpklpgmgakcaaGreatDoorListsM
import Derived.Test.YtibpklpgmgakcaaGreatDoorLiveT
import Derived.Test.YtibpklpgmgakcaaGreatDoorRunes
import Derived.Test.YtibpklpgmgakcaaGreatDoorLx
import Derived.Test.YtibpklpgmgakcaaGreatDoorFunicodeutf8
set_option linter.unusedVariables false
set_option linter.unusedSimpArgs false
namespace Go.Proofs.YtibpklpgmgakcaaGreatDoor
open Go

def nameR(m:Mem)(w:Int):ByteArray×Int:=
  if m.fieldE w 4 0=0 then(if m.isObj (m.get (w / 8+1+0))/\m.typ (m.get (w / 8+1+0))=2 then(wordsText (m.objWords (m.get (w / 8+1+0))),0)else(⟨#[]⟩,3))else(⟨#[]⟩,3)
theorem syms_Name_c{H:Array Obj}{hvA:Addr}{o:Option (Blk×Hp)}{w:Int}(V:View H (some hvA) o)(hw:IsWord w):
    syms_Name.C (some hvA) w H (λv H'=>v=.tuple #[.string (nameR (mof o) w).1,.int .i64 (nameR (mof o) w).2]/\Ext H H'):=by
  refine HC.via λR hR=>syms_Name.link ?_
  unfold syms_Name.pt
  rw[onPtr_some]
  refine HC.mono (obj_Get_c V hw ⟨by decide,by decide⟩) ?_
  rintro _ H1 ⟨rfl,e1⟩
  refine⟨_,_,rfl,?_⟩
  by_cases h:(mof o).fieldE w 4 0=0
  · rw[if_pos h,if_pos h]
    refine HC.mono (obj_Text_c (V.ext e1) (V.word _)) ?_
    rintro v H2 ⟨hv,e2⟩
    by_cases h2:(mof o).isObj ((mof o).get (w / 8+1+0))/\(mof o).typ ((mof o).get (w / 8+1+0))=2
    · rw[if_pos h2]at hv;subst hv
      exact⟨_,_,rfl,hR _ _ ⟨by unfold nameR;rw[if_pos h,if_pos h2],e1.trans e2⟩⟩
    · rw[if_neg h2]at hv;subst hv
      exact⟨_,_,rfl,hR _ _ ⟨by unfold nameR;rw[if_pos h,if_neg h2],e1.trans e2⟩⟩
  · rw[if_neg h]
    exact hR _ _ ⟨by unfold nameR;rw[if_neg h],e1⟩
theorem syms_named_c{H:Array Obj}{hv:Option Addr}:
    syms_named.C hv H (λv H'=> ∃p:Nat,v=.func (.func 111) #[] #[.pointer (some ⟨p,0,none⟩)]/\H'[p]?=some (.cells #[.pointer hv] 24 (0,0))/\H.size<=p/\Ext H H'):=by
  refine HC.via λR hR=>syms_named.link ?_
  unfold syms_named.pt
  intro b H1 hb hH1
  exact hR _ _ ⟨b,rfl,push_get hb hH1,by omega,Ext.push' hH1⟩
theorem named_each{H:Array Obj}{yield:Value}{p:Nat}{hvA:Addr}{o:Option (Blk×Hp)}{sB:Option Addr}{sN sC:Nat}{syl:List Int}{R0:Array Obj->Prop}(Inv:Nat->Array Obj->Prop)
    (hsy:hat H (hvA.add 1)=some (.slice sB sN sC)) (hn:sN=syl.length) (hl:syl.length<=1000000) (hw: ∀w∈syl,IsWord w) (h0:Inv 0 H)
    (hkeep: ∀k A,Inv k A->View A (some hvA) o/\SrcAt A sB (wvs syl)/\A[p]?=some (.cells #[.pointer (some hvA)] 24 (0,0)))
    (hext: ∀k A A',Inv k A->Ext A A'->Inv k A')
    (hskip: ∀k (h:k<syl.length) A,Inv k A->(nameR (mof o) syl[k]).2≠0->Inv (k+1) A)
    (hstep: ∀k (h:k<syl.length) A,Inv k A->(nameR (mof o) syl[k]).2=0->FC Tryz.prog yield #[.int .u64 syl[k],.string (nameR (mof o) syl[k]).1] A (λv A'=> ∃x:Bool,v=.bool x/\(x=true->Inv (k+1) A')/\(x=false->R0 A')))
    (hend: ∀A,Inv syl.length A->R0 A):
    syms_named_1.C yield (some ⟨p,0,none⟩) H (λv A=>v=.tuple #[]/\R0 A):=by
  subst hn
  refine HC.via λR hR=>syms_named_1.link ?_
  unfold syms_named_1.pt
  obtain⟨_,_,hp0⟩:=hkeep 0 H h0
  refine⟨_,rfl,some hvA,by rw[hat_blk hp0];rfl,hvA,rfl,sB,syl.length,sC,hsy,λi A=> ∃k:Nat,i=k/\k<=syl.length/\Inv k A,λi _=>(syl.length-i).toNat,⟨0,rfl,by omega,h0⟩,?_⟩
  rintro i A ⟨k,rfl,hk,hI⟩
  by_cases hlt:(k:Int)< (syl.length:Int)
  · rw[if_pos hlt]
    have hlt':k<syl.length:=by omega
    obtain⟨V,hsrc,hp⟩:=hkeep k A hI
    obtain⟨a,rfl,hat'⟩: ∃a,sB=some a/\hat A (a.add (Int.toNat (k:Int)*1))=some (.int .u64 syl[k]):=by
      cases sB with
      | none => have h0 : wvs syl = [] := hsrc
                have:=congrArg List.length h0;simp[wvs]at this;subst this;simp at hlt'
      | some a=>
        refine⟨a,rfl,?_⟩
        rw[show Int.toNat (k:Int)*1=k by omega]
        have:=rowAt_hat hsrc k (.int .u64 syl[k]) (by simp[wvs,hlt'])
        rwa [Nat.zero_add]at this
    have hmeas:((syl.length:Int)-IntKind.wrap .i64 ((k:Int)+1)).toNat< ((syl.length:Int)-k).toNat:=by rw[w64 (by omega)];omega
    have hwk:IntKind.wrap .i64 ((k:Int)+1)=((k+1:Nat):Int):=by rw[w64 (by omega)];omega
    refine⟨a,rfl,⟨by omega,hlt⟩,syl[k],hat',some hvA,by rw[hat_blk hp];rfl,HC.mono (syms_Name_c V (hw _ (List.getElem_mem hlt'))) ?_⟩
    rintro _ H2 ⟨rfl,e2⟩
    refine⟨_,_,rfl,?_⟩
    have hI2:=hext k A H2 hI e2
    by_cases hok:(nameR (mof o) syl[k]).2=0
    · rw[if_pos hok]
      refine(hstep k hlt' H2 hI2 hok).mono ?_
      rintro v A' ⟨x,rfl,ht,hf⟩
      refine⟨x,rfl,?_⟩
      by_cases hx:x=true
      · rw[if_pos hx]
        exact⟨⟨k+1,hwk,by omega,ht hx⟩,hmeas⟩
      · rw[if_neg hx]
        exact hR _ _ ⟨rfl,hf (by simpa using hx)⟩
    · rw[if_neg hok]
      exact⟨⟨k+1,hwk,by omega,hskip k hlt' H2 hI2 hok⟩,hmeas⟩
  · rw[if_neg hlt]
    obtain rfl:k=syl.length:=by omega
    exact hR _ _ ⟨rfl,hend A hI⟩
def symIs(m:Mem)(name:ByteArray)(w:Int):Bool:=decide ((nameR m w).2=0) && decide ((nameR m w).1.toList=name.toList)
def findR(m:Mem)(syl:List Int)(name:ByteArray):Option Int:=syl.find? (symIs m name)
theorem findR_snoc{m:Mem}{syl:List Int}{name:ByteArray}{w:Int}(h:findR m syl name=none):findR m (syl++[w]) name=if symIs m name w=true then some w else none:=by
  unfold findR at*
  rw[List.find?_append,h,Option.none_or]
  by_cases hw:symIs m name w=true
  · rw[if_pos hw];simp[hw]
  · rw[if_neg hw];simp[hw]
theorem findR_take{m:Mem}{syl:List Int}{name:ByteArray}{w:Int}{k:Nat}(h:findR m (syl.take k) name=some w):findR m syl name=some w:=by
  unfold findR at*
  rw[<-List.take_append_drop k syl,List.find?_append,h];rfl
theorem syms_Find_c{H:Array Obj}{hvA:Addr}{o:Option (Blk×Hp)}{name:ByteArray}{sB:Option Addr}{sN sC:Nat}{syl:List Int}(V:View H (some hvA) o)
    (hsy:hat H (hvA.add 1)=some (.slice sB sN sC)) (hn:sN=syl.length) (hsrc:SrcAt H sB (wvs syl)) (hl:syl.length<=1000000) (hw: ∀w∈syl,IsWord w):
    syms_Find.C (some hvA) name H (λv H'=>v=.tuple #[.int .u64 ((findR (mof o) syl name).getD 0),.bool (findR (mof o) syl name).isSome]/\Ext H H'):=by
  refine HC.via λR hR=>syms_Find.link ?_
  unfold syms_Find.pt
  intro b H1 hb hH1 b2 H2 hb2 hH2 b3 H3 hb3 hH3
  have e1:Ext H H1:=Ext.push' hH1
  have e2:Ext H1 H2:=Ext.push' hH2
  have e3:Ext H2 H3:=Ext.push' hH3
  have g:=(e2.trans e3).get (push_get hb hH1)
  have g2:=e3.get (push_get hb2 hH2)
  have g3:=push_get hb3 hH3
  have s1:H1.size=H.size+1:=by rw[hH1];simp
  have s2:H2.size=H1.size+1:=by rw[hH2];simp
  have s3:H3.size=H2.size+1:=by rw[hH3];simp
  rw[onPtr_some]
  refine HC.mono syms_named_c ?_
  rintro v H6 ⟨p,rfl,gp,hp,e6⟩
  refine⟨rfl,?_⟩
  intro rc lp H7 hlp hH7 vY hY
  have s6:=e6.size
  have hp6:=lt_size gp
  have e67:Ext (H6.push (.deferred (some []))) H7:=Ext.push' hH7
  have hl7:H7[lp]?=some (rc .ready none):=push_get (by simp;omega) hH7
  have hd7:H7[H6.size]?=some (.deferred (some [])):=e67.get (push_get rfl rfl)
  have e7:Ext H6 H7:=(Ext.push H6 _).trans e67
  have s7:H7.size=H6.size+2:=by rw[hH7];simp
  have e03:Ext H H3:=(e1.trans e2).trans e3
  have e07:Ext H H7:=(e03.trans e6).trans e7
  refine FE.of2 (enters_of Tryz.func111 (by kernel_rfl) rfl) rfl (HC.mono (named_each (p:=p) (λk A=>findR (mof o) (syl.take k) name=none/\Ext H A/\H7.size<=A.size/\
    Bx [(lp,rc .ready none),(H6.size,.deferred (some [])),(b,.cells #[.string name] 9 (0,0)),(b2,.cells #[.int .u64 0] 54 (0,0)),(b3,.cells #[.bool false] 4 (0,0)),(p,.cells #[.pointer (some hvA)] 24 (0,0))] A)
    (o:=o) (e07.hat hsy) hn hl hw ?_ ?_ ?_ ?_ ?_ ?_) (λv A h=>h.2))
  · refine⟨rfl,e07,Nat.le_refl _,?_⟩
    exact .cons hl7 (.cons hd7 (.cons ((e6.trans e7).get g) (.cons ((e6.trans e7).get g2) (.cons ((e6.trans e7).get g3) (.cons (e7.get gp) .nil)))))
  · rintro k A ⟨_,eA,sA,bx⟩
    exact⟨V.ext eA,hsrc.ext eA,bx.nth 5 rfl⟩
  · rintro k A A' ⟨hf,eA,sA,bx⟩ e
    exact⟨hf,eA.trans e,by have:=e.size;omega,bx.ext e⟩
  · rintro k hk A ⟨hf,eA,sA,bx⟩ hno
    refine⟨?_,eA,sA,bx⟩
    rw[List.take_succ_eq_append_getElem hk,findR_snoc hf,if_neg]
    unfold symIs;rw[decide_eq_false hno];simp
  · rintro k hk A ⟨hf,eA,sA,bx⟩ hok
    refine hY syl[k] _ A _ bx.head ⟨bx.head,λH9 hH9=>?_⟩
    have f9:Fr [lp] A H9:=by rw[hH9];exact Fr.set
    have q9:H9[lp]?=some (rc .busy none):=by rw[hH9];exact setBlk_at bx.head
    have bx9:=bx.tail.fr f9 (λq hq=>by simp at hq;rcases hq with rfl | rfl | rfl | rfl | rfl<;>simp<;>omega)
    refine⟨name,by rw[hat_blk (bx9.nth 1 rfl)];rfl,?_⟩
    have hsnoc:findR (mof o) (syl.take (k+1)) name=if symIs (mof o) name syl[k]=true then some syl[k]else none:=by rw[List.take_succ_eq_append_getElem hk,findR_snoc hf]
    by_cases heq:(nameR (mof o) syl[k]).1.toList=name.toList
    · rw[if_pos heq]
      rw[if_pos (by unfold symIs;rw[decide_eq_true hok,decide_eq_true heq];rfl)]at hsnoc
      have hfound:=findR_take hsnoc
      obtain⟨c10,p10⟩:=box_set (vs:=[.int .u64 syl[k]]) (bx9.nth 2 rfl) rfl rfl
      refine⟨c10,λH10 hH10=>?_⟩
      obtain⟨g10,f10⟩:=p10 H10 hH10
      obtain⟨c11,p11⟩:=box_set (vs:=[.bool true]) (f10.get (by simp;omega) (bx9.nth 3 rfl)) rfl rfl
      refine⟨c11,λH11 hH11=>?_⟩
      obtain⟨g11,f11⟩:=p11 H11 hH11
      have q11:=f11.get (b:=lp) (by simp;omega) (f10.get (by simp;omega) q9)
      refine⟨q11,false,rfl,(λh=>by cases h),λ_=> .inr ⟨setBlk_at q11,λH13 hH13=>?_⟩⟩
      have f13:Fr [lp] H11 H13:=by rw[hH13];exact Fr.trans Fr.set Fr.set
      have gd:=f13.get (b:=H6.size) (by simp;omega) (f11.get (by simp;omega) (f10.get (by simp;omega) (bx9.nth 0 rfl)))
      refine⟨gd,?_⟩
      have fd:Fr [H6.size] H13 (H13.setIfInBounds H6.size (.deferred none)):=Fr.set
      have F:Fr [lp,b2,b3,H6.size] A (H13.setIfInBounds H6.size (.deferred none)):=
        ((((f9.mono (λi hi _=>by simp at hi;simp[hi])).trans (f10.mono (λi hi _=>by simp at hi;simp[hi]))).trans (f11.mono (λi hi _=>by simp at hi;simp[hi]))).trans (f13.mono (λi hi _=>by simp at hi;simp[hi]))).trans (fd.mono (λi hi _=>by simp at hi;simp[hi]))
      refine⟨syl[k],by rw[hat_blk (fd.get (b:=b2) (by simp;omega) (f13.get (b:=b2) (by simp;omega) (f11.get (b:=b2) (by simp;omega) g10)))];rfl,true,by rw[hat_blk (fd.get (b:=b3) (by simp;omega) (f13.get (b:=b3) (by simp;omega) g11))];rfl,hR _ _ ⟨by rw[hfound];rfl,eA.fr_trans F (λi hi=>by simp at hi;omega)⟩⟩
    · rw[if_neg heq]
      rw[if_neg (by unfold symIs;rw[decide_eq_false heq];simp)]at hsnoc
      refine⟨q9,true,rfl,λ_=>?_,λh=>by cases h⟩
      have f10:Fr [lp] H9 (setBlk H9 lp (rc .ready none)):=Fr.set
      have sz:=f9.size
      have sz2:=f10.size
      refine⟨hsnoc,(eA.fr_trans f9 (λi hi=>by simp at hi;omega)).fr_trans f10 (λi hi=>by simp at hi;omega),by omega,.cons (setBlk_at q9) (bx9.fr f10 (λq hq=>by simp at hq;rcases hq with rfl | rfl | rfl | rfl | rfl<;>simp<;>omega))⟩
  · rintro A ⟨hf,eA,sA,bx⟩
    rw[List.take_length]at hf
    refine .inl ⟨bx.head,λH13 hH13=>?_⟩
    have f13:Fr [lp] A H13:=by rw[hH13];exact Fr.set
    have bx13:=bx.tail.fr f13 (λq hq=>by simp at hq;rcases hq with rfl | rfl | rfl | rfl | rfl<;>simp<;>omega)
    obtain⟨c14,p14⟩:=box_set (vs:=[.int .u64 0]) (bx13.nth 2 rfl) rfl rfl
    refine⟨c14,λH14 hH14=>?_⟩
    obtain⟨g14,f14⟩:=p14 H14 hH14
    obtain⟨c15,p15⟩:=box_set (vs:=[.bool false]) (f14.get (by simp;omega) (bx13.nth 3 rfl)) rfl rfl
    refine⟨c15,λH15 hH15=>?_⟩
    obtain⟨g15,f15⟩:=p15 H15 hH15
    have gd:=f15.get (b:=H6.size) (by simp;omega) (f14.get (by simp;omega) (bx13.nth 0 rfl))
    refine⟨gd,?_⟩
    have fd:Fr [H6.size] H15 (H15.setIfInBounds H6.size (.deferred none)):=Fr.set
    have F:Fr [lp,b2,b3,H6.size] A (H15.setIfInBounds H6.size (.deferred none)):=
      (((f13.mono (λi hi _=>by simp at hi;simp[hi])).trans (f14.mono (λi hi _=>by simp at hi;simp[hi]))).trans (f15.mono (λi hi _=>by simp at hi;simp[hi]))).trans (fd.mono (λi hi _=>by simp at hi;simp[hi]))
    refine⟨0,by rw[hat_blk (fd.get (b:=b2) (by simp;omega) (f15.get (b:=b2) (by simp;omega) g14))];rfl,false,by rw[hat_blk (fd.get (b:=b3) (by simp;omega) g15)];rfl,hR _ _ ⟨by rw[hf];rfl,eA.fr_trans F (λi hi=>by simp at hi;omega)⟩⟩
def iterS(b:Nat)(A:Array Obj):Nat:=match A[b]? with | some (.stringIter s pos)=>s.size-pos | _=>0
theorem RuneCount_c{H:Array Obj}{s:ByteArray}(hl:(runesOf s).length<=1000000):unicode_utf8_RuneCountInString.C s H (λv H'=>v=.int .i64 ((runesOf s).length:Int)/\Ext H H'):=by
  refine HC.via λR hR=>unicode_utf8_RuneCountInString.link ?_
  unfold unicode_utf8_RuneCountInString.pt
  intro b H1 hb hH1
  refine⟨λn A=> ∃(pos k:Nat),n=k/\k<=(runesOf s).length/\A[b]?=some (.stringIter s pos)/\runesAt s pos=(runesOf s).drop k/\Ext H A,λ_ A=>iterS b A,⟨0,0,rfl,by omega,push_get hb hH1,rfl,Ext.push' hH1⟩,?_⟩
  rintro n A ⟨pos,k,rfl,hk,hit,hrs,eA⟩
  refine⟨s,pos,hit,?_⟩
  by_cases hpz:pos<s.size
  · rw[if_pos hpz]
    intro H4 hH4
    rw[runesAt_step hpz]at hrs
    have hklt:k< (runesOf s).length:=by
      rcases Nat.lt_or_ge k (runesOf s).length with h | h
      · exact h
      · rw[List.drop_eq_nil_of_le h]at hrs;cases hrs
    rw[List.drop_eq_getElem_cons hklt]at hrs
    have f4:Fr [b] A H4:=by rw[hH4];exact Fr.set
    have hit4:H4[b]?=some (.stringIter s (pos+(Utf8.decode s pos).2)):=by rw[hH4];exact setBlk_at hit
    refine⟨⟨_,k+1,by rw[w64 (by omega)];omega,by omega,hit4,(List.cons.inj hrs).2,eA.fr_trans f4 (λi hi=>by simp at hi;omega)⟩,?_⟩
    have hd:=decode_pos s pos
    have m1:iterS b H4=s.size-(pos+(Utf8.decode s pos).2):=by unfold iterS;rw[hit4]
    have m2:iterS b A=s.size-pos:=by unfold iterS;rw[hit]
    show iterS b H4<iterS b A
    rw[m1,m2];omega
  · rw[if_neg hpz]
    rw[runesAt_end hpz]at hrs
    have hkl:k=(runesOf s).length:=by
      have:=congrArg List.length hrs;rw[List.length_drop,List.length_nil]at this;omega
    subst hkl
    exact hR _ _ ⟨rfl,eA⟩
def SyAt(H0 H:Array Obj)(k:Blk)(x:Hp)(syl:List Int):Prop:= ∃(B:Option Addr) (c:Nat),x.sy=.slice B syl.length c/\Own H 54 1 B syl.length c (wvs syl)/\(∀i∈blks B,i ∉ k.all/\H0.size<=i)/\(∀w∈syl,IsWord w)
def syB(v:Value):List Nat:=match v with | .slice B _ _=>blks B | _=> []
theorem SyAt.nil{H0 H:Array Obj}{k:Blk}{x:Hp}(h:x.sy=.slice none 0 0):SyAt H0 H k x []:=⟨none,0,h,own_nil,by simp,by simp⟩
theorem SyAt.keep{S:List Nat}{H0 H H':Array Obj}{k:Blk}{x x':Hp}{syl:List Int}(h:SyAt H0 H k x syl)(hx:x'.sy=x.sy)(f:Fr S H H')(hS: ∀i∈S,i∈k.all\/H.size<=i):SyAt H0 H' k x' syl:=by
  obtain⟨B,c,e,o,hB,hw⟩:=h
  exact⟨B,c,hx.trans e,o.keep f (λi hi h=>by
    rcases hS i h with h' | h'
    · exact(hB i hi).1 h'
    · have:=o.lt i hi;omega),hB,hw⟩
theorem HpAt.syAt{H:Array Obj}{b:Blk}{x:Hp}(h:HpAt H b x):hat H ⟨b.h,1,none⟩=some x.sy:=by rw[hat_blk h.h];rfl
theorem HpAt.putSy{H:Array Obj}{b:Blk}{x:Hp}(h:HpAt H b x)(v:Value):CanPuts H ⟨b.h,1,none⟩ 0 1/\HpAt (hputs H ⟨b.h,1,none⟩ [v] 0) b {x with sy:=v}/\Fr [b.h] H (hputs H ⟨b.h,1,none⟩ [v] 0):=by
  refine⟨canPuts_blk h.h _ _ _ (by simp),?_⟩
  rw[hputs_blk _ _ _ _ _ h.h]
  have f:Fr [b.h] H (setBlk H b.h (.cells (splice #[.pointer (some ⟨b.c,0,none⟩),x.sy,x.en,.int .u64 x.ep] (1+0) [v]) 37 (0,0))):=Fr.set
  refine⟨⟨h.cd.keep f ?_ ?_ ?_ ?_,h.ne,by rw[setBlk_get (lt_size h.h)];rfl⟩,f⟩<;>have:=h.ne<;>simp<;>omega
end Go.Proofs.YtibpklpgmgakcaaGreatDoor
