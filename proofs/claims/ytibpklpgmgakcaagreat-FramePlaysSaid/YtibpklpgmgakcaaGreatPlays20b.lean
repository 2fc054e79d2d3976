/-
  Laws of package 20 against the document: an act done on both heaps. Proves nothing of any one statement.
-/
import Derived.Test.YtibpklpgmgakcaaGreatPlays20
import Derived.Test.YtibpklpgmgakcaaGreatL20does
set_option linter.unusedVariables false
set_option linter.unusedSimpArgs false
namespace Go.Proofs.YtibpklpgmgakcaaGreat
open Go

structure Both (H0 H:Array Obj) (b:Blk) (x:Hp) (q:RB) (r:RM):Prop where
  live:Live H0 H b x
  doc:RHAt H q r x.sp x.ep
  apart: ∀i∈q.all r,i ∉ b.all
  young: ∀i∈q.all r,H0.size<=i
theorem Both.grow{H0 H H':Array Obj}{b:Blk}{x:Hp}{q:RB}{r:RM}(h:Both H0 H b x q r)(e:Ext H H'):Both H0 H' b x q r:=⟨h.live.grow e,h.doc.ext e,h.apart,h.young⟩
theorem Both.left{H0 H H':Array Obj}{b:Blk}{x x':Hp}{q:RB}{r:RM}(h:Both H0 H b x q r)(V:View H' (some ⟨b.h,0,none⟩) (some (b,x')))(f:Fr (own (some (b,x))) H H'):Live H0 H' b x'/\RHAt H' q r x.sp x.ep:=
  ⟨h.live.step V f,h.doc.keep (Live.others f) h.apart⟩
theorem Both.right{H0 H H':Array Obj}{b:Blk}{x':Hp}{q:RB}{r:RM}{ep:Int}(L:Live H0 H b x')(hap: ∀i∈q.all r,i ∉ b.all)(hyo: ∀i∈q.all r,H0.size<=i)(he:x'.ep=ep)(st:HStep H H' q r x'.sp ep)(f:Fr (q.all r) H H'):
    ∃r',Both H0 H' b x' q r'/\ ∀i∈q.all r',i∈q.all r\/H.size<=i:=by
  subst he
  obtain⟨r',h',_,hbs⟩:=st
  have hall: ∀i∈q.all r',i∈q.all r\/H.size<=i:=λi hi=>by
    have hi':i=q.h\/i=q.c\/i=q.sp\/i∈r'.bs:=by simpa[RB.all]using hi
    rcases hi' with rfl | rfl | rfl | hi
    · exact .inl (by simp[RB.all])
    · exact .inl (by simp[RB.all])
    · exact .inl (by simp[RB.all])
    · exact(hbs i hi).imp (λh=>by simp[RB.all,h]) id
  have hlt: ∀i∈b.all,i<H.size:=λi hi=>L.at'.lt i hi
  have hs:=L.ext.size
  refine⟨r',⟨⟨L.at'.keep f (λi hi hb=>hap i hi hb),L.ok,L.ext.fr_trans f (λi hi=>hyo i hi),L.young⟩,h',λi hi hb=>?_,λi hi=>?_⟩,hall⟩
  · rcases hall i hi with h | h
    · exact hap i h hb
    · have:=hlt i hb;omega
  · rcases hall i hi with h | h
    · exact hyo i h
    · omega

theorem makeR_word(o:Option (Blk×Hp))(kind more:Int)(ws:List Int):IsWord (makeR o kind more ws).1:=by
  unfold makeR
  split
  · exact(by decide:IsWord 0)
  split
  · exact(by decide:IsWord 0)
  unfold putR
  cases o with
  | none=>exact(by decide:IsWord 0)
  | some p=>
    obtain⟨b,x⟩:=p
    show IsWord (x.sp.put _ _ _).2.1
    unfold Sp.put
    split
    · unfold atWord
      split
      · exact(by decide:IsWord 0)
      split
      · constructor<;>(show _;simp only;omega)
      · exact(by decide:IsWord 0)
    · exact(by decide:IsWord 0)
theorem Sp.make_count{s:Sp}(ok:SpOK s)(kind more:Int)(ws:List Int):(s.make kind more ws).1.mem.count<=s.mem.count+1:=by
  unfold Sp.make
  split
  · show s.mem.count<=_;omega
  split
  · show s.mem.count<=_;omega
  unfold Sp.put
  split
  · rename_i h
    have h1:=(Sp.alloc_ok ok h).2.count
    show(Mem.sets _ _ _).count<=_
    rw[(Same'.sets _ _ _).count];exact h1
  · show s.mem.count<=_;omega
theorem make_step{b:Blk}{x:Hp}(ok:SpOK x.sp)(kind more:Int)(ws:List Int): ∃x',makeO (some (b,x)) kind more ws=some (b,x')/\x'.ep=x.ep/\x'.sp.mem.count<=x.sp.mem.count+1:=
  ⟨_,(make_some b x kind more ws).2,rfl,Sp.make_count ok kind more ws⟩
theorem ext_step{b:Blk}{x:Hp}(ok:SpOK x.sp)(parent:Int)(ws:List Int):(∃x',extO (some (b,x)) parent ws=some (b,x')/\x'.ep=x.ep/\x'.sp.mem.count<=x.sp.mem.count+1)/\IsWord (extR (some (b,x)) parent ws).1:=by
  unfold extO extR
  split
  · exact⟨⟨x,rfl,rfl,by omega⟩,(by decide:IsWord 0)⟩
  · exact⟨make_step ok _ _ _,makeR_word _ _ _ _⟩
theorem push_step{b:Blk}{x:Hp}(ok:SpOK x.sp)(kind next:Int)(ws:List Int):(∃x',pushO (some (b,x)) kind next ws=some (b,x')/\x'.ep=x.ep/\x'.sp.mem.count<=x.sp.mem.count+1)/\IsWord (pushR (some (b,x)) kind next ws).1:=by
  unfold pushO pushR
  split
  · exact⟨⟨x,rfl,rfl,by omega⟩,(by decide:IsWord 0)⟩
  split
  · exact⟨⟨x,rfl,rfl,by omega⟩,(by decide:IsWord 0)⟩
  · exact⟨make_step ok _ _ _,makeR_word _ _ _ _⟩
theorem set_step{b:Blk}{x:Hp}(w k i v:Int): ∃x',setO (some (b,x)) w k i v=some (b,x')/\x'.ep=x.ep/\x'.sp.mem.count<=x.sp.mem.count+1:=by
  refine⟨_,rfl,rfl,?_⟩
  show(if x.sp.mem.fieldE w k i=0 then(x.sp.mem.store (w / 8+1+i) v).1 else x.sp.mem).count<=_
  split
  · rw[Mem.store_lim.2.2];omega
  · omega
theorem eput_step{b:Blk}{x:Hp}(w up i v:Int): ∃x',eputO (some (b,x)) w up i v=some (b,x')/\x'.ep=x.ep/\x'.sp.mem.count<=x.sp.mem.count+1:=by
  unfold eputO
  split
  · exact⟨x,rfl,rfl,by omega⟩
  split
  · exact⟨x,rfl,rfl,by omega⟩
  · exact set_step _ _ _ _

structure MadeAt (H0 H:Array Obj) (b:Blk) (q:RB) (r:RM) (p:Option Addr) (n c:Nat) (mw:List Int):Prop where
  own:Own H 35 1 p n c (wvs mw)
  words: ∀w∈mw,IsWord w
  apart: ∀i∈blks p,H0.size<=i/\i ∉ b.all/\i ∉ q.all r
theorem MadeAt.len{H0 H:Array Obj}{b:Blk}{q:RB}{r:RM}{p:Option Addr}{n c:Nat}{mw:List Int}(h:MadeAt H0 H b q r p n c mw):n=mw.length:=by have:=h.own.len;simpa[wvs]using this.symm
theorem MadeAt.grow{H0 H H':Array Obj}{b:Blk}{q:RB}{r:RM}{p:Option Addr}{n c:Nat}{mw:List Int}(h:MadeAt H0 H b q r p n c mw)(e:Ext H H'):MadeAt H0 H' b q r p n c mw:=⟨h.own.ext e,h.words,h.apart⟩
theorem MadeAt.keep{S:List Nat}{H0 H H':Array Obj}{b:Blk}{q:RB}{r r':RM}{p:Option Addr}{n c:Nat}{mw:List Int}(h:MadeAt H0 H b q r p n c mw)(f:Fr S H H')(hS: ∀i∈S,i∈b.all\/i∈q.all r)(hr: ∀i∈q.all r',i∈q.all r\/H.size<=i):MadeAt H0 H' b q r' p n c mw:=
  ⟨h.own.keep f (λi hi hs=>(hS i hs).elim (h.apart i hi).2.1 (h.apart i hi).2.2),h.words,λi hi=>⟨(h.apart i hi).1,(h.apart i hi).2.1,λhm=>(hr i hm).elim (h.apart i hi).2.2 (λhh=>by have:=h.own.lt i hi;omega)⟩⟩
theorem MadeAt.snoc{H0 H H1:Array Obj}{b:Blk}{x:Hp}{q:RB}{r:RM}{p:Option Addr}{n c b1:Nat}{mw:List Int}{w:Int}{K:Option Addr->Nat->Array Obj->Prop}(h:MadeAt H0 H b q r p n c mw)(B:Both H0 H b x q r)(hw:IsWord w)(hl:mw.length<=1000)
    (hb:b1=H.size) (hH:H1=H.push (.cells #[.int .u64 w] 35))
    (hK: ∀p' c' H',MadeAt H0 H' b q r p' (n+1) c' (mw++[w])->Both H0 H' b x q r->K p' c' H'):appendK 1 35 8 [.int .u64 0] p n c (some (Addr.mk b1 0 none)) 1 H1 K:=by
  have e1:Ext H H1:=Ext.push' hH
  have hn:=h.len
  have hsz:=e1.size
  have hs0:=B.live.ext.size
  refine own_append (ys:=wvs [w]) (h.own.ext e1) (rowAt_blk (push_get hb hH) _ 0 0 (λj hj=>by simp[wvs])) (by simp[wvs]) (allOne_wvs _) rfl (by omega) ?_
  intro p' c' H' ho f hnew
  have hb1: ∀i∈b.all,i<H.size:=λi hi=>B.live.at'.lt i hi
  have hq1:=B.doc.lt
  refine hK p' c' H' ⟨by have : wvs (mw ++ [w]) = wvs mw ++ wvs [w] := by unfold wvs; rw [List.map_append]
                         rw[this];exact ho,λu hu=>?_,λi hi=>?_⟩ ?_
  · rcases List.mem_append.1 hu with hu | hu
    · exact h.words u hu
    · simp at hu;rw[hu];exact hw
  · rcases hnew i hi with h1 | h1
    · exact h.apart i h1
    · exact⟨by omega,λhm=>by have:=hb1 i hm;omega,λhm=>by have:=hq1 i hm;omega⟩
  · have fd: ∀S:List Nat,(∀i∈S,i∈b.all\/i∈q.all r)-> ∀i∈S,i ∉ blks p:=λS hS i hi hm=>(hS i hi).elim (λhh=>(h.apart i hm).2.1 hh) (λhh=>(h.apart i hm).2.2 hh)
    have B1:=B.grow e1
    refine⟨⟨B1.live.at'.keep f (λi hi hb=>(h.apart i hi).2.1 hb),B.live.ok,B1.live.ext.fr_trans f (λi hi=>(h.apart i hi).1),B.live.young⟩,B1.doc.keep f (λi hi hm=>(h.apart i hm).2.2 hi),B.apart,B.young⟩

theorem copy20{H4 H5:Array Obj}{qB:Option Addr}{N b2:Nat}{ws:List Int}{K:Option Addr->Nat->Array Obj->Prop}(hsrc:SrcAt H4 qB (wvs ws))(hlen:N=ws.length)(hle:ws.length<=100000)(hb:b2=H4.size)(hH:H5=H4.push (.cells #[] 35))
    (hK: ∀ap c H6,Ext H4 H6->SrcAt H6 ap (wvs ws)->K ap c H6):appendK 1 35 8 [.int .u64 0] (some (Addr.mk b2 0 none)) 0 0 qB N H5 K:=by
  subst hlen
  have e5:Ext H4 H5:=Ext.push' hH
  refine own_append (n:=0) (xs:=[]) (ys:=wvs ws) (h:=⟨rfl,#[],push_get hb hH,rfl,Nat.le_refl _,rfl,λj hj=>by simp at hj⟩) (hsrc.ext e5) (by simp[wvs]) (allOne_wvs _) rfl (by omega) ?_
  intro p c H6 ho f hn
  exact hK p c H6 (e5.fr_trans f (λi hi=>by simp at hi;omega)) (by have:=ho.src;simpa using this)
theorem tail20{H0 H8:Array Obj}{b:Blk}{x:Hp}{q:RB}{r:RM}{p:Option Addr}{n c:Nat}{mw:List Int}{res:Int×Int}{R:Value->Array Obj->Prop}(B:Both H0 H8 b x q r)(M:MadeAt H0 H8 b q r p n c mw)(hw:IsWord res.1)(hl:mw.length<=1000)
    (hR: ∀p' n' c' mw' H',Both H0 H' b x q r->MadeAt H0 H' b q r p' n' c' mw'->mw'.length<=mw.length+1->R (.tuple #[.slice p' n' c',.bool true]) H'):
    if((res.2==0) && (res.2==0))=true then(
      ∀(b_3:Nat) (H9:Array Obj),b_3=H8.size->H9=H8.push (.cells #[.int .u64 res.1] 35)->
      appendK 1 35 8 [.int .u64 0] p n c (some (Addr.mk b_3 0 none)) 1 H9 (λap_2 apC_2 H10=>
        R (.tuple #[.slice ap_2 (n+1) apC_2,.bool ((res.1==res.1) && (res.2==res.2))]) H10))
    else R (.tuple #[.slice p n c,.bool ((res.1==res.1) && (res.2==res.2))]) H8:=by
  have et:((res.1==res.1) && (res.2==res.2))=true:=by simp
  rw[et]
  by_cases h:((res.2==0) && (res.2==0))=true
  · rw[if_pos h]
    intro b3 H9 hb hH
    refine M.snoc B hw hl hb hH ?_
    intro p' c' H' M' B'
    exact hR _ _ _ _ _ B' M' (by simp)
  · rw[if_neg h]
    exact hR _ _ _ _ _ B M (by omega)

theorem does20_c{H0 H:Array Obj}{b:Blk}{x:Hp}{q:RB}{r:RM}{p:Option Addr}{n c:Nat}{mw:List Int}{rr:ActOf}(B:Both H0 H b x q r)(M:MadeAt H0 H b q r p n c mw)(A:actOfR.ok maxLen H0 rr)(hl:rr.l.n<=100)(hmw:mw.length<=1000)(hcnt:x.sp.mem.count<4611686018427387904):
    morainelaw20_does.C (some ⟨b.h,0,none⟩) (some ⟨q.h,0,none⟩) rr.dov rr.kind rr.up rr.n rr.x.w rr.x.ofv rr.y.w rr.y.ofv rr.l.p rr.l.n rr.l.c p n c H (λv H'=> ∃p' n' c' x' r' mw',v=.tuple #[.slice p' n' c',.bool true]/\Both H0 H' b x' q r'/\MadeAt H0 H' b q r' p' n' c' mw'/\mw'.length<=mw.length+1/\x'.sp.mem.count<=x.sp.mem.count+1):=by
  refine HC.via λR hR=>morainelaw20_does.link ?_
  unfold morainelaw20_does.pt
  intro b1 H1 hb1 hH1
  have e1:Ext H H1:=Ext.push' hH1
  have g1:=push_get hb1 hH1
  have row1:=box_row (vs:=[.int .i64 rr.dov,.int .i64 rr.kind,.int .i64 rr.up,.int .i64 rr.n,.int .u64 rr.x.w,.int .i64 rr.x.ofv,.int .u64 rr.y.w,.int .i64 rr.y.ofv,.slice rr.l.p rr.l.n rr.l.c]) g1
  have r4:=row1.sub (us:=[.int .u64 rr.x.w,.int .i64 rr.x.ofv]) 4 rfl
  have r6:=row1.sub (us:=[.int .u64 rr.y.w,.int .i64 rr.y.ofv]) 6 rfl
  refine⟨_,_,r4,_,_,r6,?_⟩
  have i_n:=wf_i64 A.n
  have i_up:=wf_i64 A.up
  have i_kd:=wf_i64 A.kind
  refine HC.mono (word11_c (wf_u64 A.x.w) (wf_i64 A.x.ofv) (M.own.ext e1)) ?_
  rintro _ H2 ⟨rfl,e2⟩
  refine⟨_,rfl,e2.rowAt r6,?_⟩
  refine HC.mono (word11_c (wf_u64 A.y.w) (wf_i64 A.y.ofv) (M.own.ext (e1.trans e2))) ?_
  rintro _ H3 ⟨rfl,e3⟩
  refine⟨_,rfl,?_⟩
  have e13:=e2.trans e3
  have g3:=e13.get g1
  have e03:=e1.trans e13
  refine⟨_,_,_,by rw[box_get g3];rfl,?_⟩
  refine HC.mono (words20_c (SlOK.ext A.l (B.live.ext.trans e03)) (by omega) (M.own.ext e03)) ?_
  rintro _ H4 ⟨qB,qc,rfl,how,e4,hnew⟩
  refine⟨_,_,_,rfl,?_⟩
  have e04:=e03.trans e4
  have g4:=e4.get g3
  have B4:=B.grow e04
  have M4:=M.grow e04
  have hwx:=valW_word (mw:=mw) (wf_u64 A.x.w) M.words (Of:=rr.x.ofv)
  have hwy:=valW_word (mw:=mw) (wf_u64 A.y.w) M.words (Of:=rr.y.ofv)
  have hws: ∀w∈(rr.l.xs.map λv=>valW v.w v.ofv mw),IsWord w:=λw hw=>by
    obtain⟨v,hv,rfl⟩:=List.mem_map.1 hw
    exact valW_word (wf_u64 (A.l.each v hv).w) M.words
  generalize valW rr.x.w rr.x.ofv mw=wx at*
  generalize valW rr.y.w rr.y.ofv mw=wy at*
  have hlen:rr.l.n=(rr.l.xs.map λv=>valW v.w v.ofv mw).length:=by rw[List.length_map];exact A.l.len.symm
  generalize (rr.l.xs.map λv=>valW v.w v.ofv mw)=ws at*
  have hle:ws.length<=100:=by omega
  have hbl: ∀i∈b.all,i<H.size:=λi hi=>B.live.at'.lt i hi
  have hql:=B.doc.lt
  have hs3:=e03.size
  have hqB: ∀i∈blks qB,H3.size<=i:=hnew
  have hownall: ∀(y:Hp) i,i∈own (some (b,y))->i∈b.all:=λy i hi=>by simp[own]at hi;simp[Blk.all];omega
  have hb1o: ∀y:Hp,b1 ∉ own (some (b,y)):=λy hm=>by have:=hbl _ (hownall y _ hm);omega
  have made: ∀(H6 H7:Array Obj) (x':Hp) (res:Int×Int),Ext H4 H6->View H7 (some ⟨b.h,0,none⟩) (some (b,x'))->Fr (own (some (b,x))) H6 H7->x'.ep=x.ep->x'.sp.mem.count<=x.sp.mem.count+1->IsWord res.1->
      ∀H8,HStep H7 H8 q r x'.sp x.ep->Fr (q.all r) H7 H8->
      if((res.2==0) && (res.2==0))=true then(
        ∀(b_3:Nat) (H9:Array Obj),b_3=H8.size->H9=H8.push (.cells #[.int .u64 res.1] 35)->
        appendK 1 35 8 [.int .u64 0] p n c (some (Addr.mk b_3 0 none)) 1 H9 (λap_2 apC_2 H10=>
          R (.tuple #[.slice ap_2 (n+1) apC_2,.bool ((res.1==res.1) && (res.2==res.2))]) H10))
      else R (.tuple #[.slice p n c,.bool ((res.1==res.1) && (res.2==res.2))]) H8:=by
    intro H6 H7 x' res e6 V7 f7 hep hcn hw H8 st8 f8
    have B6:=B4.grow e6
    obtain⟨L7,_⟩:=B6.left V7 f7
    obtain⟨r',B8,hall⟩:=Both.right L7 B.apart B.young hep st8 f8
    have M8:=((M4.grow e6).keep (r':=r) f7 (λi hi=> .inl (hownall x i hi)) (λi hi=> .inl hi)).keep (r':=r') f8 (λi hi=> .inr hi) hall
    exact tail20 B8 M8 hw hmw (λp' n' c' mw' H' B' M' hle'=>hR _ _ ⟨p',n',c',x',r',mw',rfl,B',M',hle',hcn⟩)
  have stay: ∀(H6:Array Obj) (v:Bool),v=true->Ext H4 H6->R (.tuple #[.slice p n c,.bool v]) H6:=λH6 v hv e6=>by
    subst hv
    exact hR _ _ ⟨p,n,c,x,r,mw,rfl,B4.grow e6,M4.grow e6,by omega,by omega⟩
  have setW: ∀(H6 H7 H8:Array Obj) (x':Hp) (v:Bool),v=true->Ext H4 H6->View H7 (some ⟨b.h,0,none⟩) (some (b,x'))->Fr (own (some (b,x))) H6 H7->x'.ep=x.ep->x'.sp.mem.count<=x.sp.mem.count+1->RHAt H8 q r x'.sp x.ep->Fr (q.all r) H7 H8->R (.tuple #[.slice p n c,.bool v]) H8:=by
    intro H6 H7 H8 x' v hv e6 V7 f7 hep hcn h8 f8
    subst hv
    have B6:=B4.grow e6
    obtain⟨L7,_⟩:=B6.left V7 f7
    obtain⟨r',B8,hall⟩:=Both.right L7 B.apart B.young hep (.same h8) f8
    have M8:=((M4.grow e6).keep (r':=r) f7 (λi hi=> .inl (hownall x i hi)) (λi hi=> .inl hi)).keep (r':=r') f8 (λi hi=> .inr hi) hall
    exact hR _ _ ⟨p,n,c,x',r',mw,rfl,B8,M8,by omega,hcn⟩
  have srcAt: ∀(H6 H7:Array Obj),Ext H4 H6->Fr (own (some (b,x))) H6 H7->SrcAt H7 qB (wvs ws):=λH6 H7 e6 f7=>by
    have o7:=(how.ext e6).keep f7 (λi hi hm=>by have:=hqB i hi;have:=hbl _ (hownall x _ hm);omega)
    exact o7.src
  have docAt: ∀(H6 H7:Array Obj),Ext H4 H6->Fr (own (some (b,x))) H6 H7->RHAt H7 q r x.sp x.ep:=λH6 H7 e6 f7=>(B4.doc.ext e6).keep (Live.others f7) B.apart
  have boxAt: ∀(H6 H7:Array Obj),Ext H4 H6->Fr (own (some (b,x))) H6 H7->H7[b1]?=H4[b1]?:=λH6 H7 e6 f7=>by
    rw[(f7.get (hb1o x) (e6.get g4)),g4]
  have V4:=B4.live.view
  have ok:=B.live.ok
  have hc:cntOK (some (b,x)):=hcnt
  refine⟨rr.dov,by rw[hat_blk g4];rfl,?_⟩
  by_cases h0:rr.dov=0
  · rw[if_pos h0]
    intro b2 H5 hb2 hH5
    refine copy20 how.src hlen (by omega) hb2 hH5 ?_
    intro ap apc H6 e6 hs6
    refine HC.mono (frame_Extend_c (V4.ext e6) hwx hs6 (by omega) hws hc (by omega)) ?_
    rintro _ H7 ⟨rfl,V7,f7⟩
    refine⟨_,_,rfl,?_⟩
    refine HC.mono (ref20_Extend_c (b:=b) (docAt _ _ e6 f7) ok hwx (srcAt _ _ e6 f7) hlen hws (by omega)) ?_
    rintro _ H8 ⟨rfl,st8,f8⟩
    refine⟨_,_,rfl,?_⟩
    obtain⟨⟨x',hx',hep,hcn⟩,hwr⟩:=ext_step (b:=b) ok wx ws
    rw[hx']at V7 st8
    exact made H6 H7 x' (extR (some (b,x)) wx ws) e6 V7 f7 hep hcn hwr H8 st8 f8
  rw[if_neg h0]
  by_cases h1:rr.dov=1
  · rw[if_pos h1]
    refine⟨_,by rw[box_get g4];rfl,?_⟩
    intro b2 H5 hb2 hH5
    have e5:Ext H4 H5:=Ext.push' hH5
    have r3: ∀H',Ext H4 H'->RowAt H' ((Addr.mk b1 0 none).add 3) 0 [.int .i64 rr.n]:=λH' e=>e.rowAt ((box_row g4).sub (us:=[.int .i64 rr.n]) 3 rfl)
    refine⟨r3 _ e5,?_⟩
    refine copy20 how.src hlen (by omega) hb2 hH5 ?_
    intro ap apc H6 e6 hs6
    refine⟨r3 _ e6,?_⟩
    refine HC.mono (frame_Push_c (V4.ext e6) i_n hwx hs6 (by omega) hws hc (by omega)) ?_
    rintro _ H7 ⟨rfl,V7,f7⟩
    refine⟨_,_,rfl,_,by rw[box_get ((boxAt _ _ e6 f7).trans g4)];rfl,?_⟩
    refine HC.mono (ref20_Push_c (b:=b) (docAt _ _ e6 f7) ok hwx (srcAt _ _ e6 f7) hlen hws (by omega)) ?_
    rintro _ H8 ⟨rfl,st8,f8⟩
    refine⟨_,_,rfl,?_⟩
    obtain⟨⟨x',hx',hep,hcn⟩,hwr⟩:=push_step (b:=b) ok rr.n wx ws
    rw[hx']at V7 st8
    exact made H6 H7 x' (pushR (some (b,x)) rr.n wx ws) e6 V7 f7 hep hcn hwr H8 st8 f8
  rw[if_neg h1]
  by_cases h2:rr.dov=2
  · rw[if_pos h2]
    refine⟨_,by rw[box_get g4];rfl,_,by rw[box_get g4];rfl,?_⟩
    refine HC.mono (frame_Get_c V4 hwx i_up i_n) ?_
    rintro _ H5 ⟨rfl,e5⟩
    have g5:=e5.get g4
    refine⟨_,_,rfl,_,by rw[box_get g5];rfl,_,by rw[box_get g5];rfl,?_⟩
    refine HC.mono (ref20_Get_c (B4.doc.ext e5) ok.mem hwx i_n) ?_
    rintro _ H6 ⟨rfl,e6⟩
    refine⟨_,_,rfl,stay _ _ ?_ (e5.trans e6)⟩
    rw[show mof (some (b,x))=x.sp.mem from rfl];simp
  rw[if_neg h2]
  by_cases h3:rr.dov=3
  · rw[if_pos h3]
    refine⟨_,by rw[box_get g4];rfl,_,by rw[box_get g4];rfl,_,by rw[box_get g4];rfl,_,by rw[box_get g4];rfl,?_⟩
    refine HC.mono (frame_Put_c V4 hwx i_up i_n hwy) ?_
    rintro _ H5 ⟨rfl,V5,f5⟩
    have gg:=(boxAt _ _ (Ext.refl _) f5).trans g4
    refine⟨_,rfl,(box_row gg).sub (us:=[.int .i64 rr.up]) 2 rfl,(box_row gg).sub (us:=[.int .i64 rr.n]) 3 rfl,?_⟩
    refine HC.mono (ref20_Put_c (b:=b) (docAt _ _ (Ext.refl _) f5) ok hwx i_n hwy) ?_
    rintro _ H6 ⟨rfl,h6,f6⟩
    obtain⟨x',hx',hep,hcn⟩:=eput_step (b:=b) (x:=x) wx rr.up rr.n wy
    rw[hx']at V5 h6
    exact⟨_,rfl,setW H4 H5 H6 x' _ (beq_self_eq_true _) (Ext.refl _) V5 f5 hep hcn h6 f6⟩
  rw[if_neg h3]
  by_cases h4:rr.dov=4
  · rw[if_pos h4]
    refine⟨_,by rw[box_get g4];rfl,?_⟩
    refine HC.mono (tells20_c V4 B4.doc hwx i_n) ?_
    rintro _ H5 ⟨rfl,e5⟩
    exact⟨_,rfl,stay _ _ rfl e5⟩
  rw[if_neg h4]
  by_cases h5:rr.dov=5
  · rw[if_pos h5]
    refine⟨_,by rw[box_get g4];rfl,?_⟩
    intro b2 H5 hb2 hH5
    have e5:Ext H4 H5:=Ext.push' hH5
    have r3: ∀H',Ext H4 H'->RowAt H' ((Addr.mk b1 0 none).add 1) 0 [.int .i64 rr.kind]:=λH' e=>e.rowAt ((box_row g4).sub (us:=[.int .i64 rr.kind]) 1 rfl)
    refine⟨r3 _ e5,?_⟩
    refine copy20 how.src hlen (by omega) hb2 hH5 ?_
    intro ap apc H6 e6 hs6
    refine⟨r3 _ e6,?_⟩
    refine HC.mono (obj_Make_c (V4.ext e6) hs6 (by omega) hws i_kd (by decide) hc (by omega)) ?_
    rintro _ H7 ⟨rfl,V7,f7⟩
    refine⟨_,_,rfl,_,by rw[box_get ((boxAt _ _ e6 f7).trans g4)];rfl,?_⟩
    refine HC.mono (ref10_Make_c (b:=b) (docAt _ _ e6 f7) ok (srcAt _ _ e6 f7) hlen hws (by decide) (by omega)) ?_
    rintro _ H8 ⟨rfl,st8,f8⟩
    refine⟨_,_,rfl,?_⟩
    obtain⟨x',hx',hep,hcn⟩:=make_step (b:=b) ok rr.kind 0 ws
    rw[hx']at V7 st8
    exact made H6 H7 x' (makeR (some (b,x)) rr.kind 0 ws) e6 V7 f7 hep hcn (makeR_word _ _ _ _) H8 st8 f8
  rw[if_neg h5]
  by_cases h6:rr.dov=6
  · rw[if_pos h6]
    refine⟨_,by rw[box_get g4];rfl,_,by rw[box_get g4];rfl,_,by rw[box_get g4];rfl,_,by rw[box_get g4];rfl,?_⟩
    refine HC.mono (obj_Set_c V4 hwx i_n hwy) ?_
    rintro _ H5 ⟨rfl,V5,f5⟩
    have gg:=(boxAt _ _ (Ext.refl _) f5).trans g4
    refine⟨_,rfl,(box_row gg).sub (us:=[.int .i64 rr.kind]) 1 rfl,(box_row gg).sub (us:=[.int .i64 rr.n]) 3 rfl,?_⟩
    refine HC.mono (ref10_Set_c (b:=b) (docAt _ _ (Ext.refl _) f5) ok hwx i_n hwy) ?_
    rintro _ H6 ⟨rfl,h6',f6⟩
    obtain⟨x',hx',hep,hcn⟩:=set_step (b:=b) (x:=x) wx rr.kind rr.n wy
    rw[hx']at V5 h6'
    exact⟨_,rfl,setW H4 H5 H6 x' _ (beq_self_eq_true _) (Ext.refl _) V5 f5 hep hcn h6' f6⟩
  rw[if_neg h6]
  exact stay _ _ rfl (Ext.refl _)
end Go.Proofs.YtibpklpgmgakcaaGreat
