/-
 A heap's cards, its space and its memory, copied. Proves nothing of any one statement.
-/
import Derived.Test.YtihdffpekpnglaaGreatRefD
import Derived.Test.YtihdffpekpnglaaGreatLiveT
import Derived.Test.YtihdffpekpnglaaGreatWords
set_option linter.unusedVariables false
set_option linter.unusedSimpArgs false
namespace Go.Proofs.YtihdffpekpnglaaGreat
open Go

def mh(m:Mem):List Value:=(List.range (m.limit*72)).map λj:Nat=>(m.seg (j / 72)).cell (j % 72)
theorem pB(m:Mem){k j:Nat}(hk:k<m.limit)(hj:j<72):(mh m)[k*72+j]?=some ((m.seg k).cell j):=by
 unfold mh
 have h1:(k+1)*72<=m.limit*72:=Nat.mul_le_mul_right _ hk
 rw[List.getElem?_map,List.getElem?_range (by omega)]
 show some ((m.seg ((k*72+j) / 72)).cell ((k*72+j) % 72))=_
 rw[show(k*72+j) / 72=k by omega,show(k*72+j) % 72=j by omega]
theorem ot(m:Mem):gF (mh m)=true:=by
 have key: ∀l:List Nat,gF (l.map λj:Nat=>(m.seg (j / 72)).cell (j % 72))=true:=by
  intro l
  induction l with
  | nil=>rfl
  | cons j l ih=>
   have hc: ∀i:Nat,∃(k:IntKind) (n:Int),(m.seg (j / 72)).cell i=.int k n:=λi=>by
    match i with
    | 0 | 1 | 2 | 3 | 4 | 5 | 6 | 7=>exact⟨_,_,rfl⟩
    | i+8=>exact⟨_,_,rfl⟩
   obtain⟨k,n,e⟩:=hc (j % 72)
   rw[List.map_cons,e]
   show(true && _)=true
   rw[ih];rfl
 exact key _
theorem qt{H:zW}{bm bs:Nat}{m:Mem}{cap:Nat}(h:eP H bm bs m)(ok:cF m):
  aV.C (some ⟨bs,0,none⟩) m.limit cap H (λv H'=> ∃(q c:Nat),v=.slice (some ⟨q,0,none⟩) m.limit c/\H.size<=q/\(∃cs:Array Value,H'[q]?=some (.cells cs 127 (0,0))/\m.limit*72<=cs.size/\ ∀k,k<m.limit-> ∀j,j<72->cs[k*72+j]?=some ((m.seg k).cell j))/\Ext H H'):=by
 refine HC.via λR hR=>aV.link ?_
 unfold aV.pt
 rw[onPtr_some]
 intro b H1 hb1 hH1
 have e1:Ext H H1:=Ext.push' hH1
 have hlim:=ok.lim
 have ho:Own H1 127 72 (some ⟨b,0,none⟩) 0 0 []:=⟨rfl,_,aO hb1 hH1,rfl,Nat.le_refl _,rfl,λj hj=>by omega⟩
 have hvl:(mh m).length=m.limit*72:=by unfold mh;simp
 refine cZ (ys:=mh m) ho ?_ hvl (ot m) (by simp) (by omega) ?_
 ·refine iO λj v hv=>?_
  have hj:j<m.limit*72:=by
   rw[<-hvl]
   rcases Nat.lt_or_ge j (mh m).length with h | h
   ·exact h
   ·rw[List.getElem?_eq_none h]at hv;cases hv
  have hq:(mh m)[j / 72*72+j % 72]?=some ((m.seg (j / 72)).cell (j % 72)):=pB m (by omega) (by omega)
  rw[show j / 72*72+j % 72=j by omega,hv]at hq
  have ha:=(h.ext e1).at (k:=j / 72) (j:=j % 72) (by omega) (by omega)
  rw[addr_add_mk,Option.some.inj hq,<-ha]
  congr 2;omega
 ·intro p c H2 how f hnew
  rw[Nat.zero_add]at how⊢
  cases p with
  | none=>obtain⟨h0,_,_⟩:=how;omega
  | some a=>
   obtain⟨ha,cs,hb,hcs,hle,hl,hc⟩:=how
   have hq:H.size<=a.block:=by
    rcases hnew a.block (by simp)with h | h
    ·simp at h;omega
    ·have:=e1.size;omega
   rw[ha]
   refine hR _ _ ⟨a.block,c,rfl,hq,⟨cs,hb,by rw[hcs];exact Nat.mul_le_mul_right _ hle,λk hk j hj=>?_⟩,e1.fr_trans f (λi hi=>by simp at hi;omega)⟩
   have h1:(k+1)*72<=m.limit*72:=Nat.mul_le_mul_right _ hk
   rw[hc _ (by omega),List.nil_append,pB m hk hj]
theorem rj{H:zW}{bm bs:Nat}{m:Mem}(h:eP H bm bs m)(ok:cF m):
  gU.C (some ⟨bm,0,none⟩) H (λv H'=> ∃bm' bs',v=.pointer (some ⟨bm',0,none⟩)/\eP H' bm' bs' m/\H.size<=bm'/\H.size<=bs'/\Ext H H'):=by
 refine HC.via λR hR=>gU.link ?_
 unfold gU.pt
 rw[onPtr_some]
 refine⟨_,_,_,h.segsAt.choose_spec,_,h.countAt,_,h.freeAt,HC.mono (qt h ok) ?_⟩
 rintro _ H1 ⟨q,c,rfl,hq,hcs,e1⟩
 have h1:=h.ext e1
 refine⟨_,_,_,rfl,⟨h1.countAt,trivial⟩,⟨h1.freeAt,trivial⟩,λb H2 hb hH2=>?_⟩
 have e2:Ext H1 H2:=Ext.push' hH2
 obtain⟨cs,g,g1,g2⟩:=hcs
 have hql:=bI g
 have:=e1.size
 exact hR _ _ ⟨b,q,rfl,⟨⟨c,aO hb hH2⟩,by omega,cs,e2.get g,g1,g2⟩,by omega,hq,e1.trans e2⟩
set_option maxRecDepth 100000 in
theorem sd{H:zW}{b:Blk}{s:Sp}(h:SpAt H b s)(ok:SpOK s):
  eY.C (some ⟨b.sp,0,none⟩) H (λv H'=> ∃b':Blk,v=.pointer (some ⟨b'.sp,0,none⟩)/\SpAt H' b' s/\(H.size<=b'.sp/\H.size<=b'.m/\H.size<=b'.s)/\Ext H H'):=by
 refine HC.via λR hR=>eY.link ?_
 unfold eY.pt
 rw[onPtr_some]
 have row: ∀{Hx:zW},Ext H Hx->aG Hx ((Addr.mk b.sp 0 none).add 1) 0 ((List.range 20).map λj:Nat=>Value.int .i64 (s.cur (j / 4) (j % 4))):=λe=>by
  refine iO λj v hv=>?_
  have hj:j<20:=by
   rcases Nat.lt_or_ge j 20 with h | h
   ·exact h
   ·rw[List.getElem?_eq_none (by simpa using h)]at hv;cases hv
  rw[List.getElem?_map,List.getElem?_range hj]at hv
  have ha:=(h.ext e).curAt (g:=j / 4) (k:=j % 4) (by omega) (by omega)
  rw[addr_add_mk,addr_add_mk,<-Option.some.inj hv,<-ha]
  congr 2;omega
 refine⟨_,h.memPtr,s.cur 0 0,s.cur 0 1,s.cur 0 2,s.cur 0 3,s.cur 1 0,s.cur 1 1,s.cur 1 2,s.cur 1 3,s.cur 2 0,s.cur 2 1,s.cur 2 2,s.cur 2 3,s.cur 3 0,s.cur 3 1,s.cur 3 2,s.cur 3 3,s.cur 4 0,s.cur 4 1,s.cur 4 2,s.cur 4 3,row (Ext.refl _),HC.mono (rj h.mem ok.mem) ?_⟩
 rintro _ H1 ⟨bm,bs,rfl,M,h1,h2,e1⟩
 refine⟨_,rfl,row e1,λbp H2 hb hH2=>?_⟩
 have e2:Ext H1 H2:=Ext.push' hH2
 have hml:=M.lt
 have:=e1.size
 refine hR _ _ ⟨⟨0,0,bp,bm,bs⟩,rfl,⟨M.ext e2,⟨by show bp≠bm;omega,by show bp≠bs;omega⟩,_,aO hb hH2,rfl,rfl,λg k hg hk=>?_⟩,⟨by show H.size<=bp;omega,h1,h2⟩,e1.trans e2⟩
 rcases(show g=0\/g=1\/g=2\/g=3\/g=4 by omega)with rfl | rfl | rfl | rfl | rfl<;>rcases(show k=0\/k=1\/k=2\/k=3 by omega)with rfl | rfl | rfl | rfl<;>rfl
theorem se{H:zW}{b:Blk}{s:Sp}(h:CdAt H b s)(ok:SpOK s):
  fP.C (some ⟨b.c,0,none⟩) H (λv H'=> ∃b':Blk,v=.pointer (some ⟨b'.c,0,none⟩)/\CdAt H' b' s/\(∀j∈[b'.c,b'.sp,b'.m,b'.s],H.size<=j/\j<H'.size)/\Ext H H'):=by
 refine HC.via λR hR=>fP.link ?_
 unfold fP.pt
 rw[onPtr_some]
 refine⟨_,h.cPtr,HC.mono (sd h.sp ok) ?_⟩
 rintro _ H1 ⟨b',rfl,S,⟨h1,h2,h3⟩,e1⟩
 refine⟨_,rfl,λbc H2 hb hH2=>?_⟩
 have e2:Ext H1 H2:=Ext.push' hH2
 have z2:H2.size=H1.size+1:=by rw[hH2];simp
 have hml:=S.mem.lt
 obtain⟨cs,hs,_⟩:=S.sp
 have hsl:=bI hs
 have:=e1.size
 refine hR _ _ ⟨⟨b'.h,bc,b'.sp,b'.m,b'.s⟩,rfl,⟨⟨S.mem.ext e2,S.ne,(S.ext e2).sp⟩,⟨by show bc≠b'.sp;omega,by show bc≠b'.m;omega,by show bc≠b'.s;omega⟩,aO hb hH2⟩,λj hj=>?_,e1.trans e2⟩
 simp only[List.mem_cons,List.not_mem_nil,or_false]at hj
 rcases hj with rfl | rfl | rfl | rfl<;>omega

structure Both (H0 H:zW) (b:Blk) (x:Hp) (q:RB) (r:RM):Prop where
  live:Live H0 H b x
  doc:RHAt H q r x.sp x.ep
  apart: ∀i∈q.all r,i ∉ b.all
  young: ∀i∈q.all r,H0.size<=i
theorem Both.grow{H0 H H':zW}{b:Blk}{x:Hp}{q:RB}{r:RM}(h:Both H0 H b x q r)(e:Ext H H'):Both H0 H' b x q r:=⟨h.live.grow e,h.doc.ext e,h.apart,h.young⟩
theorem Both.left{H0 H H':zW}{b:Blk}{x x':Hp}{q:RB}{r:RM}(h:Both H0 H b x q r)(V:View H' (some ⟨b.h,0,none⟩) (some (b,x')))(f:Fr (own (some (b,x))) H H'):Live H0 H' b x'/\RHAt H' q r x.sp x.ep:=
  ⟨h.live.step V f,h.doc.keep (Live.others f) h.apart⟩
theorem Both.right{H0 H H':zW}{b:Blk}{x':Hp}{q:RB}{r:RM}{ep:Int}(L:Live H0 H b x')(hap: ∀i∈q.all r,i ∉ b.all)(hyo: ∀i∈q.all r,H0.size<=i)(he:x'.ep=ep)(st:ks H H' q r x'.sp ep)(f:Fr (q.all r) H H'):
    ∃r',Both H0 H' b x' q r'/\ ∀i∈q.all r',i∈q.all r\/H.size<=i:=by
  subst he
  obtain⟨r',h',_,hbs⟩:=st
  have hall: ∀i∈q.all r',i∈q.all r\/H.size<=i:=λi hi=>by
    have hi':i=q.h\/i=q.c\/i=q.sp\/i∈r'.bs:=by simpa[RB.all]using hi
    rcases hi' with rfl | rfl | rfl | hi
    · exact .inl (by simp[RB.all])
    · exact .inl (by simp[RB.all])
    · exact .inl (by simp[RB.all])
    · exact(hbs i hi).imp (λh=>by simp[RB.all,h]) id
  have hlt: ∀i∈b.all,i<H.size:=λi hi=>L.at'.lt i hi
  have hs:=L.ext.size
  refine⟨r',⟨⟨L.at'.keep f (λi hi hb=>hap i hi hb),L.ok,L.ext.fr_trans f (λi hi=>hyo i hi),L.young⟩,h',λi hi hb=>?_,λi hi=>?_⟩,hall⟩
  · rcases hall i hi with h | h
    · exact hap i h hb
    · have:=hlt i hb;omega
  · rcases hall i hi with h | h
    · exact hyo i h
    · omega

theorem ko(o:Option (Blk×Hp))(kind more:Int)(ws:List Int):aM (hZ o kind more ws).1:=by
  unfold hZ
  split
  · exact(by decide:aM 0)
  split
  · exact(by decide:aM 0)
  unfold putR
  cases o with
  | none=>exact(by decide:aM 0)
  | some p=>
    obtain⟨b,x⟩:=p
    show aM (x.sp.put _ _ _).2.1
    unfold Sp.put
    split
    · unfold iy
      split
      · exact(by decide:aM 0)
      split
      · constructor<;>(show _;simp only;omega)
      · exact(by decide:aM 0)
    · exact(by decide:aM 0)
theorem Sp.make_count{s:Sp}(ok:SpOK s)(kind more:Int)(ws:List Int):(s.make kind more ws).1.mem.count<=s.mem.count+1:=by
  unfold Sp.make
  split
  · show s.mem.count<=_;omega
  split
  · show s.mem.count<=_;omega
  unfold Sp.put
  split
  · rename_i h
    have h1:=(Sp.alloc_ok ok h).2.count
    show(Mem.sets _ _ _).count<=_
    rw[(hC.sets _ _ _).count];exact h1
  · show s.mem.count<=_;omega
structure iC (H0 H:zW) (b:Blk) (q:RB) (r:RM) (p:zY) (n c:Nat) (mw:List Int):Prop where
  own:Own H 33 1 p n c (wvs mw)
  words: ∀w∈mw,aM w
  apart: ∀i∈blks p,H0.size<=i/\i ∉ b.all/\i ∉ q.all r
theorem iC.len{H0 H:zW}{b:Blk}{q:RB}{r:RM}{p:zY}{n c:Nat}{mw:List Int}(h:iC H0 H b q r p n c mw):n=mw.length:=by have:=h.own.len;simpa[wvs]using this.symm
theorem iC.grow{H0 H H':zW}{b:Blk}{q:RB}{r:RM}{p:zY}{n c:Nat}{mw:List Int}(h:iC H0 H b q r p n c mw)(e:Ext H H'):iC H0 H' b q r p n c mw:=⟨h.own.ext e,h.words,h.apart⟩
theorem iC.keep{S:List Nat}{H0 H H':zW}{b:Blk}{q:RB}{r r':RM}{p:zY}{n c:Nat}{mw:List Int}(h:iC H0 H b q r p n c mw)(f:Fr S H H')(hS: ∀i∈S,i∈b.all\/i∈q.all r)(hr: ∀i∈q.all r',i∈q.all r\/H.size<=i):iC H0 H' b q r' p n c mw:=
  ⟨h.own.keep f (λi hi hs=>(hS i hs).elim (h.apart i hi).2.1 (h.apart i hi).2.2),h.words,λi hi=>⟨(h.apart i hi).1,(h.apart i hi).2.1,λhm=>(hr i hm).elim (h.apart i hi).2.2 (λhh=>by have:=h.own.lt i hi;omega)⟩⟩
theorem iC.snoc{H0 H H1:zW}{b:Blk}{x:Hp}{q:RB}{r:RM}{p:zY}{n c b1:Nat}{mw:List Int}{w:Int}{K:zY->Nat->zW->Prop}(h:iC H0 H b q r p n c mw)(B:Both H0 H b x q r)(hw:aM w)(hl:mw.length<=1000)
    (hb:b1=H.size) (hH:H1=H.push (.cells #[.int .u64 w] 33))
    (hK: ∀p' c' H',iC H0 H' b q r p' (n+1) c' (mw++[w])->Both H0 H' b x q r->K p' c' H'):bW 1 33 8 [.int .u64 0] p n c (some (Addr.mk b1 0 none)) 1 H1 K:=by
  have e1:Ext H H1:=Ext.push' hH
  have hn:=h.len
  have hsz:=e1.size
  have hs0:=B.live.ext.size
  refine cZ (ys:=wvs [w]) (h.own.ext e1) (dH (aO hb hH) _ 0 0 (λj hj=>by simp[wvs])) (by simp[wvs]) (gM _) rfl (by omega) ?_
  intro p' c' H' ho f hnew
  have hb1: ∀i∈b.all,i<H.size:=λi hi=>B.live.at'.lt i hi
  have hq1:=B.doc.lt
  refine hK p' c' H' ⟨by have : wvs (mw ++ [w]) = wvs mw ++ wvs [w] := by unfold wvs; rw [List.map_append]
                         rw[this];exact ho,λu hu=>?_,λi hi=>?_⟩ ?_
  · rcases List.mem_append.1 hu with hu | hu
    · exact h.words u hu
    · simp at hu;rw[hu];exact hw
  · rcases hnew i hi with h1 | h1
    · exact h.apart i h1
    · exact⟨by omega,λhm=>by have:=hb1 i hm;omega,λhm=>by have:=hq1 i hm;omega⟩
  · have fd: ∀S:List Nat,(∀i∈S,i∈b.all\/i∈q.all r)-> ∀i∈S,i ∉ blks p:=λS hS i hi hm=>(hS i hi).elim (λhh=>(h.apart i hm).2.1 hh) (λhh=>(h.apart i hm).2.2 hh)
    have B1:=B.grow e1
    refine⟨⟨B1.live.at'.keep f (λi hi hb=>(h.apart i hi).2.1 hb),B.live.ok,B1.live.ext.fr_trans f (λi hi=>(h.apart i hi).1),B.live.young⟩,B1.doc.keep f (λi hi hm=>(h.apart i hm).2.2 hi),B.apart,B.young⟩

theorem tl{H4 H5:zW}{qB:zY}{N b2:Nat}{ws:List Int}{K:zY->Nat->zW->Prop}(hsrc:cY H4 qB (wvs ws))(hlen:N=ws.length)(hle:ws.length<=100000)(hb:b2=H4.size)(hH:H5=H4.push (.cells #[] 33))
    (hK: ∀ap c H6,Ext H4 H6->cY H6 ap (wvs ws)->K ap c H6):bW 1 33 8 [.int .u64 0] (some (Addr.mk b2 0 none)) 0 0 qB N H5 K:=by
  subst hlen
  have e5:Ext H4 H5:=Ext.push' hH
  refine cZ (n:=0) (xs:=[]) (ys:=wvs ws) (h:=⟨rfl,#[],aO hb hH,rfl,Nat.le_refl _,rfl,λj hj=>by simp at hj⟩) (hsrc.ext e5) (by simp[wvs]) (gM _) rfl (by omega) ?_
  intro p c H6 ho f hn
  exact hK p c H6 (e5.fr_trans f (λi hi=>by simp at hi;omega)) (by have:=ho.src;simpa using this)

theorem ou{H:zW}{bm bs:Nat}{m:Mem}(h:eP H bm bs m):gQ.C (some ⟨bm,0,none⟩) H (λv H'=>v=.int .i64 m.free/\H'=H):=by
 refine HC.via λR hR=>gQ.link ?_
 unfold gQ.pt
 rw[onPtr_some,addr_add_mk]
 exact⟨_,h.freeAt,hR _ _ ⟨rfl,rfl⟩⟩
theorem nD{H:zW}{b:Blk}{x:Hp}(V:View H (some ⟨b.h,0,none⟩) (some (b,x))):ga.C (some ⟨b.h,0,none⟩) H (λv H'=>v=.int .u64 x.ep/\H'=H):=by
 refine HC.via λR hR=>ga.link ?_
 unfold ga.pt
 refine HC.mono (ke V) ?_
 rintro _ H1 ⟨rfl,rfl⟩
 refine⟨_,rfl,?_⟩
 rw[if_neg (show ¬(some (b,x)).isNone=true from Bool.false_ne_true)]
 obtain⟨_,h,_⟩:=V.inv
 exact⟨_,rfl,x.ep,by rw[addr_add_mk,aU h.h];rfl,hR _ _ ⟨rfl,rfl⟩⟩
theorem nU{t:Nat->Int}: ∀{l l':List Nat},l.Nodup->l.Pairwise (λi j=>t i<=t j)->l'.Pairwise (λi j=>t i<t j)->(∀x,x∈l ↔ x∈l')->l=l'
 | [],[],_,_,_,_=>rfl
 | [],b::l',_,_,_,h=>absurd ((h b).2 (List.mem_cons_self ..)) (by simp)
 | a::l,[],_,_,_,h=>absurd ((h a).1 (List.mem_cons_self ..)) (by simp)
 | a::l,b::l',hn,h1,h2,h=>by
  obtain⟨na,nl⟩:=List.nodup_cons.1 hn
  obtain⟨ha,hl⟩:=List.pairwise_cons.1 h1
  obtain⟨hb,hl'⟩:=List.pairwise_cons.1 h2
  have e:a=b:=by
   by_cases e:a=b
   ·exact e
   ·have m1:b∈l:=(List.mem_cons.1 ((h b).2 (List.mem_cons_self ..))).resolve_left (λq=>e q.symm)
    have m2:a∈l':=(List.mem_cons.1 ((h a).1 (List.mem_cons_self ..))).resolve_left e
    have:=ha b m1;have:=hb a m2;omega
  subst e
  congr 1
  refine nU nl hl hl' λx=>⟨λhx=>?_,λhx=>?_⟩
  ·exact(List.mem_cons.1 ((h x).1 (List.mem_cons_of_mem _ hx))).resolve_left (λq=>na (q▸hx))
  ·exact(List.mem_cons.1 ((h x).2 (List.mem_cons_of_mem _ hx))).resolve_left (λq=>by have:=hb x hx;rw[q]at this;omega)
theorem RMAt.takenEq{H:zW}{r:RM}{m:Mem}(h:RMAt H r m)(ok:cF m){l:List Nat}(ht:km m [] l):l=r.L:=by
 have hmem: ∀x,x∈m.takenTo [] m.limit ↔ x∈r.L:=λx=>by
  rw[h.taken x]
  unfold Mem.takenTo
  rw[List.mem_filter,List.mem_range]
  have:=(ok.seg x).taken
  simp
  intro _;omega
 refine nU (t:=λi=>(m.seg i).taken) (ht.perm.nodup_iff.2 ?_) ht.sorted h.order λx=>by rw[ht.perm.mem_iff];exact hmem x
 unfold Mem.takenTo
 exact List.nodup_range.filter _
theorem RMAt.freeEq{H:zW}{r:RM}{m:Mem}(h:RMAt H r m)(ok:cF m){l:List Nat}(ht:km m [] l):m.free=m.limit-r.L.length:=by
 have e:=h.takenEq ok ht
 rw[<-e,ht.perm.length_eq,ok.free]
 unfold Mem.nfree Mem.takenTo
 rw[<-List.countP_eq_length_filter]
 have h1:=List.length_eq_countP_add_countP (λk=>(m.seg k).taken==0) (l:=List.range m.limit)
 rw[List.length_range]at h1
 have h2:List.countP (λa=>decide ¬((m.seg a).taken==0)=true) (List.range m.limit)=List.countP (λi=>decide (0< (m.seg i).taken) && (([]:List Int).isEmpty || decide ((m.seg i).gen∈([]:List Int)))) (List.range m.limit):=by
  congr 1
  funext a
  have:=(ok.seg a).taken
  by_cases hz:(m.seg a).taken=0
  ·simp[hz]
  ·simp[hz];omega
 omega
theorem nE{H:zW}{r:RM}{m:Mem}(h:RMAt H r m)(ok:cF m):
  cL.C (some ⟨r.bm,0,none⟩) none 0 0 H (λv H'=> ∃B c,v=.slice B r.L.length c/\Own H' 3 1 B r.L.length c (ivs (r.L.map λi:Nat=>(i:Int)))/\(∀i∈blks B,H.size<=i)/\Ext H H'):=by
 refine HC.via λR hR=>cL.link ?_
 unfold cL.pt zq
 have hl:=h.len ok
 refine⟨λB n c i A=> ∃j:Nat,i=j/\j<=r.L.length/\n=j/\Own A 3 1 B n c (ivs ((r.L.take j).map λi:Nat=>(i:Int)))/\(∀q∈blks B,H.size<=q)/\Ext H A,λ_ _ _ i _=>(r.L.length-i).toNat,⟨0,rfl,Nat.zero_le _,rfl,gH,by simp,Ext.refl _⟩,?_⟩
 rintro B n c i A ⟨j,rfl,hj,rfl,how,hB,eA⟩
 have hA:=h.ext eA
 refine⟨_,rfl,_,_,_,hA.slAt,?_⟩
 by_cases hlt:(n:Int)< (r.L.length:Int)
 case neg=>
  rw[if_neg hlt]
  have:n=r.L.length:=by omega
  subst this
  rw[List.take_length]at how
  exact hR _ _ ⟨B,c,rfl,how,hB,eA⟩
 rw[if_pos hlt]
 have hlt':n<r.L.length:=by omega
 refine⟨λbv k A'=>bv=true/\k=0/\A'=A,λ_ _ _=>0,⟨rfl,rfl,rfl⟩,?_⟩
 rintro bv k A' ⟨rfl,rfl,rfl⟩
 rw[if_neg (by decide),if_pos rfl]
 obtain⟨a,ha,_,_,_,hat',_⟩:=hA.row (List.getElem?_eq_getElem hlt')
 have h0:=hat' 0 _ rfl
 rw[js]at h0
 refine⟨_,_,_,hA.slAt,a,ha,⟨by omega,hlt⟩,_,by rw[Int.toNat_natCast];exact h0,?_⟩
 intro b A3 hb hA3
 have e3:Ext A' A3:=Ext.push' hA3
 have hs:=eA.size
 refine cZ (ys:=ivs [(r.L[n]:Int)]) (how.ext e3) (dH (aO hb hA3) _ 0 0 (λq hq=>by simp[ivs])) (by simp[ivs]) (qs _) rfl (by omega) ?_
 intro B' c' A4 ho f hn
 have e4:Ext H A4:=(eA.trans e3).fr_trans f hB
 rw[w64 (n:=(n:Int)+1) (by omega)]
 refine⟨⟨n+1,by omega,by omega,rfl,?_,λq hq=>?_,e4⟩,by show((r.L.length:Int)-((n:Int)+1)).toNat< ((r.L.length:Int)-(n:Int)).toNat;omega⟩
 ·rw[List.take_succ_eq_append_getElem hlt',List.map_append]
  have:ivs (List.map (λi:Nat=>(i:Int)) (r.L.take n)++List.map (λi:Nat=>(i:Int)) [r.L[n]])=ivs ((r.L.take n).map λi:Nat=>(i:Int))++ivs [(r.L[n]:Int)]:=by simp[ivs]
  rw[this];exact ho
 ·rcases hn q hq with h1 | h1
  ·exact hB q h1
  ·have:=e3.size;omega

