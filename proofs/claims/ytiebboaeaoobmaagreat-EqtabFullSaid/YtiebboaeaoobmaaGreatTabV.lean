/-
 Laws of tables: a play is collected. Proves nothing of any one statement.
-/
import Derived.Test.YtiebboaeaoobmaaGreatTabP
import Derived.Test.YtiebboaeaoobmaaGreatTabS
import Derived.Test.YtiebboaeaoobmaaGreatCol
set_option linter.unusedVariables false
set_option linter.unusedSimpArgs false
namespace Go.Proofs.YtiebboaeaoobmaaGreat
open Go

theorem pR(k:Nat)(a:Addr)(n:Nat):ptrs k a n++[.pointer (some (a.add (n*1)))]=ptrs k a (n+1):=by
 unfold ptrs
 rw[List.range_succ,List.map_append,List.append_assoc];rfl
def qu(P q:Nat)(b:Blk)(A:zV)(ws:List Int):Prop:= ∃t keys,ws=t::keys/\fk A P b t keys q
theorem Cel.play(P q:Nat)(b:Blk):Cel [P] ((Addr.mk P 0 none).add 1) (qu P q b):=by
 refine⟨λ{T A A' ws} h f hT=>?_,λ{A ws i} h hi=>?_,λ{A ws i} v h hi=>?_,λ{A ws} h j hj=>?_⟩
 ·obtain⟨t,keys,rfl,h⟩:=h
  exact⟨t,keys,rfl,h.keep f (hT P (by simp))⟩
 ·obtain⟨t,keys,rfl,h⟩:=h
  cases i with
  | zero=>exact h.table
  | succ i=>
   have:=h.key (i:=i) (by simpa using hi)
   rw[gj]at this⊢
   rw[show 1+(i+1)*1=2+i*1 by omega]
   exact this
 ·obtain⟨t,keys,rfl,h⟩:=h
  cases i with
  | zero=>
   obtain⟨h1,h2⟩:=h.setT v
   refine⟨h1,λA' hA=>?_⟩
   obtain⟨h3,h4⟩:=h2 A' hA
   exact⟨⟨v,keys,rfl,h3⟩,h4⟩
  | succ i=>
   obtain⟨h1,h2⟩:=h.setK (i:=i) (by simpa using hi) v
   rw[gj]at h1 h2⊢
   rw[show 1+(i+1)*1=2+i*1 by omega]
   refine⟨h1,λA' hA=>?_⟩
   obtain⟨h3,h4⟩:=h2 A' hA
   exact⟨⟨t,keys.set i v,rfl,h3⟩,h4⟩
 ·obtain⟨t,keys,rfl,h⟩:=h
  simp at hj
  rw[hj];exact aY h.cell
theorem qP(F:Int->Int)(h0:F 0=0)(l:List Int)(i:Nat):(l.map F).getD i 0=F (l.getD i 0):=by
 rw[List.getD_eq_getElem?_getD,List.getD_eq_getElem?_getD,List.getElem?_map]
 cases l[i]? with
 | none=>exact h0.symm
 | some v=>rfl
section
variable {H0 A A' H H':zV} {b:Blk} {x x':Hp} {G G':Int->Prop} {f f':PF} {th th':TF} {t ew:Int} {E E':List Ent} {W W':TW} {P q c:Nat} {keys:List Int} {B:zW} {L:List (Int×Int)}
theorem PS.le2{cc c2:Int}(S:PS (J2 cc) H0 A b x G f th t ew E W P q keys B c L)(h:cc<=c2):PS (J2 c2) H0 A b x G f th t ew E W P q keys B c L:=
 ⟨⟨⟨S.ts.hs.e,S.ts.hs.view,S.ts.hs.j.le h,S.ts.hs.pic,S.ts.hs.gf,S.ts.hs.gt,S.ts.hs.hb⟩,S.ts.tb,S.ts.right,S.ts.ep,S.ts.few⟩,S.play,S.ref,S.dis,S.ge,S.rel,S.kw,S.nod⟩
theorem PS.collected{cc g T:Int}{sz:Int->Nat}{young:List Int}{fw:Int->Option Int}{al:List Int}{sz':Int->Nat}{tr:Tr}{s3 s4 s5:Sp}(S:PS (J2 cc) H0 A b x G f th t ew E W P q keys B c L)(hcf:x.sp.cf<=cc)(hG: ∀v,G v ↔ Good x.sp.mem sz v)(hew:ew % 8=0)(hle:ew<=8*x.ep)(hep:x.ep<1000000000)
  (Wk:tp (qu P q b) [P] A A' b x sz g T (t::keys) young fw al sz' tr s3 s4 s5):
  ∃x' G' f' th' t' E' W' keys',PS (J2 (cc+1024)) H0 A' b x' G' f' th' t' ew E' W' P q keys' B c L/\x'.ep=x.ep+1/\x'.en=x.en/\x'.sy=x.sy:=by
 have C:=Wk.col
 have Tr':=C.t
 have ok5:=C.inv.ok.mem
 have hep0:=S.ts.ep
 obtain⟨d1,d2,d3,d4,d5⟩:=S.dis
 obtain⟨ge1,ge2,ge3⟩:=S.ge
 have hblt:=S.ts.hs.blt
 have he:=S.ts.hs.e.size
 have gw: ∀v∈t::keys,GW ⟨x.sp.mem,sz,tr.old,T,(· ∈t::keys)⟩ fw v:=λv hv=>by
  obtain⟨h1,h2⟩:=Tr'.S.V v hv
  exact⟨h1,h2,Tr'.roots v hv⟩
 obtain⟨f',th',hp',tb',cf',ct',tw⟩:=Tr'.table ok5 S.ts.hs.pic S.ts.tb hew (gw t (by simp))
 have hyg:=C.yg
 obtain⟨t',keys',e1,pl'⟩:=Wk.own
 rw[e1,List.map_cons]at hyg
 obtain⟨rfl,rfl⟩:=List.cons.inj hyg
 have imm: ∀v,¬dX v->Fw tr.old fw v=v:=λv h=>ij (λq=>h (l7 q))
 have hwr:IntKind.wrap .u64 (x.ep+1)=x.ep+1:=by
  show(x.ep+1) % 18446744073709551616=_
  omega
 have goodF: ∀v,GW ⟨x.sp.mem,sz,tr.old,T,(· ∈t::keys)⟩ fw v->Good s5.mem (szE tr.old sz') (Fw tr.old fw v):=λv h=>(Tr'.good h.1 h.2.1 h.2.2).1
 have hPS: ∀j∈b.all++[P],H0.size<=j:=λj hj=>by
  rcases List.mem_append.1 hj with h | h
  ·exact S.ts.hs.hb j h
  ·simp at h;omega
 refine⟨{x with sp:=s5,ep:=IntKind.wrap .u64 (x.ep+1)},λv=>Good s5.mem (szE tr.old sz') v,f',th',Fw tr.old fw t,E.map (EntF (Fw tr.old fw)),TWF (Fw tr.old fw) W,keys.map (Fw tr.old fw),⟨⟨⟨S.ts.hs.e.fr_trans Wk.fr hPS,.real Wk.hp C.inv.ok,⟨szE tr.old sz',C.inv,by have:=C.cf;show s5.cf<=_;omega,λ_=>Iff.rfl⟩,hp',λu p e=>?_,λu p e=>?_,S.ts.hs.hb⟩,tb',λe=>?_,?_,by rw[List.length_map];exact S.ts.few⟩,pl',S.ref.keep Wk.fr (λj hj=>⟨λe=>?_,λh=>?_⟩),S.dis,S.ge,⟨?_,S.rel.2⟩,λk hk=>?_,?_⟩,hwr,rfl,rfl⟩
 ·obtain⟨w,h1,rfl⟩:=cf' u p e
  exact goodF w h1
 ·obtain⟨w,h1,rfl⟩:=ct' u p e
  exact goodF w h1
 ·have e:ew=8*(IntKind.wrap .u64 (x.ep+1)):=e
  rw[hwr]at e;omega
 ·show 0<=IntKind.wrap .u64 (x.ep+1)/\IntKind.wrap .u64 (x.ep+1)<_
  rw[hwr];omega
 ·rcases List.mem_append.1 hj with h | h
  ·exact d2 (e▸h)
  ·simp at h;omega
 ·rcases List.mem_append.1 hj with h' | h'
  ·exact d5 j h h'
  ·simp at h';exact d4 (h'▸h)
 ·have h1:(E.map (EntF (Fw tr.old fw))).map (λy=>(y.k,y.v))=(E.map λy=>(y.k,y.v)).map (mapP (Fw tr.old fw)):=by rw[List.map_map,List.map_map];rfl
  rw[h1,S.rel.1,List.map_map]
  refine List.map_congr_left λp hp=>?_
  have h8:Fw tr.old fw (8*p.2)=8*p.2:=imm _ (by unfold dX;omega)
  show(Fw tr.old fw (keys.getD p.1.toNat 0),Fw tr.old fw (8*p.2))=_
  rw[h8,qP _ (imm 0 (by decide))]
 ·obtain⟨k0,hk0,rfl⟩:=List.mem_map.1 hk
  exact⟨Tr'.tri.fw_word Tr'.S (S.kw k0 hk0).1,goodF k0 (gw k0 (by simp[hk0]))⟩
 ·exact iX S.nod (λa ha b hb e=>Tr'.inj (gw a (by simp[ha])) (gw b (by simp[hb])) e)
set_option maxRecDepth 100000 in
theorem qQ{cc:Int}(S:PS (J2 cc) H0 A b x G f th t ew E W P q keys B c L){g:Int}{up:Bool}(hg:0<=g/\g<4)(hcc:cc<1000000000)(hew:ew % 8=0)(hle:ew<=8*x.ep)(hep:x.ep<1000000000)(hen:x.en=.slice none 0 0)(hsy:x.sy=.slice none 0 0):
  bL.C (some ⟨P,0,none⟩) g up A (λv A'=>v=.bool true/\ ∃x' G' f' th' t' E' W' keys',PS (J2 (cc+1024)) H0 A' b x' G' f' th' t' ew E' W' P q keys' B c L/\(x'.ep=x.ep\/x'.ep=x.ep+1)/\x'.en=x.en/\x'.sy=x.sy):=by
 refine HC.via λR hR=>bL.link ?_
 unfold bL.pt zY
 refine⟨_,rfl,?_⟩
 intro b1 H1 hb1 hH1
 have e1:Ext A H1:=Ext.push' hH1
 have g1:=aF hb1 hH1
 have s1:H1.size=A.size+1:=by rw[hH1];simp
 have hkl:=S.play.len
 have hblt:=S.ts.hs.blt
 have hP:=aY S.play.cell
 obtain⟨d1,d2,d3,d4,d5⟩:=S.dis
 have h0:Own H1 95 1 (some ⟨b1,0,none⟩) 1 1 (ptrs 0 ((Addr.mk P 0 none).add 1) 1):=⟨rfl,_,g1,rfl,Nat.le_refl _,rfl,λj hj=>by
  obtain rfl:j=0:=by omega
  rfl⟩
 refine⟨λB n c i A'=>(0<=i/\i<=40)/\n=1+i.toNat/\Ext A A'/\Own A' 95 1 B (1+i.toNat) c (ptrs 0 ((Addr.mk P 0 none).add 1) (1+i.toNat))/\(∀j∈blks B,A.size<=j),λ_ _ _ i _=>(40-i).toNat,
  ⟨⟨by omega,by omega⟩,rfl,e1,h0,λj hj=>by simp at hj;omega⟩,?_⟩
 rintro pB n pc i A2 ⟨hi,rfl,eA,ho,hb⟩
 by_cases hlt:i<40
 ·rw[if_pos hlt]
  refine⟨⟨hi.1,hlt⟩,λb2 H3 hb2 hH3=>?_⟩
  have e3:Ext A2 H3:=Ext.push' hH3
  have hd:((40:Int)-(i+1)).toNat< ((40:Int)-i).toNat:=by omega
  rw[w64 (n:=i+1) (by omega)]
  refine fi (ys:=[.pointer (some (((Addr.mk P 0 none).add 2).add (Int.toNat i*1)))]) (ho.ext e3) (eC (aF hb2 hH3) _ 0 0 (λj hj=>by
   simp only[List.length_cons,List.length_nil]at hj
   obtain rfl:j=0:=by omega
   rfl)) rfl rfl rfl (by omega) ?_
  intro B' c' H4 ho4 f4 hn4
  have z3:=e3.size
  have zA:=eA.size
  have hs:ptrs 0 ((Addr.mk P 0 none).add 1) (1+i.toNat)++[.pointer (some (((Addr.mk P 0 none).add 2).add (Int.toNat i*1)))]=ptrs 0 ((Addr.mk P 0 none).add 1) (1+(i+1).toNat):=by
   rw[show 1+(i+1).toNat=(1+i.toNat)+1 by omega,<-pR]
   rw[gj,gj,show 1+(1+i.toNat)*1=2+i.toNat*1 by omega]
  rw[hs]at ho4
  refine⟨⟨⟨by omega,by omega⟩,by omega,(eA.trans e3).fr_trans f4 hb,by rw[show 1+(i+1).toNat=1+i.toNat+1 by omega]at ho4⊢;exact ho4,λj hj=>?_⟩,hd⟩
  rcases hn4 j hj with r | r
  ·exact hb j r
  ·omega
 rw[if_neg hlt]
 have hi40:i.toNat=40:=by omega
 rw[hi40]at ho⊢
 have S2:=S.ext eA
 have z2:=eA.size
 obtain⟨sz,I,hcf,hG⟩:=S2.ts.hs.j
 obtain⟨-,hp,-⟩:=S2.ts.hs.view.inv
 have htw:=S2.ts.hs.pic.ths _ _ _ S2.ts.tb.tab
 have hgood: ∀w∈t::keys,aG w/\Good x.sp.mem sz w:=λw hw=>by
  rcases List.mem_cons.1 hw with rfl | h
  ·exact⟨htw.word,(hG _).1 (S2.ts.hs.gt _ _ S2.ts.tb.tab)⟩
  ·exact⟨(S2.kw w h).1,(hG _).1 (S2.kw w h).2⟩
 have hlen:(t::keys).length=41:=by simp[hkl]
 have key: ∀T:Int,(T=g\/T=g+1/\g<3)->fJ.C (some ⟨b.h,0,none⟩) g T pB (1+40) pc A2 (λv H5=> ∃x_3:Int,v=.int .i64 x_3/\R (.bool ((x_3==0) || (x_3==2))) H5):=λT hT=>by
  refine HC.mono (ol (Cel.play P q b) (k:=0) (pC:=pc) hp I (by omega) hen hsy ⟨by omega,by omega⟩ ⟨by omega,by omega⟩ ⟨t,keys,rfl,S2.play⟩ (λj hj=>by simp at hj;rw[hj];exact d1) (by rw[hlen];exact ho.src) (by rw[hlen]) (λj hj=>⟨λh=>by have:=hblt j h;have:=hb j hj;omega,λh=>by simp at h;have:=hb j hj;omega,ho.lt j hj⟩) hgood (by omega)) ?_
  rintro v H5 ⟨hno,hyes⟩
  by_cases hst:gI x.sp g T 1=0
  ·obtain⟨rfl,young,fw,al,sz',tr,s3,s4,s5,Wk⟩:=hyes hst
   refine⟨_,rfl,?_⟩
   obtain⟨x',G',f',th',t',E',W',keys',S',h1,h2,h3⟩:=S2.collected hcf hG hew hle hep Wk
   exact hR _ _ ⟨rfl,x',G',f',th',t',E',W',keys',S',.inr h1,h2,h3⟩
  ·obtain⟨rfl,e5⟩:=hno hst
   have h2:gI x.sp g T 1=2:=by
    unfold gI at hst⊢
    rw[if_neg (by omega)]at hst⊢
    by_cases q:x.sp.mem.free-2*x.sp.mem.nyoung g-8<1
    ·rw[if_pos q]
    ·rw[if_neg q]at hst;exact absurd rfl hst
   refine⟨_,rfl,?_⟩
   rw[h2]
   exact hR _ _ ⟨rfl,x,G,f,th,t,E,W,keys,(S2.ext e5).le2 (by omega),.inl rfl,rfl,rfl⟩
 by_cases hu:(up && decide (g<3))=true
 ·rw[if_pos hu]
  have:g<3:=by simp at hu;exact hu.2
  refine⟨_,S2.play.heap,?_⟩
  rw[w64 (n:=g+1) (by omega)]
  exact key (g+1) (.inr ⟨rfl,this⟩)
 ·rw[if_neg hu]
  exact⟨_,S2.play.heap,key g (.inl rfl)⟩
end

def kj(n:Nat)(H0 A:zV)(P:Nat):Prop:= ∃(b:Blk) (x:Hp) (G:Int->Prop) (f:PF) (th:TF) (t e0:Int) (E:List Ent) (W:TW) (q:Nat) (keys:List Int) (B:zW) (c:Nat) (L:List (Int×Int)),
 PS (J2 (200+1024*n)) H0 A b x G f th t (8*e0) E W P q keys B c L/\e0<=x.ep/\x.ep<=n/\x.en=.slice none 0 0/\x.sy=.slice none 0 0
section
variable {H0 A:zV} {P n:Nat}
theorem kj.e(h:kj n H0 A P):Ext H0 A:=by
 obtain⟨b,x,G,f,th,t,e0,E,W,q,keys,B,c,L,S,_⟩:=h
 exact S.ts.hs.e
theorem m8{H:zV}:bY.C H (λv H'=> ∃P,v=.pointer (some ⟨P,0,none⟩)/\kj 0 H H' P):=by
 refine HC.mono (qr (J:=J2 200) (rY (by decide)) (rZ (by decide) (by decide))) ?_
 rintro _ H' ⟨b,x,G,f,th,t,W,P,q,keys,rfl,S,hep,hfr,hen,hsy⟩
 exact⟨P,rfl,b,x,G,f,th,t,x.ep,[],W,q,keys,none,0,[],S,Int.le_refl _,by omega,hen,hsy⟩
theorem se(S:kj n H0 A P)(hn:n<=300){what key val gen:Int}{up:Bool}:
  aO.C (some ⟨P,0,none⟩) what key val gen up A (λv A'=>v=.bool true/\kj (n+1) H0 A' P):=by
 obtain⟨b,x,G,f,th,t,e0,E,W,q,keys,B,c,L,S,h1,h2,hen,hsy⟩:=S
 have O:JOK (J2 (200+1024*n)):=rY (by omega)
 have hwr:=iF (x:=what) (n:=6) (by decide)
 have hc2:(200+1024*(n:Int))<=200+1024*((n+1:Nat):Int):=by omega
 by_cases h13:atR what 6<=3
 ·refine HC.mono (rR O S h13) ?_
  rintro _ A' ⟨x',G',f',th',E',W',B',c',L',rfl,S',mv,_⟩
  have hep:=mv.rest.ep
  exact⟨rfl,b,x',G',f',th',t,x'.ep,E',W',q,keys,B',c',L',S'.le2 hc2,Int.le_refl _,by omega,mv.rest.2.1.trans hen,mv.rest.1.trans hsy⟩
 by_cases h4:atR what 6=4
 ·refine HC.mono (pA O S h4) ?_
  rintro _ A' ⟨rfl,x',G',f',S',r⟩
  have hep:=r.ep
  exact⟨rfl,b,x',G',f',th,t,e0,E,W,q,keys,B,c,L,S'.le2 hc2,by omega,by omega,r.2.1.trans hen,r.1.trans hsy⟩
 have h5:atR what 6=5:=by omega
 refine HC.via λR hR=>aO.link ?_
 unfold aO.pt zY
 intro b0 H1 hb0 hH1
 have e1:Ext A H1:=Ext.push' hH1
 have g1:=aF hb0 hH1
 refine⟨key,by rw[fF g1];rfl,?_⟩
 refine HC.mono (at_c (x:=key) (n:=40) (by decide)) ?_
 rintro _ H2 ⟨rfl,rfl⟩
 refine⟨_,rfl,val,by rw[fF g1];rfl,?_⟩
 refine HC.mono (at_c (x:=val) (n:=1000) (by decide)) ?_
 rintro _ H3 ⟨rfl,rfl⟩
 refine⟨_,rfl,what,by rw[aK g1];rfl,?_⟩
 refine HC.mono (at_c (x:=what) (n:=6) (by decide)) ?_
 rintro _ H4 ⟨rfl,rfl⟩
 refine⟨_,rfl,?_⟩
 rw[if_neg (by omega),if_neg (by omega),if_neg (by omega),if_pos h5]
 have hup:hat H4 ((Addr.mk b0 0 none).add 4)=some (.bool up):=by rw[fF g1];rfl
 refine⟨gen,by rw[fF g1];rfl,up,hup,?_⟩
 refine HC.mono (at_c (x:=gen) (n:=4) (by decide)) ?_
 rintro _ H5 ⟨rfl,rfl⟩
 have hg:=iF (x:=gen) (n:=4) (by decide)
 refine⟨_,rfl,rowH hup,?_⟩
 refine HC.mono (qQ (S.ext e1) hg (by omega) (by omega) (by omega) (by omega) hen hsy) ?_
 rintro _ A' ⟨rfl,x',G',f',th',t',E',W',keys',S',hep,hen',hsy'⟩
 refine⟨_,rfl,hR _ _ ⟨rfl,b,x',G',f',th',t',e0,E',W',q,keys',B,c,L,S'.le2 (by omega),by omega,by omega,hen'.trans hen,hsy'.trans hsy⟩⟩
end
