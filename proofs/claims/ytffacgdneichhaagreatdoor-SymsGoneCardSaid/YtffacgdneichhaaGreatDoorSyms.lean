/-
 Things that are made on a heap that is looked after. Proves nothing of any one statement.
-/
import Derived.Test.YtffacgdneichhaaGreatDoorTabC
import Derived.Test.YtffacgdneichhaaGreatDoorListsM
import Derived.Test.YtffacgdneichhaaGreatDoorTxtB
set_option linter.unusedVariables false
set_option linter.unusedSimpArgs false
namespace Go.Proofs.YtffacgdneichhaaGreatDoor
open Go

section
variable {J:Sp->(Int->Prop)->Prop} {H0 H H':zV} {b:Blk} {x x':Hp} {G G':Int->Prop} {f f':PF} {th th':TF}
theorem HS.madeA(O:JOK J)(S:HS J H0 H b x G f th){kind:Int}{ws:List Int}(hkd:1<=kind/\kind<=13)(hl:ws.length<=62)(hw: ∀w∈ws,aJ w)(hg:rawK kind≠3-> ∀w∈ws,G w)(hal:(x.sp.alloc 0 (rawK kind) ((ws.length+1:Nat):Int)).2.2=0)(V:View H' (some ⟨b.h,0,none⟩) (ga (some (b,x)) kind 0 ws))(fr:Fr (own (some (b,x))) H H'):
  ∃w x' G',fV (some (b,x)) kind 0 ws=(w,0)/\HS J H0 H' b x' G' f (th.upd w (kind,ws))/\Rest 1 x x'/\(∀v,G v->G' v)/\G' w/\th w=none/\aJ w/\w % 8=3/\ ¬x.sp.mem.used (w / 8)/\x'.sp.mem.used (w / 8)/\Fr [b.sp,b.m,b.s] H H':=by
 have okS:=O.ok S.j
 obtain⟨h1,h2,h3,h4⟩:=Sp.make_ok0 okS (more:=0) hkd (by decide) hl hw hal
 obtain⟨e1,e2⟩:=kE b x kind 0 ws
 have q1:ga (some (b,x)) kind 0 ws=putO (some (b,x)) (rawK kind) 3 ((0*65536+ws.length*256+kind*8+5)::ws):=by
  unfold ga;rw[if_neg (λq=>q ⟨hkd,by decide⟩),if_neg (by omega)]
 have q2:fV (some (b,x)) kind 0 ws=putR (some (b,x)) (rawK kind) 3 ((0*65536+ws.length*256+kind*8+5)::ws):=by
  unfold fV;rw[if_neg (λq=>q ⟨hkd,by decide⟩),if_neg (by omega)]
 obtain⟨p1,p2,p3,p4⟩:=lL (kind:=kind) (more:=0) (n:=ws.length) hkd ⟨by decide,by decide⟩ hl
 have hr:rawK kind=2\/rawK kind=3:=by unfold rawK;split<;>omega
 obtain⟨G',j1,j2,j3⟩:=O.put S.j (kind:=rawK kind) (tag:=3) (ws:=(0*65536+ws.length*256+kind*8+5)::ws) (.inr (.inr ⟨hr,rfl,_,ws,rfl,p1,by rw[p2],p3⟩)) (λw hwm=>by
  rcases List.mem_cons.1 hwm with rfl | h
  ·exact⟨by omega,by omega⟩
  ·exact hw w h) (λhk3 w hwm=>by
  rcases List.mem_cons.1 hwm with rfl | h
  ·have:=p1.1
   exact O.imm S.j _ (by omega) (by omega)
  ·exact hg hk3 w h)
 have eq1:(x.sp.make kind 0 ws).1=(x.sp.put (rawK kind) 3 ((0*65536+ws.length*256+kind*8+5)::ws)).1:=by
  have:=e2.symm.trans q1
  have h':(some (b,({x with sp:=(x.sp.make kind 0 ws).1}:Hp)):Option (Blk×Hp))=some (b,{x with sp:=(x.sp.put (rawK kind) 3 ((0*65536+ws.length*256+kind*8+5)::ws)).1}):=this
  simp only[Option.some.injEq,Prod.mk.injEq,Hp.mk.injEq,true_and,and_true]at h'
  exact h'
 have eq2:(x.sp.make kind 0 ws).2=(x.sp.put (rawK kind) 3 ((0*65536+ws.length*256+kind*8+5)::ws)).2:=e1.symm.trans q2
 rw[<-eq1]at j1
 rw[<-eq2]at j3
 rw[e2]at V
 have h0: ∀j∈own (some (b,x)),H0.size<=j:=λj hj=>S.hb j (by simp[own]at hj;simp[Blk.all];omega)
 have hnu: ¬x.sp.mem.used ((x.sp.make kind 0 ws).2.1 / 8):=by
  have:=h4.fresh 0 (by omega)
  rw[show(x.sp.make kind 0 ws).2.1 / 8+((0:Nat):Int)=(x.sp.make kind 0 ws).2.1 / 8 by omega]at this
  exact this
 refine⟨_,{x with sp:=(x.sp.make kind 0 ws).1},G',e1.trans (Prod.ext rfl h1),⟨S.e.fr_trans fr h0,V,j1,S.pic.make okS.mem h4 h2,λw' p' e=>j2 _ (S.gf _ _ e),λw' p' e=>?_,S.hb⟩,⟨rfl,rfl,rfl,h4.free,λa h=>(h4.keep.used a h).1,by omega,λh=>absurd h (by omega)⟩,j2,j3 h1,S.pic.freshT h4,h2.word,h2.obj.1.2.1,hnu,h2.usedHead,fr⟩
 by_cases q:w'=(x.sp.make kind 0 ws).2.1
 ·rw[q];exact j3 h1
 ·rw[TF.upd_ne th _ q]at e;exact j2 _ (S.gt _ _ e)
theorem HS.made(O:JOK J)(S:HS J H0 H b x G f th){kind:Int}{ws:List Int}(hkd:1<=kind/\kind<=13)(hl:ws.length<=62)(hw: ∀w∈ws,aJ w)(hg:rawK kind≠3-> ∀w∈ws,G w)(hf:1<=x.sp.mem.free)(V:View H' (some ⟨b.h,0,none⟩) (ga (some (b,x)) kind 0 ws))(fr:Fr (own (some (b,x))) H H'):
  ∃w x' G',fV (some (b,x)) kind 0 ws=(w,0)/\HS J H0 H' b x' G' f (th.upd w (kind,ws))/\Rest 1 x x'/\(∀v,G v->G' v)/\G' w/\th w=none/\aJ w/\w % 8=3/\ ¬x.sp.mem.used (w / 8)/\x'.sp.mem.used (w / 8)/\Fr [b.sp,b.m,b.s] H H':=
 S.madeA O hkd hl hw hg (Sp.alloc_can (O.ok S.j) ⟨by omega,.inr ⟨by unfold rawK;split<;>omega,by omega,by omega⟩⟩ hf) V fr
theorem HS.madeE(O:JOK J)(S:HS J H0 H b x G f th){kind:Int}{ws:List Int}(hkd:1<=kind/\kind<=13)(hl:ws.length<=62)(hw: ∀w∈ws,aJ w)(hg:rawK kind≠3-> ∀w∈ws,G w)(V:View H' (some ⟨b.h,0,none⟩) (ga (some (b,x)) kind 0 ws))(fr:Fr (own (some (b,x))) H H'):
  (∃w x' G',fV (some (b,x)) kind 0 ws=(w,0)/\HS J H0 H' b x' G' f (th.upd w (kind,ws))/\Rest 1 x x'/\(∀v,G v->G' v)/\G' w/\th w=none/\aJ w/\w % 8=3/\ ¬x.sp.mem.used (w / 8)/\x'.sp.mem.used (w / 8)/\Fr [b.sp,b.m,b.s] H H')\/
  (fV (some (b,x)) kind 0 ws=(0,2)/\HS J H0 H' b x G f th/\Fr [b.sp,b.m,b.s] H H'):=by
 by_cases hal:(x.sp.alloc 0 (rawK kind) ((ws.length+1:Nat):Int)).2.2=0
 ·exact .inl (S.madeA O hkd hl hw hg hal V fr)
 right
 have hr:rawK kind=2\/rawK kind=3:=by unfold rawK;split<;>omega
 have h2:=Sp.alloc_two (O.ok S.j) (g:=0) (k:=rawK kind) (n:=((ws.length+1:Nat):Int)) ⟨by omega,.inr ⟨by omega,by omega,by omega⟩⟩ hal
 have q1:ga (some (b,x)) kind 0 ws=putO (some (b,x)) (rawK kind) 3 ((0*65536+ws.length*256+kind*8+5)::ws):=by
  unfold ga;rw[if_neg (λq=>q ⟨hkd,by decide⟩),if_neg (by omega)]
 have q2:fV (some (b,x)) kind 0 ws=putR (some (b,x)) (rawK kind) 3 ((0*65536+ws.length*256+kind*8+5)::ws):=by
  unfold fV;rw[if_neg (λq=>q ⟨hkd,by decide⟩),if_neg (by omega)]
 have hp:x.sp.put (rawK kind) 3 ((0*65536+ws.length*256+kind*8+5)::ws)=(x.sp,0,2):=by
  unfold Sp.put
  have hal': ¬(x.sp.alloc 0 (rawK kind) ((((0*65536+(ws.length:Int)*256+kind*8+5)::ws).length:Nat):Int)).2.2=0:=hal
  have h2':(x.sp.alloc 0 (rawK kind) ((((0*65536+(ws.length:Int)*256+kind*8+5)::ws).length:Nat):Int)).2.2=2:=h2
  rw[if_neg hal',h2']
 have h0: ∀j∈own (some (b,x)),H0.size<=j:=λj hj=>S.hb j (by simp[own]at hj;simp[Blk.all];omega)
 refine⟨?_,⟨S.e.fr_trans fr h0,?_,S.j,S.pic,S.gf,S.gt,S.hb⟩,fr⟩
 ·rw[q2]
  show(x.sp.put _ _ _).2=_
  rw[hp]
 ·rw[q1]at V
  have e:putO (some (b,x)) (rawK kind) 3 ((0*65536+ws.length*256+kind*8+5)::ws)=some (b,x):=by
   show some (b,({x with sp:=(x.sp.put _ _ _).1}:Hp))=_
   rw[hp]
  rw[e]at V;exact V
theorem HS.stringE_c(O:JOK J)(S:HS J H0 H b x G f th){s:ByteArray}(hl:(aX s).length<=62):
  cM.C (some ⟨b.h,0,none⟩) s H (λv H'=>(∃w x' G',v=.tuple #[.int .u64 w,.int .i64 0]/\HS J H0 H' b x' G' f (th.upd w (2,aX s))/\Rest 1 x x'/\(∀v,G v->G' v)/\G' w/\th w=none/\aJ w/\w % 8=3/\Fr [b.sp,b.m,b.s] H H')\/(v=.tuple #[.int .u64 0,.int .i64 2]/\HS J H0 H' b x G f th/\Fr [b.sp,b.m,b.s] H H')):=by
 refine HC.mono (km (s:=s) S.view (O.cnt S.j)) ?_
 rintro _ H1 ⟨rfl,V,fr⟩
 have e4:strO (some (b,x)) s=ga (some (b,x)) 2 0 (aX s):=by unfold strO;rw[if_neg (by omega)]
 have e3:strR (some (b,x)) s=fV (some (b,x)) 2 0 (aX s):=by unfold strR;rw[if_neg (by omega)]
 rw[e4]at V
 rcases S.madeE O (kind:=2) (by decide) hl (iX s) (λh=>absurd (show rawK 2=3 by decide) h) V fr with⟨w,x',G',h1,h2,h3,h4,h5,h6,h7,h8,_,_,h9⟩ | ⟨h1,h2,h3⟩
 ·exact .inl ⟨w,x',G',by rw[e3,h1],h2,h3,h4,h5,h6,h7,h8,h9⟩
 ·exact .inr ⟨by rw[e3,h1],h2,h3⟩
end

def ie(m:Mem)(w:Int):ByteArray×Int:=
  if m.fieldE w 4 0=0 then(if m.isObj (m.get (w / 8+1+0))/\m.typ (m.get (w / 8+1+0))=2 then(gX (m.objWords (m.get (w / 8+1+0))),0)else(⟨#[]⟩,3))else(⟨#[]⟩,3)
theorem kU{H:zV}{hvA:Addr}{o:Option (Blk×Hp)}{w:Int}(V:View H (some hvA) o)(hw:aJ w):
    fC.C (some hvA) w H (λv H'=>v=.tuple #[.string (ie (mof o) w).1,.int .i64 (ie (mof o) w).2]/\Ext H H'):=by
  refine HC.via λR hR=>fC.link ?_
  unfold fC.pt
  rw[onPtr_some]
  refine HC.mono (pY V hw ⟨by decide,by decide⟩) ?_
  rintro _ H1 ⟨rfl,e1⟩
  refine⟨_,_,rfl,?_⟩
  by_cases h:(mof o).fieldE w 4 0=0
  · rw[if_pos h,if_pos h]
    refine HC.mono (oQ (V.ext e1) (V.word _)) ?_
    rintro v H2 ⟨hv,e2⟩
    by_cases h2:(mof o).isObj ((mof o).get (w / 8+1+0))/\(mof o).typ ((mof o).get (w / 8+1+0))=2
    · rw[if_pos h2]at hv;subst hv
      exact⟨_,_,rfl,hR _ _ ⟨by unfold ie;rw[if_pos h,if_pos h2],e1.trans e2⟩⟩
    · rw[if_neg h2]at hv;subst hv
      exact⟨_,_,rfl,hR _ _ ⟨by unfold ie;rw[if_pos h,if_neg h2],e1.trans e2⟩⟩
  · rw[if_neg h]
    exact hR _ _ ⟨by unfold ie;rw[if_neg h],e1⟩
theorem nt{H:zV}{hv:zW}:
    fq.C hv H (λv H'=> ∃p:Nat,v=.func (.func 62) #[] #[.pointer (some ⟨p,0,none⟩)]/\H'[p]?=some (.cells #[.pointer hv] 34 (0,0))/\H.size<=p/\Ext H H'):=by
  refine HC.via λR hR=>fq.link ?_
  unfold fq.pt
  intro b H1 hb hH1
  exact hR _ _ ⟨b,rfl,aL hb hH1,by omega,Ext.push' hH1⟩
theorem oV{H:zV}{yield:Value}{p:Nat}{hvA:Addr}{o:Option (Blk×Hp)}{sB:zW}{sN sC:Nat}{syl:List Int}{R0:zV->Prop}(Inv:Nat->zV->Prop)
    (hsy:hat H (hvA.add 1)=some (.slice sB sN sC)) (hn:sN=syl.length) (hl:syl.length<=1000000) (hw: ∀w∈syl,aJ w) (h0:Inv 0 H)
    (hkeep: ∀k A,Inv k A->View A (some hvA) o/\db A sB (wvs syl)/\A[p]?=some (.cells #[.pointer (some hvA)] 34 (0,0)))
    (hext: ∀k A A',Inv k A->Ext A A'->Inv k A')
    (hskip: ∀k (h:k<syl.length) A,Inv k A->(ie (mof o) syl[k]).2≠0->Inv (k+1) A)
    (hstep: ∀k (h:k<syl.length) A,Inv k A->(ie (mof o) syl[k]).2=0->FC Tryz.prog yield #[.int .u64 syl[k],.string (ie (mof o) syl[k]).1] A (λv A'=> ∃x:Bool,v=.bool x/\(x=true->Inv (k+1) A')/\(x=false->R0 A')))
    (hend: ∀A,Inv syl.length A->R0 A):
    fc.C yield (some ⟨p,0,none⟩) H (λv A=>v=.tuple #[]/\R0 A):=by
  subst hn
  refine HC.via λR hR=>fc.link ?_
  unfold fc.pt zY
  obtain⟨_,_,hp0⟩:=hkeep 0 H h0
  refine⟨_,rfl,some hvA,by rw[aT hp0];rfl,hvA,rfl,sB,syl.length,sC,hsy,λi A=> ∃k:Nat,i=k/\k<=syl.length/\Inv k A,λi _=>(syl.length-i).toNat,⟨0,rfl,by omega,h0⟩,?_⟩
  rintro i A ⟨k,rfl,hk,hI⟩
  by_cases hlt:(k:Int)< (syl.length:Int)
  · rw[if_pos hlt]
    have hlt':k<syl.length:=by omega
    obtain⟨V,hsrc,hp⟩:=hkeep k A hI
    obtain⟨a,rfl,hat'⟩: ∃a,sB=some a/\hat A (a.add (Int.toNat (k:Int)*1))=some (.int .u64 syl[k]):=by
      cases sB with
      | none => have h0 : wvs syl = [] := hsrc
                have:=congrArg List.length h0;simp[wvs]at this;subst this;simp at hlt'
      | some a=>
        refine⟨a,rfl,?_⟩
        rw[show Int.toNat (k:Int)*1=k by omega]
        have:=fB hsrc k (.int .u64 syl[k]) (by simp[wvs,hlt'])
        rwa [Nat.zero_add]at this
    have hmeas:((syl.length:Int)-IntKind.wrap .i64 ((k:Int)+1)).toNat< ((syl.length:Int)-k).toNat:=by rw[w64 (by omega)];omega
    have hwk:IntKind.wrap .i64 ((k:Int)+1)=((k+1:Nat):Int):=by rw[w64 (by omega)];omega
    refine⟨a,rfl,⟨by omega,hlt⟩,syl[k],hat',some hvA,by rw[aT hp];rfl,HC.mono (kU V (hw _ (List.getElem_mem hlt'))) ?_⟩
    rintro _ H2 ⟨rfl,e2⟩
    refine⟨_,_,rfl,?_⟩
    have hI2:=hext k A H2 hI e2
    by_cases hok:(ie (mof o) syl[k]).2=0
    · rw[if_pos hok]
      refine(hstep k hlt' H2 hI2 hok).mono ?_
      rintro v A' ⟨x,rfl,ht,hf⟩
      refine⟨x,rfl,?_⟩
      by_cases hx:x=true
      · rw[if_pos hx]
        exact⟨⟨k+1,hwk,by omega,ht hx⟩,hmeas⟩
      · rw[if_neg hx]
        exact hR _ _ ⟨rfl,hf (by simpa using hx)⟩
    · rw[if_neg hok]
      exact⟨⟨k+1,hwk,by omega,hskip k hlt' H2 hI2 hok⟩,hmeas⟩
  · rw[if_neg hlt]
    obtain rfl:k=syl.length:=by omega
    exact hR _ _ ⟨rfl,hend A hI⟩
def ju(m:Mem)(name:ByteArray)(w:Int):Bool:=decide ((ie m w).2=0) && decide ((ie m w).1.toList=name.toList)
def fi(m:Mem)(syl:List Int)(name:ByteArray):Option Int:=syl.find? (ju m name)
theorem jT{m:Mem}{syl:List Int}{name:ByteArray}{w:Int}(h:fi m syl name=none):fi m (syl++[w]) name=if ju m name w=true then some w else none:=by
  unfold fi at*
  rw[List.find?_append,h,Option.none_or]
  by_cases hw:ju m name w=true
  · rw[if_pos hw];simp[hw]
  · rw[if_neg hw];simp[hw]
theorem oW{m:Mem}{syl:List Int}{name:ByteArray}{w:Int}{k:Nat}(h:fi m (syl.take k) name=some w):fi m syl name=some w:=by
  unfold fi at*
  rw[<-List.take_append_drop k syl,List.find?_append,h];rfl
theorem iG{H:zV}{hvA:Addr}{o:Option (Blk×Hp)}{name:ByteArray}{sB:zW}{sN sC:Nat}{syl:List Int}(V:View H (some hvA) o)
    (hsy:hat H (hvA.add 1)=some (.slice sB sN sC)) (hn:sN=syl.length) (hsrc:db H sB (wvs syl)) (hl:syl.length<=1000000) (hw: ∀w∈syl,aJ w):
    eS.C (some hvA) name H (λv H'=>v=.tuple #[.int .u64 ((fi (mof o) syl name).getD 0),.bool (fi (mof o) syl name).isSome]/\Ext H H'):=by
  refine HC.via λR hR=>eS.link ?_
  unfold eS.pt
  intro b H1 hb hH1 b2 H2 hb2 hH2 b3 H3 hb3 hH3
  have e1:Ext H H1:=Ext.push' hH1
  have e2:Ext H1 H2:=Ext.push' hH2
  have e3:Ext H2 H3:=Ext.push' hH3
  have g:=(e2.trans e3).get (aL hb hH1)
  have g2:=e3.get (aL hb2 hH2)
  have g3:=aL hb3 hH3
  have s1:H1.size=H.size+1:=by rw[hH1];simp
  have s2:H2.size=H1.size+1:=by rw[hH2];simp
  have s3:H3.size=H2.size+1:=by rw[hH3];simp
  rw[onPtr_some]
  refine HC.mono nt ?_
  rintro v H6 ⟨p,rfl,gp,hp,e6⟩
  refine⟨rfl,?_⟩
  intro rc lp H7 hlp hH7 vY hY
  have s6:=e6.size
  have hp6:=bB gp
  have e67:Ext (H6.push (.deferred (some []))) H7:=Ext.push' hH7
  have hl7:H7[lp]?=some (rc .ready none):=aL (by simp;omega) hH7
  have hd7:H7[H6.size]?=some (.deferred (some [])):=e67.get (aL rfl rfl)
  have e7:Ext H6 H7:=(Ext.push H6 _).trans e67
  have s7:H7.size=H6.size+2:=by rw[hH7];simp
  have e03:Ext H H3:=(e1.trans e2).trans e3
  have e07:Ext H H7:=(e03.trans e6).trans e7
  refine FE.of2 (enters_of Tryz.func62 (by kernel_rfl) rfl) rfl (HC.mono (oV (p:=p) (λk A=>fi (mof o) (syl.take k) name=none/\Ext H A/\H7.size<=A.size/\
    Bx [(lp,rc .ready none),(H6.size,.deferred (some [])),(b,.cells #[.string name] 9 (0,0)),(b2,.cells #[.int .u64 0] 33 (0,0)),(b3,.cells #[.bool false] 4 (0,0)),(p,.cells #[.pointer (some hvA)] 34 (0,0))] A)
    (o:=o) (e07.hat hsy) hn hl hw ?_ ?_ ?_ ?_ ?_ ?_) (λv A h=>h.2))
  · refine⟨rfl,e07,Nat.le_refl _,?_⟩
    exact .cons hl7 (.cons hd7 (.cons ((e6.trans e7).get g) (.cons ((e6.trans e7).get g2) (.cons ((e6.trans e7).get g3) (.cons (e7.get gp) .nil)))))
  · rintro k A ⟨_,eA,sA,bx⟩
    exact⟨V.ext eA,hsrc.ext eA,bx.nth 5 rfl⟩
  · rintro k A A' ⟨hf,eA,sA,bx⟩ e
    exact⟨hf,eA.trans e,by have:=e.size;omega,bx.ext e⟩
  · rintro k hk A ⟨hf,eA,sA,bx⟩ hno
    refine⟨?_,eA,sA,bx⟩
    rw[List.take_succ_eq_append_getElem hk,jT hf,if_neg]
    unfold ju;rw[zQ hno];simp
  · rintro k hk A ⟨hf,eA,sA,bx⟩ hok
    refine hY syl[k] _ A _ bx.head ⟨bx.head,λH9 hH9=>?_⟩
    have f9:Fr [lp] A H9:=by rw[hH9];exact Fr.set
    have q9:H9[lp]?=some (rc .busy none):=by rw[hH9];exact jA bx.head
    have bx9:=bx.tail.fr f9 (λq hq=>by simp at hq;rcases hq with rfl | rfl | rfl | rfl | rfl<;>simp<;>omega)
    refine⟨name,by rw[aT (bx9.nth 1 rfl)];rfl,?_⟩
    have hsnoc:fi (mof o) (syl.take (k+1)) name=if ju (mof o) name syl[k]=true then some syl[k]else none:=by rw[List.take_succ_eq_append_getElem hk,jT hf]
    by_cases heq:(ie (mof o) syl[k]).1.toList=name.toList
    · rw[if_pos heq]
      rw[if_pos (by unfold ju;rw[zX hok,zX heq];rfl)]at hsnoc
      have hfound:=oW hsnoc
      obtain⟨c10,p10⟩:=iF (vs:=[.int .u64 syl[k]]) (bx9.nth 2 rfl) rfl rfl
      refine⟨c10,λH10 hH10=>?_⟩
      obtain⟨g10,f10⟩:=p10 H10 hH10
      obtain⟨c11,p11⟩:=iF (vs:=[.bool true]) (f10.get (by simp;omega) (bx9.nth 3 rfl)) rfl rfl
      refine⟨c11,λH11 hH11=>?_⟩
      obtain⟨g11,f11⟩:=p11 H11 hH11
      have q11:=f11.get (b:=lp) (by simp;omega) (f10.get (by simp;omega) q9)
      refine⟨q11,false,rfl,(λh=>by cases h),λ_=> .inr ⟨jA q11,λH13 hH13=>?_⟩⟩
      have f13:Fr [lp] H11 H13:=by rw[hH13];exact Fr.trans Fr.set Fr.set
      have gd:=f13.get (b:=H6.size) (by simp;omega) (f11.get (by simp;omega) (f10.get (by simp;omega) (bx9.nth 0 rfl)))
      refine⟨gd,?_⟩
      have fd:Fr [H6.size] H13 (H13.setIfInBounds H6.size (.deferred none)):=Fr.set
      have F:Fr [lp,b2,b3,H6.size] A (H13.setIfInBounds H6.size (.deferred none)):=
        ((((f9.mono (λi hi _=>by simp at hi;simp[hi])).trans (f10.mono (λi hi _=>by simp at hi;simp[hi]))).trans (f11.mono (λi hi _=>by simp at hi;simp[hi]))).trans (f13.mono (λi hi _=>by simp at hi;simp[hi]))).trans (fd.mono (λi hi _=>by simp at hi;simp[hi]))
      refine⟨syl[k],by rw[aT (fd.get (b:=b2) (by simp;omega) (f13.get (b:=b2) (by simp;omega) (f11.get (b:=b2) (by simp;omega) g10)))];rfl,true,by rw[aT (fd.get (b:=b3) (by simp;omega) (f13.get (b:=b3) (by simp;omega) g11))];rfl,hR _ _ ⟨by rw[hfound];rfl,eA.fr_trans F (λi hi=>by simp at hi;omega)⟩⟩
    · rw[if_neg heq]
      rw[if_neg (by unfold ju;rw[zQ heq];simp)]at hsnoc
      refine⟨q9,true,rfl,λ_=>?_,λh=>by cases h⟩
      have f10:Fr [lp] H9 (bC H9 lp (rc .ready none)):=Fr.set
      have sz:=f9.size
      have sz2:=f10.size
      refine⟨hsnoc,(eA.fr_trans f9 (λi hi=>by simp at hi;omega)).fr_trans f10 (λi hi=>by simp at hi;omega),by omega,.cons (jA q9) (bx9.fr f10 (λq hq=>by simp at hq;rcases hq with rfl | rfl | rfl | rfl | rfl<;>simp<;>omega))⟩
  · rintro A ⟨hf,eA,sA,bx⟩
    rw[List.take_length]at hf
    refine .inl ⟨bx.head,λH13 hH13=>?_⟩
    have f13:Fr [lp] A H13:=by rw[hH13];exact Fr.set
    have bx13:=bx.tail.fr f13 (λq hq=>by simp at hq;rcases hq with rfl | rfl | rfl | rfl | rfl<;>simp<;>omega)
    obtain⟨c14,p14⟩:=iF (vs:=[.int .u64 0]) (bx13.nth 2 rfl) rfl rfl
    refine⟨c14,λH14 hH14=>?_⟩
    obtain⟨g14,f14⟩:=p14 H14 hH14
    obtain⟨c15,p15⟩:=iF (vs:=[.bool false]) (f14.get (by simp;omega) (bx13.nth 3 rfl)) rfl rfl
    refine⟨c15,λH15 hH15=>?_⟩
    obtain⟨g15,f15⟩:=p15 H15 hH15
    have gd:=f15.get (b:=H6.size) (by simp;omega) (f14.get (by simp;omega) (bx13.nth 0 rfl))
    refine⟨gd,?_⟩
    have fd:Fr [H6.size] H15 (H15.setIfInBounds H6.size (.deferred none)):=Fr.set
    have F:Fr [lp,b2,b3,H6.size] A (H15.setIfInBounds H6.size (.deferred none)):=
      (((f13.mono (λi hi _=>by simp at hi;simp[hi])).trans (f14.mono (λi hi _=>by simp at hi;simp[hi]))).trans (f15.mono (λi hi _=>by simp at hi;simp[hi]))).trans (fd.mono (λi hi _=>by simp at hi;simp[hi]))
    refine⟨0,by rw[aT (fd.get (b:=b2) (by simp;omega) (f15.get (b:=b2) (by simp;omega) g14))];rfl,false,by rw[aT (fd.get (b:=b3) (by simp;omega) g15)];rfl,hR _ _ ⟨by rw[hf];rfl,eA.fr_trans F (λi hi=>by simp at hi;omega)⟩⟩
def oX(s:ByteArray):Prop:= ∀(i:Nat) (c:UInt8),s[i]?=some c->c.toNat<128
theorem iH{H:zV}{s:ByteArray}(hl:s.size<=9)(ha:oX s):aP.C s H (λv H'=>v=.bool true/\Ext H H'):=by
  refine HC.via λR hR=>aP.link ?_
  unfold aP.pt zY
  refine⟨λt A=>t.size<=9/\oX t/\H=A,λt _=>t.size,⟨hl,ha,rfl⟩,?_⟩
  rintro t A ⟨hl,ha,hA⟩
  subst hA
  by_cases h0:(t.size:Int)>0
  · rw[if_pos h0]
    have h0':0<t.size:=by omega
    have hc:t[0]?=some t[0]:=getElem?_pos t 0 h0'
    refine⟨t[0],⟨by omega,hc⟩,?_⟩
    rw[if_pos (by have:=ha 0 _ hc;omega)]
    have hsz:(t.extract 1 t.size).size=t.size-1:=by simp
    refine⟨1,t.size,rfl,rfl,by omega,by omega,λq B=>q=false/\H=B,?_,?_⟩
    · rw[if_neg (by omega)];exact⟨rfl,rfl⟩
    rintro _ B ⟨rfl,hB⟩
    subst hB
    refine⟨λu B=>u=t.extract 1 t.size/\H=B,by rw[if_neg (by decide)];exact⟨rfl,rfl⟩,?_⟩
    rintro _ B ⟨rfl,hB⟩
    subst hB
    refine⟨⟨by omega,λi c h=>?_,rfl⟩,by show(t.extract 1 t.size).size<t.size;omega⟩
    have hi:i< (t.extract 1 t.size).size:=by
      rcases Nat.lt_or_ge i (t.extract 1 t.size).size with h' | h'
      · exact h'
      · rw[getElem?_neg _ i (by omega)]at h;cases h
    refine ha (1+i) c ?_
    rw[getElem?_pos (t.extract 1 t.size) i hi]at h
    rw[getElem?_pos t (1+i) (by omega),<-h,ByteArray.getElem_extract]
  · rw[if_neg h0]
    exact hR _ _ ⟨rfl,Ext.refl _⟩
def lT(b:Nat)(A:zV):Nat:=match A[b]? with | some (.stringIter s pos)=>s.size-pos | _=>0
theorem jv{H:zV}{s:ByteArray}(hl:(aX s).length<=1000000):aV.C s H (λv H'=>v=.int .i64 ((aX s).length:Int)/\Ext H H'):=by
  refine HC.via λR hR=>aV.link ?_
  unfold aV.pt zY
  intro b H1 hb hH1
  refine⟨λn A=> ∃(pos k:Nat),n=k/\k<=(aX s).length/\A[b]?=some (.stringIter s pos)/\fe s pos=(aX s).drop k/\Ext H A,λ_ A=>lT b A,⟨0,0,rfl,by omega,aL hb hH1,rfl,Ext.push' hH1⟩,?_⟩
  rintro n A ⟨pos,k,rfl,hk,hit,hrs,eA⟩
  refine⟨s,pos,hit,?_⟩
  by_cases hpz:pos<s.size
  · rw[if_pos hpz]
    intro H4 hH4
    rw[gO hpz]at hrs
    have hklt:k< (aX s).length:=by
      rcases Nat.lt_or_ge k (aX s).length with h | h
      · exact h
      · rw[List.drop_eq_nil_of_le h]at hrs;cases hrs
    rw[List.drop_eq_getElem_cons hklt]at hrs
    have f4:Fr [b] A H4:=by rw[hH4];exact Fr.set
    have hit4:H4[b]?=some (.stringIter s (pos+(Utf8.decode s pos).2)):=by rw[hH4];exact jA hit
    refine⟨⟨_,k+1,by rw[w64 (by omega)];omega,by omega,hit4,(List.cons.inj hrs).2,eA.fr_trans f4 (λi hi=>by simp at hi;omega)⟩,?_⟩
    have hd:=jQ s pos
    have m1:lT b H4=s.size-(pos+(Utf8.decode s pos).2):=by unfold lT;rw[hit4]
    have m2:lT b A=s.size-pos:=by unfold lT;rw[hit]
    show lT b H4<lT b A
    rw[m1,m2];omega
  · rw[if_neg hpz]
    rw[gD hpz]at hrs
    have hkl:k=(aX s).length:=by
      have:=congrArg List.length hrs;rw[List.length_drop,List.length_nil]at this;omega
    subst hkl
    exact hR _ _ ⟨rfl,eA⟩
def SyAt(H0 H:zV)(k:Blk)(x:Hp)(syl:List Int):Prop:= ∃(B:zW) (c:Nat),x.sy=.slice B syl.length c/\Own H 33 1 B syl.length c (wvs syl)/\(∀i∈blks B,i ∉ k.all/\H0.size<=i)/\(∀w∈syl,aJ w)
def syB(v:Value):List Nat:=match v with | .slice B _ _=>blks B | _=> []
theorem SyAt.nil{H0 H:zV}{k:Blk}{x:Hp}(h:x.sy=.slice none 0 0):SyAt H0 H k x []:=⟨none,0,h,gJ,by simp,by simp⟩
theorem SyAt.keep{S:List Nat}{H0 H H':zV}{k:Blk}{x x':Hp}{syl:List Int}(h:SyAt H0 H k x syl)(hx:x'.sy=x.sy)(f:Fr S H H')(hS: ∀i∈S,i∈k.all\/H.size<=i):SyAt H0 H' k x' syl:=by
  obtain⟨B,c,e,o,hB,hw⟩:=h
  exact⟨B,c,hx.trans e,o.keep f (λi hi h=>by
    rcases hS i h with h' | h'
    · exact(hB i hi).1 h'
    · have:=o.lt i hi;omega),hB,hw⟩
theorem HpAt.syAt{H:zV}{b:Blk}{x:Hp}(h:HpAt H b x):hat H ⟨b.h,1,none⟩=some x.sy:=by rw[aT h.h];rfl
theorem HpAt.putSy{H:zV}{b:Blk}{x:Hp}(h:HpAt H b x)(v:Value):aI H ⟨b.h,1,none⟩ 0 1/\HpAt (aO H ⟨b.h,1,none⟩ [v] 0) b {x with sy:=v}/\Fr [b.h] H (aO H ⟨b.h,1,none⟩ [v] 0):=by
  refine⟨bS h.h _ _ _ (by simp),?_⟩
  rw[cR _ _ _ _ _ h.h]
  have f:Fr [b.h] H (bC H b.h (.cells (splice #[.pointer (some ⟨b.c,0,none⟩),x.sy,x.en,.int .u64 x.ep] (1+0) [v]) 48 (0,0))):=Fr.set
  refine⟨⟨h.cd.keep f ?_ ?_ ?_ ?_,h.ne,by rw[bA (bB h.h)];rfl⟩,f⟩<;>have:=h.ne<;>simp<;>omega
theorem k8{H0 H:zV}{k:Blk}{x:Hp}{name:ByteArray}{syl:List Int}{w:Int}(L:Live H0 H k x)(S:SyAt H0 H k x syl)(hl:syl.length<=1000000)(hne:name.toList≠(ByteArray.mk #[]).toList)(hv:aP.C name H (λv A'=>v=.bool true/\Ext H A'))
    (hr:(aX name).length<=62) (hf:fi x.sp.mem syl name=some w):
    bU.C (some ⟨k.h,0,none⟩) name H (λv H'=>v=.tuple #[.int .u64 w,.int .i64 0]/\Ext H H'):=by
  obtain⟨B,c,e,o,hB,hw⟩:=S
  refine HC.via λR hR=>bU.link ?_
  unfold bU.pt
  rw[if_neg hne]
  refine HC.mono hv ?_
  rintro _ H1 ⟨rfl,e1⟩
  refine⟨_,rfl,?_⟩
  rw[if_pos rfl]
  refine HC.mono (jv (by omega)) ?_
  rintro _ H2 ⟨rfl,e2⟩
  refine⟨_,rfl,?_⟩
  rw[if_neg (by omega)]
  have e12:=e1.trans e2
  refine HC.mono (iG (L.grow e12).view (by rw[show(Addr.mk k.h 0 none).add 1=⟨k.h,1,none⟩from rfl,(L.grow e12).at'.syAt,e]) rfl (o.ext e12).src hl hw) ?_
  rintro _ H3 ⟨rfl,e3⟩
  rw[show mof (some (k,x))=x.sp.mem from rfl,hf]
  refine⟨_,_,rfl,?_⟩
  rw[if_pos (by rfl)]
  exact hR _ _ ⟨rfl,e12.trans e3⟩
theorem ji{H0 H:zV}{k:Blk}{x:Hp}{name:ByteArray}{syl:List Int}(L:Live H0 H k x)(he:x.sp.mem.Even)(S:SyAt H0 H k x syl)(hl:syl.length<=1000000)(hne:name.toList≠(ByteArray.mk #[]).toList)(hv:aP.C name H (λv A'=>v=.bool true/\Ext H A'))
    (hr:(aX name).length<=62) (hf:fi x.sp.mem syl name=none) (hfr:2<=x.sp.mem.free) (hc:x.sp.mem.count<1000000000):
    bU.C (some ⟨k.h,0,none⟩) name H (λv H'=> ∃(w s:Int) (x' x1 x2:Hp),v=.tuple #[.int .u64 w,.int .i64 0]/\Live H0 H' k x'/\lP x x1 s 2 0 (aX name)/\lP x1 x2 w 4 0 [s]/\x'.sp=x2.sp/\x'.en=x.en/\x'.ep=x.ep/\SyAt H0 H' k x' (syl++[w])/\(∀q,(x1.sp.mem.seg q).n<=64)/\Fr (k.all++syB x.sy) H H'):=by
  have S0:=S
  obtain⟨B,c,e,o,hB,hw⟩:=S
  refine HC.via λR hR=>bU.link ?_
  unfold bU.pt
  rw[if_neg hne]
  refine HC.mono hv ?_
  rintro _ H1 ⟨rfl,e1⟩
  refine⟨_,rfl,?_⟩
  rw[if_pos rfl]
  refine HC.mono (jv (by omega)) ?_
  rintro _ H2 ⟨rfl,e2⟩
  refine⟨_,rfl,?_⟩
  rw[if_neg (by omega)]
  have e12:=e1.trans e2
  refine HC.mono (iG (L.grow e12).view (by rw[show(Addr.mk k.h 0 none).add 1=⟨k.h,1,none⟩from rfl,(L.grow e12).at'.syAt,e]) rfl (o.ext e12).src hl hw) ?_
  rintro _ H3 ⟨rfl,e3⟩
  rw[show mof (some (k,x))=x.sp.mem from rfl,hf]
  refine⟨_,_,rfl,?_⟩
  rw[if_neg (by decide),onPtr_some]
  have e13:=e12.trans e3
  refine HC.mono (oa (L.grow e13) he hr (by omega) (by omega)) ?_
  rintro _ H4 ⟨s,x1,rfl,L4,M4,f4⟩
  refine⟨_,_,rfl,?_⟩
  rw[if_pos rfl]
  intro b H5 hb hH5
  have e5:Ext H4 H5:=Ext.push' hH5
  refine HC.mono (p9 (L4.grow e5) M4.even (ws:=[s]) (kind:=4) (more:=0) (by decide) (by decide) (dH (aL hb hH5) _ 0 0 (λj hj=>by simp[wvs])) rfl (by simpa using M4.thing.word) (by simp) (by have:=M4.made.free;omega) (by have:=M4.made.count;omega)) ?_
  rintro _ H6 ⟨w,x2,rfl,L6,M6,f6⟩
  refine⟨_,_,rfl,?_⟩
  rw[if_pos rfl]
  have hsy:x2.sy=.slice B syl.length c:=M6.rest.1.trans (M4.rest.1.trans e)
  refine⟨B,syl.length,c,by rw[show(Addr.mk k.h 0 none).add 1=⟨k.h,1,none⟩from rfl,L6.at'.syAt,hsy],λb2 H7 hb2 hH7=>?_⟩
  have e7:Ext H6 H7:=Ext.push' hH7
  have s13:=e13.size
  have s4:=f4.size
  have s5:=e5.size
  have s6:=f6.size
  have o6:=(((o.ext e13).keep f4 (λi hi=>(hB i hi).1)).ext e5).keep f6 (λi hi=>(hB i hi).1)
  have hBlt: ∀i∈blks B,i<H.size:=λi hi=>o.lt i hi
  refine eh (ys:=wvs [w]) (o6.ext e7) (dH (aL hb2 hH7) _ 0 0 (λj hj=>by simp)) (by simp) (gV _) rfl (by omega) ?_
  intro p' c' H8 o8 f8 hnew
  have L7:=L6.grow e7
  have hkall: ∀i∈k.all,i<H.size:=λi hi=>L.lt hi
  have L8:Live H0 H8 k x2:=L7.keep f8 (λi hi=>(hB i hi).2) (λi hi=>(hB i hi).1)
  obtain⟨c9,h9,f9⟩:=L8.at'.putSy (.slice p' (syl.length+1) c')
  rw[show(Addr.mk k.h 0 none).add 1=⟨k.h,1,none⟩from rfl]
  refine⟨c9,λH9 hH9=>?_⟩
  rw[<-hH9]at h9 f9
  have L0:=L.ext.size
  have hp8: ∀i∈blks p',i ∉ k.all/\H0.size<=i:=λi hi=>by
    rcases hnew i hi with h | h
    · exact hB i h
    · have s7:=e7.size
      exact⟨λhk=>by have:=hkall i hk;omega,by omega⟩
  have hkh:k.h∈k.all:=by simp[Blk.all]
  refine hR _ _ ⟨w,s,{x2 with sy:=.slice p' (syl.length+1) c'},x1,x2,rfl,⟨h9,L8.ok,L8.ext.fr_trans f9 (λi hi=>?_),L8.young⟩,M4,M6,rfl,M6.rest.2.1.trans M4.rest.2.1,M6.rest.2.2.trans M4.rest.2.2,
    ⟨p',c',by simp,?_,hp8,λu hu=>?_⟩,L4.n64,?_⟩
  · simp at hi;subst hi;exact L8.young _ hkh
  · have:=o8.keep f9 (λi hi h=>by simp at h;subst h;exact(hp8 _ hi).1 hkh)
    simpa[wvs]using this
  · rcases List.mem_append.1 hu with h | h
    · exact hw u h
    · simp at h;subst h;exact M6.thing.word
  · have hS:syB x.sy=blks B:=by rw[e];rfl
    rw[hS]
    exact((((((e13.fr (S:=k.all++blks B)).trans (f4.mono (λi hi _=>by simp[hi]))).trans e5.fr).trans (f6.mono (λi hi _=>by simp[hi]))).trans e7.fr).trans (f8.mono (λi hi _=>by simp[hi]))).trans (f9.mono (λi hi _=>by simp at hi;subst hi;simp[hkh]))
