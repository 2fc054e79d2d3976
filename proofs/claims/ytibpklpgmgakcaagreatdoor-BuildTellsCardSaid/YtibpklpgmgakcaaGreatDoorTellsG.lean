/-
 morainelaw17.drawn, said of heaps. Proves nothing of any one statement.
-/
import Derived.Test.YtibpklpgmgakcaaGreatDoorTellsF
set_option linter.unusedVariables false
set_option linter.unusedSimpArgs false
set_option maxHeartbeats 2000000
namespace Go.Proofs.YtibpklpgmgakcaaGreatDoor
open Go

theorem live_make_e{H0 H:Array Obj}{b:Blk}{x:Hp}(L:Live H0 H b x)(he:x.sp.mem.Even){lB:Option Addr}{lN lC:Nat}{kind more:Int}{ws:List Int}(hkd:1<=kind/\kind<=13)(hmo:0<=more/\more<281474976710656)(hsrc:SrcAt H lB (wvs ws))(hlen:lN=ws.length)(hw: ∀w∈ws,IsWord w)
  (hl:ws.length<=62) (hc:x.sp.mem.count<4611686018427387904):
  obj_Heap_Make.C (some ⟨b.h,0,none⟩) kind more lB lN lC H (λv H'=> ∃(w e:Int) (x':Hp),v=.tuple #[.int .u64 w,.int .i64 e]/\Live H0 H' b x'/\Fr b.all H H'/\((e=0/\MadeOn x x' w kind more ws)\/(e≠0/\x'=x))):=by
 refine HC.mono (obj_Make_c (ws:=ws) L.view hsrc hlen hw (by constructor<;>omega) ⟨by omega,by omega⟩ hc (by omega)) ?_
 rintro _ H1 ⟨rfl,V,f⟩
 obtain⟨w,e,x',e1,e2,hor⟩:=live_make_any L he (kind:=kind) (more:=more) hw ⟨by omega,by omega⟩
 rw[e2]at V
 refine⟨w,e,x',by rw[e1],L.step V f,Live.others f,?_⟩
 rcases hor with⟨h0,_,hm⟩ | h
 ·exact .inl ⟨h0,hm⟩
 ·exact .inr h
theorem live_cons_e{H0 H:Array Obj}{b:Blk}{x:Hp}(L:Live H0 H b x)(he:x.sp.mem.Even){a d:Int}(ha:IsWord a)(hd:IsWord d)(hc:x.sp.mem.count<4611686018427387904):
  obj_Heap_Cons.C (some ⟨b.h,0,none⟩) a d H (λv H'=> ∃(w e:Int) (x':Hp),v=.tuple #[.int .u64 w,.int .i64 e]/\Live H0 H' b x'/\Fr b.all H H'/\((e=0/\ConsAs x x' w 1 a d)\/(e≠0/\x'=x))):=by
 refine HC.mono (obj_Cons_c L.view ha hd hc) ?_
 rintro _ H1 ⟨rfl,V,f⟩
 obtain⟨w,e,x',e1,e2,hor⟩:=live_cons_any L he (tag:=1) (.inl rfl) ha hd
 have e1':putR (some (b,x)) 0 1 [a,d]=(w,e):=e1
 have e2':putO (some (b,x)) 0 1 [a,d]=some (b,x'):=e2
 rw[e2']at V
 exact⟨w,e,x',by rw[e1'],L.step V f,Live.others f,hor⟩
theorem live_weak_e{H0 H:Array Obj}{b:Blk}{x:Hp}(L:Live H0 H b x)(he:x.sp.mem.Even){a d:Int}(ha:IsWord a)(hd:IsWord d)(hc:x.sp.mem.count<4611686018427387904):
  obj_Heap_Weak.C (some ⟨b.h,0,none⟩) a d H (λv H'=> ∃(w e:Int) (x':Hp),v=.tuple #[.int .u64 w,.int .i64 e]/\Live H0 H' b x'/\Fr b.all H H'/\((e=0/\ConsAs x x' w 2 a d)\/(e≠0/\x'=x))):=by
 refine HC.mono (obj_Weak_c L.view ha hd hc) ?_
 rintro _ H1 ⟨rfl,V,f⟩
 obtain⟨w,e,x',e1,e2,hor⟩:=live_cons_any L he (tag:=2) (.inr rfl) ha hd
 have e1':putR (some (b,x)) 1 2 [a,d]=(w,e):=e1
 have e2':putO (some (b,x)) 1 2 [a,d]=some (b,x'):=e2
 rw[e2']at V
 exact⟨w,e,x',by rw[e1'],L.step V f,Live.others f,hor⟩
theorem live_string_e{H0 H:Array Obj}{b:Blk}{x:Hp}(L:Live H0 H b x)(he:x.sp.mem.Even){s:ByteArray}(hl:(runesOf s).length<=62)(hc:x.sp.mem.count<4611686018427387904):
  obj_Heap_String.C (some ⟨b.h,0,none⟩) s H (λv H'=> ∃(w e:Int) (x':Hp),v=.tuple #[.int .u64 w,.int .i64 e]/\Live H0 H' b x'/\Fr b.all H H'/\((e=0/\MadeOn x x' w 2 0 (runesOf s))\/(e≠0/\x'=x))):=by
 refine HC.mono (obj_String_c (s:=s) L.view hc) ?_
 rintro _ H1 ⟨rfl,V,f⟩
 obtain⟨w,e,x',e1,e2,hor⟩:=live_make_any L he (kind:=2) (more:=0) (runesOf_word s) (by decide)
 have e3:strR (some (b,x)) s=(w,e):=by unfold strR;rw[if_neg (by omega),e1]
 have e4:strO (some (b,x)) s=some (b,x'):=by unfold strO;rw[if_neg (by omega),e2]
 rw[e4]at V
 refine⟨w,e,x',by rw[e3],L.step V f,Live.others f,?_⟩
 rcases hor with⟨h0,_,hm⟩ | h
 ·exact .inl ⟨h0,hm⟩
 ·exact .inr h

structure Drawn (H0 H A:Array Obj) (k:Blk) (x:Hp) (wB:Option Addr) (wC:Nat) (tB:Option Addr) (tC:Nat) (ws:List Int) (ts:List TV) (ths:List (Dt×List Int)):Prop where
 live:Live H0 A k x
 even:x.sp.mem.Even
 fr:Fr k.all H A
 wown:Own A 54 1 wB ws.length wC (wvs ws)
 wb: ∀i∈blks wB,H.size<=i
 tg:Tg H.size (blks wB) A tB tC ws.length ts ths
 item: ∀(i:Nat) (h:i<ws.length) (h2:i<ths.length),ItemAt x.sp.mem ws ws[i] ths[i]
 word: ∀w∈ws,IsWord w
 dist: ∀(i j:Nat) (hi:i<ws.length) (hj:j<ws.length) (hi2:i<ths.length) (hj2:j<ths.length),i≠j->ths[i].1.kind=7->ths[j].1.kind=7->ws[i]≠ws[j]
theorem Drawn.watIs{H0 H A:Array Obj}{k:Blk}{x:Hp}{wB:Option Addr}{wC:Nat}{tB:Option Addr}{tC:Nat}{ws:List Int}{ts:List TV}{ths:List (Dt×List Int)}(D:Drawn H0 H A k x wB wC tB tC ws ts ths){a:Int}(ha:0<=a/\a<ws.length):IsWord (wat ws a):=by
 unfold wat;rw[getD_at (by omega)];exact D.word _ (List.getElem_mem _)
theorem wvs_hat{H:Array Obj}{T:TypeId}{B:Option Addr}{n c:Nat}{ws:List Int}(h:Own H T 1 B n c (wvs ws)){a:Int}(ha:0<=a/\a<ws.length): ∃p,B=some p/\hat H (p.add (a.toNat*1))=some (.int .u64 (wat ws a)):=by
 obtain⟨p,hp,hh⟩:=h.at (j:=a.toNat) (v:=.int .u64 (wat ws a)) (by unfold wat;rw[getD_at (by omega)];simp[wvs])
 exact⟨p,hp,by rw[Nat.mul_one];exact hh⟩
def NewIt(H0 H7 A:Array Obj)(k:Blk)(x:Hp)(b4:Nat)(ws:List Int)(ths:List (Dt×List Int))(wv ev:Int):Prop:=
 ∃x':Hp,Live H0 A k x'/\x'.sp.mem.Even/\x'.sp.mem.count<=x.sp.mem.count+1/\Fr (b4::k.all) H7 A/\
  (ev=0->IsWord wv/\Keep x.sp.mem x'.sp.mem/\ ∃(tv:TV) (th:Dt×List Int),A[b4]?=some (.cells tv.cells.toArray 70 (0,0))/\ItemAt x'.sp.mem ws wv th/\TvAt (λj=>H7.size<=j/\j<A.size) A tv th/\
   (th.1.kind=7-> ∀(j:Nat) (h:j<ws.length) (h2:j<ths.length),ths[j].1.kind=7->ws[j]≠wv))
theorem src_ivs_nil(H:Array Obj)(B:Option Addr):SrcAt H B (ivs []):=by cases B<;>simp[ivs,RowAt]
theorem tv_leaf{P:Nat->Prop}{H:Array Obj}{d:Dv}{e:Dt}(h:DatAt P H d e):TvAt P H ⟨d,none,0,0⟩ (e,[]):=⟨h,rfl,src_ivs_nil _ _,by simp⟩
theorem row1{H H1:Array Obj}{b:Nat}{v:Value}{T:TypeId}(hb:b=H.size)(hH:H1=H.push (.cells #[v] T)):RowAt H1 ⟨b,0,none⟩ 0 [v]:=box_row (vs:=[v]) (push_get hb hH)
def tvZ:TV:=⟨leafV (-1) 0,none,0,0⟩
set_option maxRecDepth 100000 in
theorem drawn_c{H0 H:Array Obj}{k:Blk}{x:Hp}{s:Sl ItemOf}(L:Live H0 H k x)(he:x.sp.mem.Even)(hc:x.sp.mem.count<=100)(IT:SlOK 4 itemOfR maxLen H0 s)(hn:s.n<=150):
  morainelaw17_drawn.C (some ⟨k.h,0,none⟩) s.p s.n s.c H (λv H'=> ∃x':Hp,Live H0 H' k x'/\(v=.tuple #[.slice none 0 0,.slice none 0 0,.bool false]\/ ∃(wB:Option Addr) (wC:Nat) (tB:Option Addr) (tC:Nat) (ws:List Int) (ts:List TV) (ths:List (Dt×List Int)),
   v=.tuple #[.slice wB ws.length wC,.slice tB ws.length tC,.bool true]/\Drawn H0 H H' k x' wB wC tB tC ws ts ths/\1<=ws.length/\ws.length<=151)):=by
 refine HC.via λR hR=>morainelaw17_drawn.link ?_
 unfold morainelaw17_drawn.pt
 intro b H1 hb hH1 b2 H2 hb2 hH2
 have e1:=Ext.push' hH1
 have e2:=Ext.push' hH2
 have e12:=e1.trans e2
 have g1:=e2.get (push_get hb hH1)
 have g2:=push_get hb2 hH2
 have hs1:=e1.size
 have hs2:=e2.size
 have hb':b=H.size:=hb
 have hb2':b2=H1.size:=hb2
 have hH1s:H1.size=H.size+1:=by rw[hH1];simp
 have hb2l:=lt_size g2
 refine⟨λwB wN wC tB tN tC i A=> ∃(x':Hp) (ws:List Int) (ts:List TV) (ths:List (Dt×List Int)),(wN=ws.length/\tN=ws.length)/\(0<=i/\i<=s.n)/\(ws.length:Int)=i+1/\x'.sp.mem.count<=100+i/\Drawn H0 H A k x' wB wC tB tC ws ts ths,λ_ _ _ _ _ _ i _=>(s.n-i).toNat,
  ⟨x,[20],[⟨leafV 0 0,none,0,0⟩],[(zD,[])],⟨rfl,rfl⟩,⟨Int.le_refl _,by omega⟩,rfl,by omega,?_⟩,?_⟩
 ·refine⟨L.grow e12,he,e12.fr,⟨rfl,_,g1,rfl,Nat.le_refl _,rfl,λj hj=>?_⟩,by simp[hb'],⟨⟨rfl,_,g2,rfl,Nat.le_refl _,rfl,λj hj=>?_⟩,rfl,rfl,λi hi=>?_,λi h1 h2=>?_⟩,λi h h2=>?_,by simp;decide,λi j hi hj _ _ hij=>?_⟩
  ·rw[<-Array.getElem?_toList];rfl
  ·rw[<-Array.getElem?_toList];rfl
  ·simp at hi⊢;omega
  ·simp at h1;subst h1;exact tv_leaf (dat_leaf (by decide) (by decide))
  ·simp at h;subst h;exact .nil
  ·simp at hi hj;omega
 rintro wB _ wC tB _ tC i A ⟨x',ws,ts,ths,⟨rfl,rfl⟩,hi,hwl,hcnt,D⟩
 by_cases hlt:i< (s.n:Int)
 case neg=>
  rw[if_neg hlt]
  exact hR _ _ ⟨x',D.live,.inr ⟨wB,wC,tB,tC,ws,ts,ths,rfl,D,by omega,by omega⟩⟩
 rw[if_pos hlt]
 have hsA:=D.fr.size
 have ITA:=IT.ext D.live.ext
 have hin:i.toNat<s.xs.length:=by rw[ITA.len];omega
 obtain⟨a,ha,hrow⟩:=ITA.row i.toNat hin
 have hok:=ITA.each s.xs[i.toNat] (List.getElem_mem hin)
 generalize s.xs[i.toNat]=it at hrow hok
 refine⟨a,ha,⟨hi.1,hlt⟩,_,_,_,_,_,_,hrow,λb3 H4 hb3 hH4=>?_⟩
 obtain⟨s5,p5⟩:=box_new (vs:=it.cells) hb3 hH4 rfl rfl
 refine⟨s5,λH5 hH5=>?_⟩
 obtain⟨g5,e5⟩:=p5 H5 hH5
 intro b4 H6 hb4 hH6
 obtain⟨s7,p7⟩:=box_new (vs:=tvZ.cells) hb4 hH6 rfl rfl
 refine⟨s7,λH7 hH7=>?_⟩
 obtain⟨g7,e7⟩:=p7 H7 hH7
 have e57:=e5.trans e7
 have hs57:=e57.size
 have L7:=D.live.grow e57
 have g3:=e7.get g5
 have hb3l:=lt_size g5
 have hb4l:=lt_size g7
 have hb3':b3=A.size:=hb3
 have hb4':b4=H5.size:=hb4
 have hs5:=e5.size
 have hAk: ∀j∈k.all,j<H.size:=λj hj=>L.lt hj
 have hb4k:b4 ∉ k.all:=λh=>by have:=hAk _ h;omega
 have hH0:H0.size<=H.size:=L.ext.size
 have hwo7:Own H7 54 1 wB ws.length wC (wvs ws):=D.wown.ext e57
 have hccx:x'.sp.mem.count<4611686018427387904:=by omega
 refine⟨_,_,_,by rw[box_get g3];rfl,λa1 b1 A'=>(0<=a1/\a1<ws.length)/\(0<=b1/\b1<ws.length)/\H7=A',?_,?_⟩
 ·by_cases hl0:(it.l.n:Int)>0
  ·rw[if_pos hl0]
   have hl7:SlOK 1 (intR .i64) maxLen H7 it.l:=SlOK.ext hok.l e57
   have hle:it.l.n<=9223372036854775807:=hl7.le
   obtain⟨p0,hp0,hr0⟩:=hl7.row 0 (by rw[hl7.len];omega)
   have hr0:=hr0.1
   rw[addr_plus0]at hr0
   refine⟨_,_,_,by rw[box_get g3];rfl,p0,hp0,⟨by decide,hl0⟩,_,hr0,?_⟩
   refine HC.mono (at17_c (by constructor<;>omega)) ?_
   rintro _ _ ⟨r0,rfl,hr0',rfl⟩
   obtain⟨p1,hp1,hr1⟩:=hl7.row (it.l.n-1) (by rw[hl7.len];omega)
   have hr1:=hr1.1
   rw[addr_plus0]at hr1
   have ew:IntKind.wrap .i64 ((it.l.n:Int)-1)=((it.l.n-1:Nat):Int):=by rw[w64 (by constructor<;>omega)];omega
   refine⟨_,rfl,_,_,_,by rw[box_get g3];rfl,_,_,_,by rw[box_get g3];rfl,p1,hp1,by rw[ew];constructor<;>omega,_,by rw[ew,Int.toNat_natCast];exact hr1,?_⟩
   refine HC.mono (at17_c (by constructor<;>omega)) ?_
   rintro _ _ ⟨r1,rfl,hr1',rfl⟩
   exact⟨_,rfl,hr0',hr1',rfl⟩
  ·rw[if_neg hl0];exact⟨⟨Int.le_refl _,by omega⟩,⟨Int.le_refl _,by omega⟩,rfl⟩
 rintro a1 b1 _ ⟨ha1,hb1,rfl⟩
 refine⟨_,hat_box0 g3 rfl,?_⟩
 refine HC.mono (at17_c ⟨by decide,by decide⟩) ?_
 rintro _ _ ⟨kd,rfl,hkd,rfl⟩
 refine⟨_,rfl,λwv ev A'=>NewIt H0 H7 A' k x' b4 ws ths wv ev,?_,?_⟩
 ·-- what is made
  have n4: ∀i∈[b4],H0.size<=i:=λi hi=>by simp at hi;omega
  have n4k: ∀i∈[b4],i ∉ k.all:=λi hi=>by simp at hi;subst hi;exact hb4k
  by_cases h0:kd=0
  ·rw[if_pos h0]
   refine⟨_,by rw[box_get g3];rfl,?_⟩
   refine HC.mono (at17_c ⟨by decide,by decide⟩) ?_
   rintro _ _ ⟨n,rfl,hn',rfl⟩
   obtain⟨q1,q2⟩:=box_puts (o:=0) (n:=6) (vs:=(leafV 4 0).cells) g7 rfl (by show 0+6<=7;omega)
   rw[show(Addr.mk b4 0 none).add 0=Addr.mk b4 0 none from rfl]at q1 q2
   refine⟨_,rfl,q1,λH20 hH20=>?_⟩
   obtain⟨g20,f20⟩:=q2 H20 hH20
   have hw8:IntKind.wrap .u64 (IntKind.wrap .i64 (8*n))=8*n:=by rw[w64 (by omega),wu64 (by omega)]
   rw[hw8]
   have hs20:=f20.size
   by_cases hpos:n>0
   ·rw[if_pos hpos]
    intro b9 H21 hb9 hH21
    have e21:=Ext.push' hH21
    have g9:=push_get hb9 hH21
    have hs21:=e21.size
    have hb9':b9=H20.size:=hb9
    obtain⟨q3,q4⟩:=box_puts (o:=2) (n:=2) (vs:=[.bool false,.slice (some ⟨b9,0,none⟩) 1 1]) (e21.get g20) rfl (by rw[splice_size];show 2+2<=7;omega)
    refine⟨q3,λH22 hH22=>?_⟩
    obtain⟨g22,f22⟩:=q4 H22 hH22
    have hs22:=f22.size
    have f722:Fr [b4] H7 H22:=(f20.trans e21.fr).trans f22
    refine⟨x',L7.keep f722 n4 n4k,D.even,by omega,f722.mono (λi hi _=>by simp at hi;simp[hi]),λ_=>⟨⟨by omega,by omega⟩,Keep.refl _,⟨numV false (some ⟨b9,0,none⟩) 1 1,none,0,0⟩,(.mk 4 0 false (natL n) tE [],[]),g22,.fix hn',tv_leaf (dat_num (c:=1) (n:=1) ⟨?_,?_⟩ ?_ ?_),(λh=>by cases h)⟩⟩
    ·unfold natL;rw[if_pos hpos]
     refine⟨rfl,_,f22.get (by simp;omega) g9,rfl,Nat.le_refl _,rfl,λj hj=>?_⟩
     obtain rfl:j=0:=by omega
     rw[wu32 (by omega)];rfl
    ·intro i hi;simp at hi;omega
    ·unfold natL;rw[if_pos hpos];intro y hy;simp at hy;subst hy;exact⟨by omega,by omega⟩
    ·unfold natL;rw[if_pos hpos];simp
   ·rw[if_neg hpos]
    refine⟨x',L7.keep f20 n4 n4k,D.even,by omega,f20.mono (λi hi _=>by simp at hi;simp[hi]),λ_=>⟨⟨by omega,by omega⟩,Keep.refl _,⟨leafV 4 0,none,0,0⟩,(.mk 4 0 false (natL n) tE [],[]),g20,.fix hn',tv_leaf ?_,(λh=>by cases h)⟩⟩
    unfold natL;rw[if_neg hpos];exact dat_leaf (by decide) (by decide)
  rw[if_neg h0]
  by_cases h1:kd=1
  ·rw[if_pos h1]
   refine HC.mono (live_string_e (s:=abT) L7 D.even (by rw[runes_ab];decide) hccx) ?_
   rintro _ H23 ⟨w,e,x2,rfl,L23,f23,hor⟩
   obtain⟨q1,q2⟩:=box_puts (o:=0) (n:=6) (vs:=(strV 5 abT).cells) (f23.get hb4k g7) rfl (by show 0+6<=7;omega)
   rw[show(Addr.mk b4 0 none).add 0=Addr.mk b4 0 none from rfl]at q1 q2
   refine⟨_,_,rfl,q1,λH24 hH24=>?_⟩
   obtain⟨g24,f24⟩:=q2 H24 hH24
   have hs23:=f23.size
   have fr:Fr (b4::k.all) H7 H24:=(f23.mono (λi hi _=>by simp[hi])).trans (f24.mono (λi hi _=>by simp at hi;simp[hi]))
   rcases hor with⟨he0,M⟩ | ⟨he0,rfl⟩
   ·exact⟨x2,L23.keep f24 n4 n4k,M.even,M.made.count,fr,λ_=>⟨M.thing.word,M.made.keep,⟨strV 5 abT,none,0,0⟩,(.mk 5 0 false [] abT [],[]),g24,.str M.thing,tv_leaf (dat_str (by decide)),(λh=>by cases h)⟩⟩
   ·exact⟨x2,L23.keep f24 n4 n4k,D.even,by omega,fr,λh=>absurd h he0⟩
  rw[if_neg h1]
  by_cases h2:kd=2
  ·rw[if_pos h2]
   obtain⟨q1,q2⟩:=box_puts (o:=0) (n:=1) (vs:=[.int .i64 8]) g7 rfl (by show 0+1<=7;omega)
   rw[show(Addr.mk b4 0 none).add 0=Addr.mk b4 0 none from rfl]at q1 q2
   refine⟨q1,λH25 hH25=>?_⟩
   obtain⟨g25,f25⟩:=q2 H25 hH25
   have hl7:SlOK 1 (intR .i64) maxLen H7 it.l:=SlOK.ext hok.l e57
   refine⟨λlB lN lC kk A'=> ∃(l:List Int) (tB2:Option Addr) (c2:Nat),(lN=l.length/\(l.length:Int)=kk/\l.length<=5)/\(∀j∈l,0<=j/\j<ws.length)/\Fr [b4] H7 A'/\A'[b4]?=some (.cells (TV.cells ⟨leafV 8 0,tB2,l.length,c2⟩).toArray 70 (0,0))/\
     Own A' 54 1 lB l.length lC (wvs (l.map (wat ws)))/\Own A' 3 1 tB2 l.length c2 (ivs l)/\(∀j∈blks lB,H7.size<=j)/\(∀j∈blks tB2,H7.size<=j/\j ∉ blks lB),λ_ _ _ kk _=>(5-kk).toNat,
    ⟨[],none,0,⟨rfl,rfl,by simp⟩,by simp,f25,g25,own_nil,own_nil,by simp,by simp⟩,?_⟩
   rintro lB _ lC kk A2 ⟨l,tB2,c2,⟨rfl,hkk,hl5⟩,hlr,fA2,g4,ow,oi,hlB,htB⟩
   have hsA2:=fA2.size
   have g3A:=fA2.get (b:=b3) (by simp;omega) g3
   have hb4A:=lt_size g4
   refine⟨_,_,_,by rw[box_get g3A];rfl,?_⟩
   by_cases hcond:kk< (it.l.n:Int)/\kk<5
   ·rw[if_pos (by simp[hcond.1,hcond.2])]
    have hl7A:SlOK 1 (intR .i64) maxLen A2 it.l:=SlOK.ext (H:=A) hok.l (e57.fr_trans fA2 (λi hi=>by simp at hi;omega))
    obtain⟨p1,hp1,hr1⟩:=hl7A.row kk.toNat (by rw[hl7A.len];omega)
    have hr1:=hr1.1
    rw[addr_plus0]at hr1
    refine⟨tB2,l.length,c2,by rw[box_get g4];rfl,_,_,_,by rw[box_get g3A];rfl,p1,hp1,⟨by omega,hcond.1⟩,_,hr1,?_⟩
    refine HC.mono (at17_c (by constructor<;>omega)) ?_
    rintro _ _ ⟨r,rfl,hr,rfl⟩
    have hr6:=RowAt.sub (us:=[.slice tB2 l.length c2]) 6 (box_row (vs:=TV.cells ⟨leafV 8 0,tB2,l.length,c2⟩) g4) rfl
    refine⟨_,rfl,hr6,λb10 H28 hb10 hH28=>?_⟩
    have e28:=Ext.push' hH28
    have hs28:=e28.size
    refine⟨e28.rowAt hr6,?_⟩
    refine own_append (ys:=ivs [r]) (oi.ext e28) (row1 hb10 hH28) rfl (allOne_ivs _) rfl (by omega) ?_
    intro p3 c3 H29 ho29 f29 hnew29
    have hs29:=f29.size
    have g429:H29[b4]?=_:=f29.get (λhh=>by have:=(htB _ hh).1;omega) (e28.get g4)
    obtain⟨q5,q6⟩:=box_put g429 6 (.slice p3 (l.length+1) c3) (by show 6<7;omega)
    refine⟨q5,λH30 hH30=>?_⟩
    obtain⟨g30,f30⟩:=q6 H30 hH30
    have hs30:=f30.size
    have hp3: ∀j∈blks p3,H7.size<=j/\j ∉ blks lB:=λj hj=>by
     rcases hnew29 j hj with h | h
     ·exact htB j h
     ·exact⟨by omega,λhh=>by have:=ow.lt j hh;omega⟩
    have ho30:Own H30 3 1 p3 (l.length+1) c3 (ivs (l++[r])):=by
     have:=ho29.keep f30 (λj hj hh=>by simp at hh;have:=(hp3 j hj).1;omega)
     simpa[ivs]using this
    have f2830: ∀{j:Nat},j ∉ blks tB2->j≠b4-> ∀{o:Obj},A2[j]?=some o->H30[j]?=some o:=λh1 h2 o ho=>f30.get (by simp;exact h2) (f29.get h1 (e28.get ho))
    obtain⟨p6,hp6,hh6⟩:=ho30.at (j:=l.length) (v:=.int .i64 r) (by simp[ivs])
    have fA30:Fr [b4] H7 H30:=((fA2.trans e28.fr).trans' f29 (λi hi _=>hi) (λi hi hl=>by have:=(htB i hi).1;omega)).trans f30
    have hwo30:Own H30 54 1 wB ws.length wC (wvs ws):=hwo7.keep fA30 (λj hj hh=>by simp at hh;have:=D.wown.lt j hj;omega)
    obtain⟨p7',hp7',hh7⟩:=wvs_hat hwo30 hr
    have hkn:kk.toNat=l.length:=by omega
    refine⟨p3,l.length+1,c3,by rw[box_get g30];rfl,p6,hp6,⟨by omega,by omega⟩,r,by rw[hkn,Nat.mul_one];exact hh6,p7',hp7',hr,_,hh7,λb11 H31 hb11 hH31=>?_⟩
    have e31:=Ext.push' hH31
    have hs31:=e31.size
    have ow30:Own H30 54 1 lB l.length lC (wvs (l.map (wat ws))):=((ow.ext e28).keep f29 (λj hj hh=>(htB j hh).2 hj)).keep f30 (λj hj hh=>by simp at hh;have:=hlB j hj;omega)
    refine own_append (ys:=wvs [wat ws r]) (ow30.ext e31) (row1 hb11 hH31) rfl (allOne_wvs _) rfl (by omega) ?_
    intro p4 c4 H32 ho32 f32 hnew32
    have hs32:=f32.size
    have hp4: ∀j∈blks p4,j∈blks lB\/H30.size<=j:=λj hj=>by
     rcases hnew32 j hj with h | h
     ·exact .inl h
     ·exact .inr (by omega)
    refine⟨⟨l++[r],p3,c3,⟨by simp,by rw[w64 (by omega)];simp;omega,by simp;omega⟩,λj hj=>?_,?_,?_,?_,?_,λj hj=>?_,λj hj=>⟨(hp3 j hj).1,λhh=>?_⟩⟩,by rw[w64 (by omega)];show(5-(kk+1)).toNat< (5-kk).toNat;omega⟩
    ·rcases List.mem_append.1 hj with h | h
     ·exact hlr j h
     ·simp at h;subst h;exact hr
    ·exact(fA30.trans e31.fr).trans' f32 (λi hi _=>hi) (λi hi hl=>by have:=hlB i hi;omega)
    ·rw[show(l++[r]).length=l.length+1 by simp]
     exact f32.get (λhh=>by have:=hlB _ hh;omega) (e31.get g30)
    ·rw[show(l++[r]).length=l.length+1 by simp];simpa[wvs]using ho32
    ·rw[show(l++[r]).length=l.length+1 by simp]
     exact(ho30.ext e31).keep f32 (λj hj hh=>(hp3 j hj).2 hh)
    ·rcases hp4 j hj with h | h
     ·exact hlB j h
     ·omega
    ·rcases hp4 j hh with h | h
     ·exact(hp3 j hj).2 h
     ·have:=ho30.lt j hj;omega
   ·rw[if_neg (by simpa using hcond)]
    have LA2:=L7.keep fA2 n4 n4k
    refine HC.mono (live_make_e (kind:=1) (more:=0) LA2 D.even (by decide) (by decide) ow.src (by simp) (λw hw=>?_) (by simp;omega) hccx) ?_
    ·simp at hw
     obtain⟨j,hj,rfl⟩:=hw
     exact D.watIs (hlr j hj)
    rintro _ H33 ⟨w,e,x2,rfl,L33,f33,hor⟩
    have hs33:=f33.size
    have fr:Fr (b4::k.all) H7 H33:=(fA2.mono (λi hi _=>by simp at hi;simp[hi])).trans (f33.mono (λi hi _=>by simp[hi]))
    have g433:=f33.get hb4k g4
    refine⟨_,_,rfl,?_⟩
    rcases hor with⟨he0,M⟩ | ⟨he0,rfl⟩
    ·have o33:Own H33 3 1 tB2 l.length c2 (ivs l):=oi.keep f33 (λj hj hh=>by have:=(htB j hj).1;have:=hAk j hh;omega)
     refine⟨x2,L33,M.even,M.made.count,fr,λ_=>⟨M.thing.word,M.made.keep,⟨leafV 8 0,tB2,l.length,c2⟩,(.mk 8 0 false [] tE [],l),g433,.vec M.thing hl5 hlr,⟨dat_leaf (by decide) (by decide),rfl,o33.src,λj hj=>⟨(htB j hj).1,o33.lt j hj⟩⟩,(λh=>by cases h)⟩⟩
    ·exact⟨x2,L33,D.even,by omega,fr,λh=>absurd h he0⟩
  rw[if_neg h2]
  obtain⟨pa,hpa,hha⟩:=wvs_hat hwo7 ha1
  obtain⟨pb,hpb,hhb⟩:=wvs_hat hwo7 hb1
  rw[hpa]at hpb
  obtain rfl:pa=pb:=by simpa using hpb
  by_cases h6:kd=6
  ·rw[if_pos h6]
   refine⟨pa,hpa,ha1,_,hha,hb1,_,hhb,?_⟩
   refine HC.mono (live_weak_e L7 D.even (D.watIs ha1) (D.watIs hb1) hccx) ?_
   rintro _ H34 ⟨w,e,x2,rfl,L34,f34,hor⟩
   have fr:Fr (b4::k.all) H7 H34:=f34.mono (λi hi _=>by simp[hi])
   refine⟨_,_,rfl,?_⟩
   rcases hor with⟨he0,M⟩ | ⟨he0,rfl⟩
   ·exact⟨x2,L34,M.even,M.made.count,fr,λ_=>⟨M.pr.word,M.made.keep,tvZ,(.mk (-1) 0 false [] tE [],[]),f34.get hb4k g7,.weak M.pr,tv_leaf (dat_leaf (by decide) (by decide)),(λh=>by cases h)⟩⟩
   ·exact⟨x2,L34,D.even,by omega,fr,λh=>absurd h he0⟩
  rw[if_neg h6]
  by_cases h7:kd=7
  ·rw[if_pos h7]
   refine⟨pa,hpa,ha1,_,hha,λb12 H35 hb12 hH35=>?_⟩
   have e35:=Ext.push' hH35
   refine HC.mono (live_make_e (kind:=5) (more:=0) (ws:=[wat ws a1]) (L7.grow e35) D.even (by decide) (by decide) (row1 hb12 hH35) rfl (λw hw=>?_) (by simp) hccx) ?_
   ·simp at hw;subst hw;exact D.watIs ha1
   rintro _ H36 ⟨w,e,x2,rfl,L36,f36,hor⟩
   have fr:Fr (b4::k.all) H7 H36:=e35.fr.trans (f36.mono (λi hi _=>by simp[hi]))
   refine⟨_,_,rfl,?_⟩
   rcases hor with⟨he0,M⟩ | ⟨he0,rfl⟩
   ·exact⟨x2,L36,M.even,M.made.count,fr,λ_=>⟨M.thing.word,M.made.keep,tvZ,(.mk (-1) 0 false [] tE [],[]),f36.get hb4k (e35.get g7),.box M.thing,tv_leaf (dat_leaf (by decide) (by decide)),(λh=>by cases h)⟩⟩
   ·exact⟨x2,L36,D.even,by omega,fr,λh=>absurd h he0⟩
  rw[if_neg h7]
  by_cases h8:kd=8
  ·rw[if_pos h8]
   obtain⟨q1,q2⟩:=box_puts (o:=0) (n:=6) (vs:=(leafV 1 0).cells) g7 rfl (by show 0+6<=7;omega)
   rw[show(Addr.mk b4 0 none).add 0=Addr.mk b4 0 none from rfl]at q1 q2
   refine⟨q1,λH37 hH37=>?_⟩
   obtain⟨g37,f37⟩:=q2 H37 hH37
   exact⟨x',L7.keep f37 n4 n4k,D.even,by omega,f37.mono (λi hi _=>by simp at hi;simp[hi]),λ_=>⟨by decide,Keep.refl _,⟨leafV 1 0,none,0,0⟩,(.mk 1 0 false [] tE [],[]),g37,.tru,tv_leaf (dat_leaf (by decide) (by decide)),(λh=>by cases h)⟩⟩
  rw[if_neg h8]
  refine⟨pa,hpa,ha1,_,hha,hb1,_,hhb,?_⟩
  refine HC.mono (live_cons_e L7 D.even (D.watIs ha1) (D.watIs hb1) hccx) ?_
  rintro _ H38 ⟨w,e,x2,rfl,L38,f38,hor⟩
  have hs38:=f38.size
  obtain⟨q1,q2⟩:=box_puts (o:=0) (n:=1) (vs:=[.int .i64 7]) (f38.get hb4k g7) rfl (by show 0+1<=7;omega)
  rw[show(Addr.mk b4 0 none).add 0=Addr.mk b4 0 none from rfl]at q1 q2
  refine⟨_,_,rfl,q1,λH39 hH39=>?_⟩
  obtain⟨g39,f39⟩:=q2 H39 hH39
  have hs39:=f39.size
  intro b13 H40 hb13 hH40
  have e40:=Ext.push' hH40
  have g13:=push_get hb13 hH40
  have hs40:=e40.size
  have hb13':b13=H39.size:=hb13
  have hb13l:=lt_size g13
  obtain⟨q3,q4⟩:=box_put (e40.get g39) 6 (.slice (some ⟨b13,0,none⟩) 2 2) (by rw[splice_size];show 6<7;omega)
  refine⟨q3,λH41 hH41=>?_⟩
  obtain⟨g41,f41⟩:=q4 H41 hH41
  have hs41:=f41.size
  have f3841:Fr [b4] H38 H41:=(f39.trans e40.fr).trans f41
  have fr:Fr (b4::k.all) H7 H41:=(f38.mono (λi hi _=>by simp[hi])).trans (f3841.mono (λi hi _=>by simp at hi;simp[hi]))
  have g1341:=f41.get (b:=b13) (by simp;omega) g13
  rcases hor with⟨he0,M⟩ | ⟨he0,rfl⟩
  ·refine⟨x2,L38.keep f3841 n4 n4k,M.even,M.made.count,fr,λ_=>⟨M.pr.word,M.made.keep,⟨leafV 7 0,some ⟨b13,0,none⟩,2,2⟩,(.mk 7 0 false [] tE [],[a1,b1]),g41,.pair M.pr ha1 hb1,⟨dat_leaf (by decide) (by decide),rfl,rowAt_blk g1341 _ 0 0 (λj hj=>by rw[<-Array.getElem?_toList,Nat.zero_add];rfl),λj hj=>by simp at hj;subst hj;omega⟩,λ_ j hj hj2 h7j hw=>?_⟩⟩
   have hI:=D.item j hj hj2
   generalize ths[j]=th at hI h7j
   generalize ws[j]=wj at hI hw
   subst hw
   cases hI with
   | pair hp _ _=>
    have:=M.made.sepPr hp 0 0 (by omega) (by omega)
    exact this rfl
   | fix h=>cases h7j
   | str h=>cases h7j
   | vec h _ _=>cases h7j
   | weak h=>cases h7j
   | box h=>cases h7j
   | tru=>cases h7j
   | nil=>cases h7j
  ·exact⟨x2,L38.keep f3841 n4 n4k,D.even,by omega,fr,λh=>absurd h he0⟩
 rintro wv ev H10 ⟨x2,L10,he10,hc10,f710,hev⟩
 have hs10:=f710.size
 by_cases he0:ev=0
 case neg=>
  rw[if_neg he0]
  exact hR _ _ ⟨x2,L10,.inl rfl⟩
 rw[if_pos he0]
 obtain⟨hwv,kp,tv,th,g4,hI,hT,h7new⟩:=hev he0
 have fA10:Fr k.all A H10:=(e57.fr (S:=k.all)).trans' f710 (λi hi _=>hi) (λi hi hl=>by
  rcases List.mem_cons.1 hi with h | h
  ·omega
  ·exact h)
 have g310:H10[b3]?=_:=f710.get (λhi=>by
  rcases List.mem_cons.1 hi with h | h
  ·omega
  ·have:=hAk _ h;omega) g3
 have hAw: ∀j∈blks wB,H.size<=j/\j<A.size:=λj hj=>⟨D.wb j hj,D.wown.lt j hj⟩
 have hkw: ∀j∈k.all,j<H.size\/A.size<=j\/j∈blks wB:=λj hj=> .inl (hAk j hj)
 intro b6 H11 hb6 hH11
 have e11:=Ext.push' hH11
 have hs11:=e11.size
 have f11:Fr k.all A H11:=fA10.trans e11.fr
 have hown11:Own H11 54 1 wB ws.length wC (wvs ws):=D.wown.keep f11 (λj hj hh=>by have:=hAk j hh;have:=(hAw j hj).1;omega)
 have tg11:Tg H.size (blks wB) H11 tB tC ws.length ts ths:=D.tg.keep f11 hkw (λj hj=> .inl hj)
 refine own_append (ys:=wvs [wv]) hown11 (row1 hb6 hH11) rfl (allOne_wvs _) rfl (by omega) ?_
 intro p1 c1 H12 ho12 f12 hnew12
 have hs12:=f12.size
 have hp1: ∀j∈blks p1,j∈blks wB\/H11.size<=j:=hnew12
 have tg12:Tg H.size (blks p1) H12 tB tC ws.length ts ths:=tg11.keep f12 (λj hj=> .inr (.inr hj)) hp1
 have g412:H12[b4]?=_:=f12.get (λhh=>by have:=(hAw _ hh).2;omega) (e11.get g4)
 have g312:H12[b3]?=_:=f12.get (λhh=>by have:=(hAw _ hh).2;omega) (e11.get g310)
 have hT12:TvAt (λj=>H7.size<=j/\j<H10.size) H12 tv th:=hT.keep ((e11.fr (S:=blks wB)).trans f12) (λj hj hp=>by have:=(hAw _ hj).2;omega) (λ_ h=>h)
 refine⟨_,_,_,_,_,_,_,_,_,_,_,_,_,box_row (vs:=tv.cells) g412,λb7 H13 hb7 hH13=>?_⟩
 have e13:=Ext.push' hH13
 have hs13:=e13.size
 have hH13s:H13.size=H12.size+1:=by rw[hH13];simp
 have tg13:Tg H.size (blks p1) H13 tB tC ws.length ts ths:=tg12.keep (S:=[]) e13.fr (by simp) (λj hj=> .inl hj)
 have ho12':Own H12 54 1 p1 (ws.length+1) c1 (wvs (ws++[wv])):=by simpa[wvs]using ho12
 have hp1lt: ∀j∈blks p1,j<H12.size:=ho12'.lt
 refine own_append (ys:=tv.cells) tg13.own (rowAt_blk (push_get hb7 hH13) _ 0 0 (λj hj=>by rw[<-Array.getElem?_toList];simp)) rfl rfl rfl (by omega) ?_
 intro p2 c2 H14 ho14 f14 hnew14
 have hs14:=f14.size
 have htBl: ∀j∈blks tB,H.size<=j/\j<A.size:=λj hj=>⟨(D.tg.blk j hj).1,D.tg.own.lt j hj⟩
 have tg14:Tg H.size (blks p1) H14 p2 c2 (ws.length+1) (ts++[tv]) (ths++[th]):=by
  refine tg13.push f14 ho14 hnew14 (by omega) (λj hj=>by have:=hp1lt j hj;omega) ((hT12.keep (S:=[]) e13.fr (by simp) (λ_ h=>h)).keep (S:=[]) (Fr.refl _ _) (by simp) (λj hj=>⟨⟨⟨by omega,by omega⟩,λhh=>?_⟩,λhh=>?_⟩))
  ·rcases hp1 j hh with h | h
   ·have:=(hAw j h).2;omega
   ·omega
  ·have:=(htBl j hh).2;omega
 have ho14w:Own H14 54 1 p1 (ws.length+1) c1 (wvs (ws++[wv])):=(ho12'.ext e13).keep f14 (λj hj hh=>(tg13.blk j hh).2 hj)
 have g314:H14[b3]?=_:=f14.get (λhh=>by have:=(htBl _ hh).2;omega) (e13.get g312)
 have fH14:Fr k.all H H14:=(((D.fr.trans f11).trans' f12 (λj hj _=>hj) (λj hj hl=>by have:=D.wb j hj;omega)).trans e13.fr).trans' f14 (λj hj _=>hj) (λj hj hl=>by have:=(htBl j hj).1;omega)
 have L14:Live H0 H14 k x2:=((((L10.grow e11).keep f12 (λj hj=>by have:=D.wb j hj;omega) (λj hj hh=>by have:=D.wb j hj;have:=hAk j hh;omega)).grow e13).keep f14 (λj hj=>by have:=(htBl j hj).1;omega) (λj hj hh=>by have:=(htBl j hj).1;have:=hAk j hh;omega))
 have hlen2:(ws++[wv]).length=ws.length+1:=by simp
 have hth2:(ths++[th]).length=ws.length+1:=by rw[List.length_append,D.tg.hlen];rfl
 have D14:Drawn H0 H H14 k x2 p1 c1 p2 c2 (ws++[wv]) (ts++[tv]) (ths++[th]):=by
  refine⟨L14,he10,fH14,by rw[hlen2];exact ho14w,λj hj=>?_,by rw[hlen2];exact tg14,λj h h2=>?_,λw hw=>?_,λi1 j1 hi1 hj1 hi2 hj2 hne k1 k2=>?_⟩
  ·rcases hp1 j hj with h | h
   ·exact D.wb j h
   ·omega
  ·by_cases hj:j<ws.length
   ·rw[List.getElem_append_left hj,List.getElem_append_left (by rw[D.tg.hlen];exact hj)]
    exact(((D.item j hj (by rw[D.tg.hlen];exact hj)).keep (λq=>D.live.n64 q) kp)).more
   ·have hjw:j=ws.length:=by rw[hlen2]at h;omega
    have e1:(ws++[wv])[j]=wv:=by simp[hjw]
    have e2:(ths++[th])[j]=th:=by simp[hjw,D.tg.hlen]
    rw[e1,e2];exact hI.more
  ·rcases List.mem_append.1 hw with h | h
   ·exact D.word w h
   ·simp at h;subst h;exact hwv
  ·have gw: ∀(j:Nat) (h:j< (ws++[wv]).length),(ws++[wv])[j]=if h':j<ws.length then ws[j]else wv:=λj h=>by rw[List.getElem_append];split<;>simp
   have gt: ∀(j:Nat) (h:j< (ths++[th]).length),(ths++[th])[j]=if h':j<ths.length then ths[j]else th:=λj h=>by rw[List.getElem_append];split<;>simp
   rw[gw,gw]
   rw[gt]at k1 k2
   have htl:=D.tg.hlen
   rw[hlen2]at hi1 hj1
   by_cases q1:i1<ws.length
   ·rw[dif_pos q1]
    rw[dif_pos (by omega)]at k1
    by_cases q2:j1<ws.length
    ·rw[dif_pos q2]
     rw[dif_pos (by omega)]at k2
     exact D.dist i1 j1 q1 q2 (by omega) (by omega) hne k1 k2
    ·rw[dif_neg q2]
     rw[dif_neg (by omega)]at k2
     exact h7new k2 i1 q1 (by omega) k1
   ·rw[dif_neg q1]
    rw[dif_neg (by omega)]at k1
    by_cases q2:j1<ws.length
    ·rw[dif_pos q2]
     rw[dif_pos (by omega)]at k2
     exact λh=>h7new k1 j1 q2 (by omega) k2 h.symm
    ·omega
 have hi1:IntKind.wrap .i64 (i+1)=i+1:=w64 (by omega)
 have hcx2:x2.sp.mem.count<=100+(i+1):=by omega
 have hm:((s.n:Int)-(i+1)).toNat< ((s.n:Int)-i).toNat:=by omega
 rw[hi1]
 refine⟨_,by rw[box_get g314];rfl,?_⟩
 refine HC.mono (at17_c (by constructor<;>omega)) ?_
 rintro _ _ ⟨kk,rfl,hkk,rfl⟩
 refine⟨_,rfl,_,by rw[box_get g314];rfl,?_⟩
 by_cases hset:it.setv>0
 case neg=>
  rw[if_neg hset]
  exact⟨⟨x2,_,_,_,⟨hlen2.symm,hlen2.symm⟩,⟨by omega,by omega⟩,by rw[hlen2];omega,hcx2,D14⟩,hm⟩
 rw[if_pos hset]
 have hkt:kk.toNat< (ts++[tv]).length:=by rw[tg14.tlen];omega
 have hkh:kk.toNat< (ths++[th]).length:=by rw[tg14.hlen];omega
 have hkw2:kk.toNat< (ws++[wv]).length:=by rw[hlen2];omega
 obtain⟨aT,haT,hatT,hrowT⟩:=tg14.own.elem (f:=TV.cells) (λ_=>rfl) (by decide) hkt
 subst haT
 refine⟨aT,rfl,⟨hkk.1,by omega⟩,_,by have:=rowAt_hat hrowT 0 _ rfl;rw[Nat.add_zero,addr_plus0]at this;exact this,?_⟩
 rw[(tg14.each _ hkt hkh).dat.vkind]
 by_cases h7:(ths++[th])[kk.toNat].1.kind=7
 case neg=>
  rw[if_neg h7]
  exact⟨⟨x2,_,_,_,⟨hlen2.symm,hlen2.symm⟩,⟨by omega,by omega⟩,by rw[hlen2];omega,hcx2,D14⟩,hm⟩
 rw[if_pos h7]
 have hIk:=D14.item kk.toNat hkw2 hkh
 obtain⟨pw,hpw,hatw⟩:=wvs_hat (ws:=ws++[wv]) ho14w (a:=kk) ⟨hkk.1,by rw[hlen2];omega⟩
 have hwk:wat (ws++[wv]) kk=(ws++[wv])[kk.toNat]:=by unfold wat;rw[getD_at hkw2]
 rw[hwk]at hatw
 obtain⟨ka,kd',hth,hPr,hka,hkd'⟩: ∃a d:Int,(ths++[th])[kk.toNat]=(.mk 7 0 false [] tE [],[a,d])/\Pr x2.sp.mem (ws++[wv])[kk.toNat] 1 (wat (ws++[wv]) a) (wat (ws++[wv]) d)/\(0<=a/\a< (ws++[wv]).length)/\(0<=d/\d< (ws++[wv]).length):=by
  generalize (ths++[th])[kk.toNat]=q at hIk h7
  generalize (ws++[wv])[kk.toNat]=u at hIk⊢
  cases hIk with
  | pair h ha hd=>exact⟨_,_,rfl,h,ha,hd⟩
  | fix h=>cases h7
  | str h=>cases h7
  | vec h _ _=>cases h7
  | weak h=>cases h7
  | box h=>cases h7
  | tru=>cases h7
  | nil=>cases h7
 subst hpw
 refine⟨pw,rfl,⟨hkk.1,by omega⟩,_,hatw,?_⟩
 refine HC.mono (live_SetCdr D14.live hPr hwv) ?_
 rintro _ H16 ⟨rfl,L16,f16⟩
 have hs16:=f16.size
 refine⟨_,rfl,?_⟩
 rw[if_pos rfl]
 have hk14: ∀j∈k.all,j<H.size:=hAk
 have tg16:Tg H.size (blks (some pw)) H16 (some aT) c2 (ws.length+1) (ts++[tv]) (ths++[th]):=tg14.keep f16 (λj hj=> .inl (hAk j hj)) (λj hj=> .inl hj)
 obtain⟨aT2,haT2,_,hrow16⟩:=tg16.own.elem (f:=TV.cells) (λ_=>rfl) (by decide) hkt
 obtain rfl:aT=aT2:=by simpa using haT2
 have hTk:=tg16.each _ hkt hkh
 have hsrc:=hTk.src
 rw[hth]at hsrc
 obtain⟨px,hpx,hatx⟩:=ivs_hat hsrc (i:=0) (by simp)
 have hlk:=hTk.len
 rw[hth]at hlk
 refine⟨⟨hkk.1,by omega⟩,_,_,_,by have:=rowAt_hat hrow16 6 _ rfl;rw[Nat.zero_add]at this;exact this,px,hpx,⟨by decide,by rw[hlk];simp⟩,_,hatx,λb8 H17 hb8 hH17=>?_⟩
 have e17:=Ext.push' hH17
 have hs17:=e17.size
 have hb8':b8=H16.size:=hb8
 have hH17s:H17.size=H16.size+1:=by rw[hH17];simp
 have tg17:Tg H.size (blks (some pw)) H17 (some aT) c2 (ws.length+1) (ts++[tv]) (ths++[th]):=tg16.keep (S:=[]) e17.fr (by simp) (λj hj=> .inl hj)
 have ew:IntKind.wrap .i64 (((ws.length:Nat):Int)+1-1)=ws.length:=by rw[w64 (by omega)];omega
 have hwown16:Own H16 54 1 (some pw) (ws.length+1) c1 (wvs (ws++[wv])):=ho14w.keep f16 (λj hj hh=>by
  rcases hp1 j hj with h | h
  ·have:=D.wb j h;have:=hAk j hh;omega
  ·have:=hAk j hh;omega)
 obtain⟨q8,q9⟩:=tg17.setL (k:=kk.toNat) (lB:=some ⟨b8,0,none⟩) (lN:=2) (lC:=2) (l:=[ka,ws.length]) (by omega) rfl (rowAt_blk (push_get hb8 hH17) _ 0 0 (λj hj=>by rw[<-Array.getElem?_toList,ew,Nat.zero_add];rfl)) (λj hj=>by
  simp at hj
  subst hj
  refine⟨⟨⟨by omega,by omega⟩,λhh=>?_⟩,λhh=>?_⟩
  ·have:=hwown16.lt _ hh;omega
  ·have:=tg16.own.lt _ hh;omega)
 refine⟨⟨hkk.1,by omega⟩,q8,λH18 hH18=>?_⟩
 obtain⟨tg18,f18⟩:=q9 H18 hH18
 have hs18:=f18.size
 have haTb:=tg17.blk aT.block (by simp)
 have f1618:Fr [aT.block] H16 H18:=e17.fr.trans f18
 refine⟨⟨x2.setMem (x2.sp.mem.store ((ws++[wv])[kk.toNat] / 8+1) wv).1,ws++[wv],(ts++[tv]).set kk.toNat {(ts++[tv])[kk.toNat]with lB:=some ⟨b8,0,none⟩,lN:=2,lC:=2},(ths++[th]).set kk.toNat ((ths++[th])[kk.toNat].1,[ka,(ws.length:Int)]),⟨hlen2.symm,hlen2.symm⟩,⟨by omega,by omega⟩,by rw[hlen2];omega,?_,?_⟩,hm⟩
 ·show(x2.sp.mem.store _ wv).1.count<=_
  rw[Mem.store_lim.2.2];exact hcx2
 ·refine⟨L16.keep f1618 (λj hj=>by simp at hj;omega) (λj hj hh=>by simp at hj;subst hj;have:=hAk _ hh;omega),Mem.Even.store D14.even _ _,(D14.fr.trans f16).trans' f1618 (λj hj _=>hj) (λj hj hl=>by simp at hj;omega),by rw[hlen2];exact hwown16.keep f1618 (λj hj hh=>by simp at hh;subst hh;exact haTb.2 hj),D14.wb,by rw[hlen2];exact tg18,λj h h2=>?_,D14.word,λi1 j1 hi1 hj1 hi2 hj2 hne k1 k2=>?_⟩
  ·show ItemAt (x2.sp.mem.store ((ws++[wv])[kk.toNat] / 8+1) wv).1 _ _ _
   rw[List.getElem_set]
   by_cases hjk:kk.toNat=j
   ·subst hjk
    rw[if_pos rfl,hth]
    refine .pair (d:=(ws.length:Int)) ?_ hka ⟨by omega,by rw[hlen2];omega⟩
    rw[wat_last]
    have:=hPr.set (v:=wv) D14.live.ok.mem (i:=1) (.inr rfl)
    simpa using this
   ·rw[if_neg hjk]
    have h2':j< (ths++[th]).length:=by simpa using h2
    exact(D14.item j h h2').set hPr (λh7j=>D14.dist j kk.toNat h hkw2 h2' hkh (λe=>hjk e.symm) h7j h7) (λq=>D14.live.n64 q)
  ·rw[List.length_set]at hi2 hj2
   have gs: ∀(j:Nat) (h:j< (ths++[th]).length) (h':j< ((ths++[th]).set kk.toNat ((ths++[th])[kk.toNat].1,[ka,(ws.length:Int)])).length),((ths++[th]).set kk.toNat ((ths++[th])[kk.toNat].1,[ka,(ws.length:Int)]))[j].1.kind=(ths++[th])[j].1.kind:=λj h h'=>by
    rw[List.getElem_set]
    by_cases e:kk.toNat=j
    ·subst e;rw[if_pos rfl]
    ·rw[if_neg e]
   rw[gs _ hi2]at k1
   rw[gs _ hj2]at k2
   exact D14.dist i1 j1 hi1 hj1 hi2 hj2 hne k1 k2
end Go.Proofs.YtibpklpgmgakcaaGreatDoor
