/-
  A thing's knot, whole, and put behind the others (audit.Picture). Proves nothing of any one statement.
-/
import Derived.Test.YtojbbgcjiaphjaaGreatAuK
set_option linter.unusedVariables false
set_option linter.unusedSimpArgs false
namespace Go.Proofs.YtojbbgcjiaphjaaGreat
open Go
open Go.ChangeShapes Go.WideShapes

def lK(m:Mem)(w:Int)(i:Nat):Int:=if m.fieldE w (m.typ w) i=0 then m.get (w / 8+1+i)else 0
def pN(m:Mem)(w:Int):Nat:=(m.len w-(bQ m w).length).toNat
def kJ(m:Mem)(L:List Int)(w:Int):Int×Int×Int×List Int×List Int:=
  (w % 8,m.typ w,m.more w,(bQ m w).map (nq m L w)++(List.range (pN m w)).map (lK m w),(bQ m w).map (isF m L w)++(List.range (pN m w)).map (λ_=>(0:Int)))
structure iE (A:zV) (oB:zW) (oN oC:Nat) (ks:List eM) (T:List Nat):Prop where
  len:oN=ks.length
  own:Own A 61 5 oB oN oC (ks.flatMap eM.cells)
  each: ∀k∈ks,k.words.xs.length=k.words.n/\Own A 40 1 k.words.p k.words.n k.words.c (wvs k.words.xs)/\k.is.xs.length=k.is.n/\Own A 3 1 k.is.p k.is.n k.is.c (ivs k.is.xs)/\ ∀j∈blks k.words.p++blks k.is.p,j∈T
  dis: ∀j∈T,j ∉ blks oB
  lt: ∀j∈T,j<A.size
theorem iE.keep{S:List Nat}{A A':zV}{oB:zW}{oN oC:Nat}{ks:List eM}{T:List Nat}(h:iE A oB oN oC ks T)(f:Fr S A A')(h1: ∀j∈blks oB,j ∉ S)(h2: ∀j∈T,j ∉ S):iE A' oB oN oC ks T:=by
  refine⟨h.len,h.own.keep f h1,λk hk=>?_,h.dis,λj hj=>Nat.lt_of_lt_of_le (h.lt j hj) f.size⟩
  obtain⟨a1,a2,a3,a4,a5⟩:=h.each k hk
  exact⟨a1,a2.keep f (λj hj=>h2 j (a5 j (List.mem_append_left _ hj))),a3,a4.keep f (λj hj=>h2 j (a5 j (List.mem_append_right _ hj))),a5⟩
theorem iE.ext{A A':zV}{oB:zW}{oN oC:Nat}{ks:List eM}{T:List Nat}(h:iE A oB oN oC ks T)(e:Ext A A'):iE A' oB oN oC ks T:=h.keep (S:=[]) e.fr (by simp) (by simp)
theorem nr(k:eM):gK k.cells=true:=rfl
set_option maxRecDepth 100000 in
theorem pO{A:zV}{b:Blk}{x:Hp}{bh bw nb oN oC:Nat}{oB:zW}{w more:Int}{ws is:List Int}{U T:List Nat}{ks:List eM}{Kp:zW->Nat->zV->Prop}
    (hp:HpAt A b x) (ok:SpOK x.sp) (g0:A[bh]?=some (.cells #[.pointer (some ⟨b.h,0,none⟩)] 28 (0,0))) (g5:A[bw]?=some (.cells #[.int .u64 w] 40 (0,0))) (hw:aP w)
    (Kn:KnAt A nb (w % 8) (x.sp.mem.typ w) more ws is U) (hlen:ws.length<=1000/\is.length=ws.length) (O:iE A oB oN oC ks T) (hoN:oN<=100000000)
    (hd: ∀j∈nb::U,j ∉ b.all/\j≠bh/\j≠bw/\j ∉ T/\j ∉ blks oB)
    (hK: ∀ap apC A' kn U',iE A' ap (oN+1) apC (ks++[kn]) (U'++T)->keyK kn=(w % 8,x.sp.mem.typ w,more,ws++(List.range (x.sp.mem.len w-ws.length).toNat).map (lK x.sp.mem w),is++(List.range (x.sp.mem.len w-ws.length).toNat).map (λ_=>(0:Int)))->
      Fr (nb :: U ++ blks oB) A A' → (∀ j ∈ U', j ∈ U ∨ A.size ≤ j) → (∀ j ∈ blks ap, j ∈ blks oB ∨ A.size ≤ j) → Kp ap apC A') :
            ∃(I69:zw) (m69:Int->zV->Nat),I69 0 A/\ ∀(i:Int) (H31:zV),I69 i H31->
            ∃xB:zW,∃xN:Nat,∃xC:Nat,hat H31 ((Addr.mk nb 0 none).add 3)=some (.slice xB xN xC)/\
            ∃x_27:zW,hat H31 (Addr.mk bh 0 none)=some (.pointer x_27)/\
            ∃x_28:Int,hat H31 (Addr.mk bw 0 none)=some (.int .u64 x_28)/\
            cG.C x_27 x_28 H31 (λv_15 H32=> ∃x_29:Int,v_15=.int .i64 x_29/\aS H32 ((Addr.mk nb 0 none).add 3) 0 [.slice xB xN xC]/\
             if(xN:Int)<x_29 then(
              ∃x_30:zW,hat H32 (Addr.mk bh 0 none)=some (.pointer x_30)/\
              ∃x_31:Int,hat H32 (Addr.mk bw 0 none)=some (.int .u64 x_31)/\
              ∃x_32:Int,hat H32 ((Addr.mk nb 0 none).add 1)=some (.int .i64 x_32)/\
              cH.C x_30 x_31 x_32 i H32 (λv_16 H33=> ∃ra:Int,∃rb_2:Int,v_16=.tuple #[.int .u64 ra,.int .i64 rb_2]/\
               aT.C (some (Addr.mk nb 0 none)) ra 0 H33 (λ_ H34=>
                (I69 (IntKind.wrap .i64 (i+1)) H34/\m69 (IntKind.wrap .i64 (i+1)) H34<m69 i H31))))
             else
             ∃xTag_2:Int,∃xType_2:Int,∃xMore_2:Int,∃xWordsB_2:zW,∃xWordsN_2:Nat,∃xWordsC_2:Nat,∃xIsB_2:zW,∃xIsN_2:Nat,∃xIsC_2:Nat,aS H32 (Addr.mk nb 0 none) 0 [.int .i64 xTag_2,.int .i64 xType_2,.int .u64 xMore_2,.slice xWordsB_2 xWordsN_2 xWordsC_2,.slice xIsB_2 xIsN_2 xIsC_2]/\
             ∀(b_7:Nat) (H35:zV),b_7=H32.size->H35=H32.push (.cells #[.int .i64 xTag_2,.int .i64 xType_2,.int .u64 xMore_2,.slice xWordsB_2 xWordsN_2 xWordsC_2,.slice xIsB_2 xIsN_2 xIsC_2] 61)->
             dH 5 61 72 [.int .i64 0,.int .i64 0,.int .u64 0,.slice none 0 0,.slice none 0 0] oB oN oC (some (Addr.mk b_7 0 none)) 1 H35 (λap apC H36=>Kp ap apC H36)):=by
  have hlr:=x.sp.mem.len_rng w
  have hUl:=Kn.lt
  have hm:mof (some (b,x))=x.sp.mem:=rfl
  refine⟨λi A1=> ∃(k:Nat) (U1:List Nat),i=k/\(k=0\/(ws.length:Int)+k<=x.sp.mem.len w)/\Fr (nb::U) A A1/\KnAt A1 nb (w % 8) (x.sp.mem.typ w) more (ws++(List.range k).map (lK x.sp.mem w)) (is++(List.range k).map (λ_=>(0:Int))) U1/\ ∀j∈U1,j∈U\/A.size<=j,λi _=>(x.sp.mem.len w-(ws.length+i)).toNat,
    ⟨0,U,rfl,.inl rfl,Fr.refl _ _,by simpa using Kn,λj hj=> .inl hj⟩,?_⟩
  rintro _ A1 ⟨k,U1,rfl,hk,f1,K1,hU1⟩
  have hp1:=hp.keep f1 (λi hi=>(hd i hi).1)
  have h0:=f1.get (λh=>(hd _ h).2.1 rfl) g0
  have h5:=f1.get (λh=>(hd _ h).2.2.1 rfl) g5
  have K1':=K1
  obtain⟨B1,c1,B2,c2,k1,k2,k3,k4,kU,k6⟩:=K1'
  have hl1:(ws++(List.range k).map (lK x.sp.mem w)).length=ws.length+k:=by simp
  have hl2:(is++(List.range k).map (λ_=>(0:Int))).length=ws.length+k:=by simp[hlen.2]
  refine⟨B1,_,c1,cD k1 3,_,by rw[aI h0];rfl,w,by rw[aI h5];rfl,HC.mono (oK (.real hp1 ok) hw) ?_⟩
  rw[hm]
  rintro _ A2 ⟨rfl,e2⟩
  have hp2:=hp1.ext e2
  have k1':=e2.get k1
  have K2:=K1.ext e2
  have z1:=f1.size
  have z2:=e2.size
  refine⟨_,rfl,⟨by rw[show Addr.add _ 0=_ from rfl];exact cD k1' 3,trivial⟩,?_⟩
  rw[hl1]at k1'⊢
  rw[hl2]at k1'
  by_cases hlt:((ws.length+k:Nat):Int)<x.sp.mem.len w
  · rw[if_pos hlt]
    refine⟨_,by rw[aI (e2.get h0)];rfl,w,by rw[aI (e2.get h5)];rfl,x.sp.mem.typ w,cD k1' 1,?_⟩
    refine HC.mono (oL (.real hp2 ok) hw ⟨by omega,by omega⟩) ?_
    rw[hm]
    rintro _ A3 ⟨rfl,e3⟩
    refine⟨_,_,rfl,HC.mono (pM (K2.ext e3) ⟨by omega,by omega⟩) ?_⟩
    rintro _ A4 ⟨U4,K4,f4,hU4⟩
    have hwr:IntKind.wrap .i64 ((k:Int)+1)=((k+1:Nat):Int):=by rw[w64 (n:=(k:Int)+1) (by omega)];omega
    rw[hwr]
    have z3:=e3.size
    refine⟨⟨k+1,U4,rfl,by omega,(f1.trans' ((e2.trans e3).fr.trans f4) (λi hi _=>hi) (λi hi hl=>?_)),?_,λj hj=>?_⟩,by show(x.sp.mem.len w-((ws.length:Int)+((k+1:Nat):Int))).toNat< (x.sp.mem.len w-((ws.length:Int)+(k:Int))).toNat;omega⟩
    · rcases List.mem_cons.1 hi with h | h
      · simp[h]
      · rcases hU1 i h with q | q
        · simp[q]
        · omega
    · have e1:ws++(List.range (k+1)).map (lK x.sp.mem w)=(ws++(List.range k).map (lK x.sp.mem w))++[putW (if x.sp.mem.fieldE w (x.sp.mem.typ w) (k:Int)=0 then x.sp.mem.get (w / 8+1+(k:Int))else 0) 0]:=by
        rw[List.range_succ,List.map_append,List.append_assoc];rfl
      have e2:is++(List.range (k+1)).map (λ_=>(0:Int))=(is++(List.range k).map (λ_=>(0:Int)))++[0]:=by
        rw[List.range_succ,List.map_append,List.append_assoc];rfl
      rw[e1,e2];exact K4
    · rcases hU4 j hj with h | h
      · rcases hU1 j h with q | q
        · exact .inl q
        · exact .inr q
      · right;omega
  · rw[if_neg hlt]
    have hk0:k=(x.sp.mem.len w-ws.length).toNat:=by omega
    refine⟨_,_,_,_,_,_,_,_,_,jn k1',λb7 H35 hb7 hH35=>?_⟩
    have e35:Ext A2 H35:=Ext.push' hH35
    have z35:H35.size=A2.size+1:=by rw[hH35];simp
    have O1:iE A2 oB oN oC ks T:=(O.keep f1 (λj hj h=>(hd j h).2.2.2.2 hj) (λj hj h=>(hd j h).2.2.2.1 hj)).ext e2
    have e235:=e35
    obtain⟨kn,hkn⟩: ∃kn:eM,kn=⟨w % 8,x.sp.mem.typ w,more,⟨B1,ws.length+k,c1,ws++(List.range k).map (lK x.sp.mem w)⟩,⟨B2,ws.length+k,c2,is++(List.range k).map (λ_=>(0:Int))⟩⟩:=⟨_,rfl⟩
    refine fG (ys:=kn.cells) (O1.own.ext e35) (by rw[hkn];exact jn (aG hb7 hH35)) rfl (nr kn) rfl (by omega) ?_
    intro ap apC H36 o36 f36 hnew
    have z36:=f36.size
    have hoB:=O1.own.lt
    have hU1d: ∀j∈U1,j ∉ blks oB:=λj hj h=>by
      rcases hU1 j hj with q | q
      · exact(hd j (by simp[q])).2.2.2.2 h
      · have:=O.own.lt j h;omega
    have hU1l: ∀j∈U1,j<A2.size:=λj hj=>by have:=K1.lt j (by simp[hj]);omega
    have hTl:=O.lt
    have hap: ∀j∈blks ap,j∈blks oB\/A2.size<=j:=λj hj=>by
      rcases hnew j hj with h | h
      · exact .inl h
      · right;omega
    subst kU
    refine hK ap apC H36 kn (blks B1++blks B2) ⟨?_,?_,?_,?_,?_⟩ ?_ ?_ hU1 (λj hj=>?_)
    · rw[O1.len];simp
    · rw[List.flatMap_append]
      have e:[kn].flatMap eM.cells=kn.cells:=by simp
      rw[e];exact o36
    · intro k' hk'
      rcases List.mem_append.1 hk' with h | h
      · obtain⟨a1,a2,a3,a4,a5⟩:=O1.each k' h
        refine⟨a1,(a2.ext e35).keep f36 (λj hj=>O1.dis j (a5 j (List.mem_append_left _ hj))),a3,(a4.ext e35).keep f36 (λj hj=>O1.dis j (a5 j (List.mem_append_right _ hj))),λj hj=>List.mem_append_right _ (a5 j hj)⟩
      · simp at h
        rw[h,hkn]
        have e12:=e2.trans e35
        rw[hl1]at k2
        rw[hl2]at k3
        exact⟨hl1,(k2.ext e12).keep f36 (λj hj=>hU1d j (List.mem_append_left _ hj)),hl2,(k3.ext e12).keep f36 (λj hj=>hU1d j (List.mem_append_right _ hj)),λj hj=>List.mem_append_left _ hj⟩
    · intro j hj h
      rcases List.mem_append.1 hj with q | q
      · rcases hap j h with r | r
        · exact hU1d j q r
        · have:=hU1l j q;omega
      · rcases hap j h with r | r
        · exact O1.dis j q r
        · have:=hTl j q;omega
    · intro j hj
      rcases List.mem_append.1 hj with q | q
      · have:=hU1l j q;omega
      · have:=hTl j q;omega
    · rw[hkn,<-hk0];rfl
    · exact(f1.mono (λi hi _=>List.mem_append_left _ hi)).trans ((e2.trans e35).fr.trans (f36.mono (λi hi _=>List.mem_append_right _ hi)))
    · rcases hap j hj with r | r
      · exact .inl r
      · right;omega
open Go.ChangeShapes Go.WideShapes

theorem ld(m:Mem)(w:Int):(bQ m w).length<=63:=by
  have h1:=hP m w
  unfold bQ
  split
  · simp
  · rw[List.length_map,List.length_range]
    have:0<=fQ m w:=by unfold fQ;split<;>omega
    omega
theorem mL{m:Mem}(ok:bO m){w a v:Int}(h:(a,v)∈bQ m w):aP v:=by
  unfold bQ at h
  split at h
  · cases h
  · obtain⟨i,_,hq⟩:=List.mem_map.1 h
    cases hq
    exact Mem.read_word ok _
set_option maxRecDepth 100000 in
set_option maxHeartbeats 1000000 in
theorem kK{H16:zV}{b:Blk}{x:Hp}{bh bw b2 nb mr c oN oC:Nat}{B oB:zW}{w:Int}{roots L:List Int}{T:List Nat}{ks:List eM}{Kp:zW->Nat->zV->zV->Prop}
    (hp:HpAt H16 b x) (ok:SpOK x.sp) (g0:H16[bh]?=some (.cells #[.pointer (some ⟨b.h,0,none⟩)] 28 (0,0))) (g5:H16[bw]?=some (.cells #[.int .u64 w] 40 (0,0))) (g2:H16[b2]?=some (.cells #[.map (some mr)] 100 (0,0)))
    (C:Came x.sp.mem roots H16 B c mr L) (hw:aP w) (g6:H16[nb]?=some (.cells #[.int .i64 (w % 8),.int .i64 (x.sp.mem.typ w),.int .u64 (x.sp.mem.more w),.slice none 0 0,.slice none 0 0] 61 (0,0)))
    (O:iE H16 oB oN oC ks T) (hoN:oN<=100000000) (hd: ∀j,(j∈b.all\/j=bh\/j=bw\/j=b2\/j=mr\/j∈blks B\/j∈T\/j∈blks oB)->j<nb)
    (hK: ∀ap apC H17 A' kn U',H17.size=H16.size+2->iE A' ap (oN+1) apC (ks++[kn]) (U'++T)->keyK kn=kJ x.sp.mem L w->A'[H17.size]?=some (.deferred (some []))->Fr (nb::blks oB) H16 A'->(∀j∈U',H16.size+4<=j)->(∀j∈blks ap,j∈blks oB\/H16.size+4<=j)->Kp ap apC H17 A'):
         ∃x_14:zW,hat H16 (Addr.mk bh 0 none)=some (.pointer x_14)/\
         ∃x_15:Int,hat H16 (Addr.mk bw 0 none)=some (.int .u64 x_15)/\
         bA.C x_14 x_15 H16 (λv_6 H17=>v_6=v_6/\
          ∀(rc:LoopState->Option Code->Obj) (lp:Nat) (H18:zV),lp=H17.size+1->H18=(H17.push (.deferred (some []))).push (rc .ready none)->
          ∀vY:Value,(∀(x_17:Int) (x_18:Int) (H19:zV) (vRy:zv),H19[lp]?=some (rc .ready none)->
          (H19[lp]?=some (rc .ready none)/\ ∀H20:zV,H20=aF H19 lp (rc .busy none)->
           ∃x_19:Option Nat,hat H20 (Addr.mk b2 0 none)=some (.map x_19)/\
           ∃mr_2:Nat,x_19=some mr_2/\
           ∃(es_2:Array MapEntry) (cl_2:Nat) (ks_2:List (Int×Value)),H20[mr_2]?=some (.map es_2 cl_2)/\Ents (bT .u64) es_2.toList ks_2/\
           ∃x_20:Int,(mget ks_2 x_18).getD (.int .i64 0)=.int .i64 x_20/\
           if x_20=0 then(
            ∃x_21:Int,hat H20 (Addr.mk bw 0 none)=some (.int .u64 x_21)/\
            bZ.C x_21 H20 (λv_7 H21=> ∃x_22:Int,v_7=.int .i64 x_22/\
             if x_22=2 then(
              ∃x_23:Int,hat H21 (Addr.mk bw 0 none)=some (.int .u64 x_23)/\
              cV.C x_23 H21 (λv_8 H22=> ∃x_24:Int,v_8=.int .i64 x_24/\
               if x_17=x_24 then(
                ∃x_25:zW,hat H22 (Addr.mk bh 0 none)=some (.pointer x_25)/\
                bE.C x_25 x_18 H22 (λv_9 H23=> ∃x_26:Int,v_9=.int .i64 x_26/\
                 if x_26>0 then(
                  aT.C (some (Addr.mk nb 0 none)) x_18 (-1) H23 (λ_ H24=>
                   H24[lp]?=some (rc .busy none)/\
                   vRy (.bool true) (aF H24 lp (rc .ready none))))
                 else
                 aT.C (some (Addr.mk nb 0 none)) x_18 x_20 H23 (λ_ H25=>
                  H25[lp]?=some (rc .busy none)/\
                  vRy (.bool true) (aF H25 lp (rc .ready none)))))
               else
               aT.C (some (Addr.mk nb 0 none)) x_18 x_20 H22 (λ_ H26=>
                H26[lp]?=some (rc .busy none)/\
                vRy (.bool true) (aF H26 lp (rc .ready none)))))
             else
             aT.C (some (Addr.mk nb 0 none)) x_18 x_20 H21 (λ_ H27=>
              H27[lp]?=some (rc .busy none)/\
              vRy (.bool true) (aF H27 lp (rc .ready none)))))
           else
           aT.C (some (Addr.mk nb 0 none)) x_18 x_20 H20 (λ_ H28=>
            H28[lp]?=some (rc .busy none)/\
            vRy (.bool true) (aF H28 lp (rc .ready none))))->
          FC Tryz.prog vY #[.int .i64 x_17,.int .u64 x_18] H19 vRy)->
          FE Tryz.prog v_6 #[vY] H18 (λ_ H29=>
           (H29[lp]?=some (rc .ready none)/\ ∀H30:zV,H30=aF H29 lp (rc .exhausted none)->
            ∃(I69:zw) (m69:Int->zV->Nat),I69 0 H30/\ ∀(i:Int) (H31:zV),I69 i H31->
            ∃xB:zW,∃xN:Nat,∃xC:Nat,hat H31 ((Addr.mk nb 0 none).add 3)=some (.slice xB xN xC)/\
            ∃x_27:zW,hat H31 (Addr.mk bh 0 none)=some (.pointer x_27)/\
            ∃x_28:Int,hat H31 (Addr.mk bw 0 none)=some (.int .u64 x_28)/\
            cG.C x_27 x_28 H31 (λv_15 H32=> ∃x_29:Int,v_15=.int .i64 x_29/\aS H32 ((Addr.mk nb 0 none).add 3) 0 [.slice xB xN xC]/\
             if(xN:Int)<x_29 then(
              ∃x_30:zW,hat H32 (Addr.mk bh 0 none)=some (.pointer x_30)/\
              ∃x_31:Int,hat H32 (Addr.mk bw 0 none)=some (.int .u64 x_31)/\
              ∃x_32:Int,hat H32 ((Addr.mk nb 0 none).add 1)=some (.int .i64 x_32)/\
              cH.C x_30 x_31 x_32 i H32 (λv_16 H33=> ∃ra:Int,∃rb_2:Int,v_16=.tuple #[.int .u64 ra,.int .i64 rb_2]/\
               aT.C (some (Addr.mk nb 0 none)) ra 0 H33 (λ_ H34=>
                (I69 (IntKind.wrap .i64 (i+1)) H34/\m69 (IntKind.wrap .i64 (i+1)) H34<m69 i H31))))
             else
             ∃xTag_2:Int,∃xType_2:Int,∃xMore_2:Int,∃xWordsB_2:zW,∃xWordsN_2:Nat,∃xWordsC_2:Nat,∃xIsB_2:zW,∃xIsN_2:Nat,∃xIsC_2:Nat,aS H32 (Addr.mk nb 0 none) 0 [.int .i64 xTag_2,.int .i64 xType_2,.int .u64 xMore_2,.slice xWordsB_2 xWordsN_2 xWordsC_2,.slice xIsB_2 xIsN_2 xIsC_2]/\
             ∀(b_7:Nat) (H35:zV),b_7=H32.size->H35=H32.push (.cells #[.int .i64 xTag_2,.int .i64 xType_2,.int .u64 xMore_2,.slice xWordsB_2 xWordsN_2 xWordsC_2,.slice xIsB_2 xIsN_2 xIsC_2] 61)->
             dH 5 61 72 [.int .i64 0,.int .i64 0,.int .u64 0,.slice none 0 0,.slice none 0 0] oB oN oC (some (Addr.mk b_7 0 none)) 1 H35 (λap apC H36=>Kp ap apC H17 H36))))):=by
  refine⟨_,by rw[aI g0];rfl,w,by rw[aI g5];rfl,?_⟩
  refine bA.link ?_
  unfold bA.pt
  intro c0 H1 hc0 hH1 c1 H2 hc1 hH2
  have e1:Ext H16 H1:=Ext.push' hH1
  have e2:Ext H1 H2:=Ext.push' hH2
  have z1:H1.size=H16.size+1:=by rw[hH1];simp
  have z2:H2.size=H1.size+1:=by rw[hH2];simp
  refine⟨rfl,λrc lp H18 hlp hH18 vY hY=>?_⟩
  have e3:Ext H2 H18:=(Ext.push' rfl).trans (Ext.push' hH18)
  have z3:H18.size=H2.size+2:=by rw[hH18];simp
  have gdef:H18[H2.size]?=some (.deferred (some [])):=by
    have:(H2.push (.deferred (some [])))[H2.size]?=some (.deferred (some [])):=aG rfl rfl
    exact(Ext.push' hH18).get this
  have glp:H18[lp]?=some (rc .ready none):=aG (by simp;omega) hH18
  have e:=(e1.trans e2).trans e3
  have hnb:=aO g6
  have hSn: ∀i,i∈[lp,nb]->i=lp\/i=nb:=λi hi=>by simpa using hi
  have old: ∀j,(j∈b.all\/j=bh\/j=bw\/j=b2\/j=mr\/j∈blks B\/j∈T\/j∈blks oB)->j ∉ [lp,nb]:=λj hj h=>by
    have:=hd j hj
    rcases hSn j h with h | h<;>omega
  refine FE.of2 (enters_of Tryz.func97 (by kernel_rfl) rfl) rfl (kQ (w:=w) (S:=[lp,nb])
    (J:=λl U D=>D[lp]?=some (rc .ready none)/\KnAt D nb (w % 8) (x.sp.mem.typ w) (x.sp.mem.more w) (l.map (nq x.sp.mem L w)) (l.map (isF x.sp.mem L w)) U/\ ∀j∈U,H18.size<=j)
    (hp.ext e) ok ((e2.trans e3).get (aG hc0 hH1)) (e3.get (aG hc1 hH2)) hw (λi hi=>⟨λhq=>old i (.inl hq) hi,by rcases hSn i hi with h | h<;>omega,by rcases hSn i hi with h | h<;>omega⟩)
    (λl U D D' ⟨h1,h2,h3⟩ ee=>⟨ee.get h1,h2.ext ee,h3⟩) (λl U D h j hj=>h.2.2 j hj)
    (λpre a v post U D hall f0 hJ=>?_) ⟨glp,⟨none,0,none,0,e.get g6,iL,iL,by simp,rfl,by simp⟩,by simp⟩ (λU D hJ f0=>?_))
  · obtain⟨ql,Kn,hU⟩:=hJ
    have hvw:aP v:=mL (a:=a) ok.mem (by rw[hall];simp)
    have z0:=f0.size
    have hpl:pre.length<=63:=by
      have:=ld x.sp.mem w
      rw[hall]at this;simp at this;omega
    refine(show∀K:zv,(∀A',(∃T':List Nat,(A'[lp]?=some (rc .ready none)/\KnAt A' nb (w % 8) (x.sp.mem.typ w) (x.sp.mem.more w) (pre.map (nq x.sp.mem L w)++[nq x.sp.mem L w (a,v)]) (pre.map (isF x.sp.mem L w)++[isF x.sp.mem L w (a,v)]) T'/\ ∀j∈T',H18.size<=j)/\
        Fr ([lp,nb]++U) D A'/\ ∀j∈T',j∈U\/D.size<=j)->K (.bool true) A')->FC Tryz.prog vY #[.int .i64 a,.int .u64 v] D K from λK hKK=>hY a v D K ql (qs (K:=K) (z:=H18.size) ((hp.ext e).keep f0 (λi hi hq=>old i (.inl hq) hi)) ok
        (f0.get (old _ (.inr (.inl rfl))) (e.get g0)) (f0.get (old _ (.inr (.inr (.inl rfl)))) (e.get g5)) (f0.get (old _ (.inr (.inr (.inr (.inl rfl))))) (e.get g2)) ((C.ext e).keep f0 (λj hj=>old j (by simp[hj])) (old _ (by simp))) hw hvw Kn ⟨by simp;omega,by simp;omega⟩ ql ?_ z0 hU hKK)) _ (λA' ⟨T',⟨q1,q2,q3⟩,q4,q5⟩=> .inl ⟨rfl,T',⟨q1,by rw[List.map_append,List.map_append];exact q2,q3⟩,q4,q5⟩)
    have o: ∀j,(j∈b.all\/j=bh\/j=bw\/j=b2\/j=mr\/j∈blks B\/j∈T\/j∈blks oB)->lp≠j:=λj hj=>by have:=hd j hj;omega
    exact⟨λh=>o lp (.inl h) rfl,λh=>by have:=hU lp h;omega,o _ (by simp),o _ (by simp),o _ (by simp),by omega,o _ (by simp),λh=>o lp (by simp[h]) rfl⟩
  · obtain⟨ql,Kn,hU⟩:=hJ
    refine⟨ql,λH30 hH30=>?_⟩
    have f30:Fr [lp] D H30:=by rw[hH30];exact Fr.set
    have z0:=f0.size
    have z30:H30.size=D.size:=by rw[hH30];simp
    have old1: ∀j,(j∈b.all\/j=bh\/j=bw\/j=b2\/j=mr\/j∈blks B\/j∈T\/j∈blks oB)->j ∉ [lp]:=λj hj h=>by
      have:=hd j hj;simp at h;omega
    have hUn: ∀j∈nb::U,nb<=j:=λj hj=>by
      rcases List.mem_cons.1 hj with h | h
      · omega
      · have:=hU j h;omega
    have big: ∀j∈nb::U,∀i,(i∈b.all\/i=bh\/i=bw\/i=b2\/i=mr\/i∈blks B\/i∈T\/i∈blks oB)->j≠i:=λj hj i hi=>by have:=hUn j hj;have:=hd i hi;omega
    refine pO (((hp.ext e).keep f0 (λi hi hq=>old i (.inl hq) hi)).keep f30 (λi hi hq=>old1 i (.inl hq) hi)) ok (f30.get (old1 _ (by simp)) (f0.get (old _ (by simp)) (e.get g0))) (f30.get (old1 _ (by simp)) (f0.get (old _ (by simp)) (e.get g5))) hw
      (Kn.keep f30 (by simp;omega) (λj hj=>by have:=hU j hj;simp;omega)) ⟨by have:=ld x.sp.mem w;simp;omega,by simp⟩ (((O.ext e).keep f0 (λj hj=>old j (by simp[hj])) (λj hj=>old j (by simp[hj]))).keep f30 (λj hj=>old1 j (by simp[hj])) (λj hj=>old1 j (by simp[hj]))) hoN
      (λj hj=>⟨λh=>big j hj j (.inl h) rfl,big j hj _ (by simp),big j hj _ (by simp),λh=>big j hj j (by simp[h]) rfl,λh=>big j hj j (by simp[h]) rfl⟩) ?_
    intro ap apC A' kn U' O' hk fA hU' hap
    have hnl:H2.size ∉ nb::U++blks oB:=λh=>by
      rcases List.mem_append.1 h with h | h
      · rcases List.mem_cons.1 h with h | h
        · omega
        · have:=hU _ h;omega
      · have:=hd H2.size (by simp[h]);omega
    refine hK ap apC H2 A' kn U' (by omega) O' ?_ (fA.get hnl (f30.get (by simp;omega) (f0.get (by simp;omega) gdef))) ?_ (λj hj=>?_) (λj hj=>?_)
    · rw[hk]
      unfold kJ pN
      rw[List.length_map]
    · refine e.fr.trans' ((f0.mono (λi hi _=>List.mem_append_left _ hi) (S':=[lp,nb]++(U++blks oB))).trans ((f30.mono (λi hi _=>by simp at hi;simp[hi])).trans (fA.mono (λi hi _=>by
        rcases List.mem_append.1 hi with h | h
        · rcases List.mem_cons.1 h with h | h
          · simp[h]
          · simp[h]
        · simp[h])))) (S:=[]) (λi hi _=>by simp at hi) (λi hi hl=>?_)
      simp at hi
      rcases hi with h | h | h | h
      · omega
      · simp[h]
      · have:=hU i h;omega
      · simp[h]
    · rcases hU' j hj with h | h
      · have:=hU j h;omega
      · omega
    · rcases hap j hj with h | h
      · exact .inl h
      · right;omega
open Go.ChangeShapes Go.WideShapes

def picF(roots L:List Int):Int×Int×Int×List Int×List Int:=(0,0,0,roots.map (λw=>putW w (numOf L w)),roots.map (numOf L))
def picL(m:Mem)(roots L:List Int):List (Int×Int×Int×List Int×List Int):=picF roots L::L.map (kJ m L)
def nW(m:Mem)(roots L:List Int)(H4:zV)(oB:zW)(oN oC:Nat)(s:Int)(ms:List Nat)(A:zV):Prop:=
 ∃(k:Nat) (ks:List eM) (T:List Nat),s=k/\k<=L.length/\oN=k+1/\iE A oB oN oC ks T/\ks.map keyK=picF roots L::(L.take k).map (kJ m L)/\Ext H4 A/\(∀j∈T,H4.size<=j)/\(∀j∈blks oB,H4.size<=j)/\ms.Nodup/\
  ∀D∈ms,A[D]?=some (.deferred (some []))/\H4.size<=D/\D ∉ T/\D ∉ blks oB
theorem pP{m:Mem}{roots L:List Int}{H4 H9 H16 H17 A':zV}{oB ap:zW}{oN oC apC k nb:Nat}{ms T U':List Nat}{ks:List eM}{kn:eM}(hk:k<L.length)(hoN:oN=k+1)(O:iE H9 oB oN oC ks T)
  (hks:ks.map keyK=picF roots L::(L.take k).map (kJ m L)) (e4:Ext H4 H9) (hT: ∀j∈T,H4.size<=j) (hB: ∀j∈blks oB,H4.size<=j) (hnd:ms.Nodup) (hD: ∀D∈ms,H9[D]?=some (.deferred (some []))/\H4.size<=D/\D ∉ T/\D ∉ blks oB)
  (e9:Ext H9 H16) (hnb:H9.size<=nb) (h17:H17.size=H16.size+2) (hO:iE A' ap (oN+1) apC (ks++[kn]) (U'++T)) (hkn:keyK kn=kJ m L L[k]) (hd:A'[H17.size]?=some (.deferred (some []))) (f:Fr (nb::blks oB) H16 A')
  (hU: ∀j∈U',H16.size+4<=j) (hap: ∀j∈blks ap,j∈blks oB\/H16.size+4<=j):nW m roots L H4 ap (oN+1) apC ((k+1:Nat):Int) (H17.size::ms) A':=by
 have z4:=e4.size
 have z9:=e9.size
 have hTl:=O.lt
 have hBl:=O.own.lt
 refine⟨k+1,ks++[kn],U'++T,rfl,hk,by omega,hO,?_,(e4.trans e9).fr_trans f (λi hi=>?_),λj hj=>?_,λj hj=>?_,?_,λD h=>?_⟩
 ·rw[List.map_append,hks,List.take_succ_eq_append_getElem hk,List.map_append]
  simp[hkn]
 ·rcases List.mem_cons.1 hi with h | h
  ·omega
  ·exact hB i h
 ·rcases List.mem_append.1 hj with h | h
  ·have:=hU j h;omega
  ·exact hT j h
 ·rcases hap j hj with h | h
  ·exact hB j h
  ·omega
 ·rw[List.nodup_cons]
  exact⟨λh=>by have:=aO (hD _ h).1;omega,hnd⟩
 ·rcases List.mem_cons.1 h with h | h
  ·subst h
   refine⟨hd,by omega,λh=>?_,λh=>?_⟩
   ·rcases List.mem_append.1 h with h | h
    ·have:=hU _ h;omega
    ·have:=hTl _ h;omega
   ·rcases hap _ h with h | h
    ·have:=hBl _ h;omega
    ·omega
  ·obtain⟨d1,d2,d3,d4⟩:=hD D h
   have dl:=aO d1
   refine⟨f.get (λh=>?_) (e9.get d1),d2,λh=>?_,λh=>?_⟩
   ·rcases List.mem_cons.1 h with h | h
    ·omega
    ·exact d4 h
   ·rcases List.mem_append.1 h with h | h
    ·have:=hU _ h;omega
    ·exact d3 h
   ·rcases hap _ h with h | h
    ·exact d4 h
    ·omega
set_option maxRecDepth 100000 in
set_option maxHeartbeats 2000000 in
theorem oZ{A:zV}{b:Blk}{x:Hp}{rB:zW}{rN rC:Nat}{roots:List Int}(hp:HpAt A b x)(ok:SpOK x.sp)(hr:Nums A .u64 rB rN roots)(hrn:rN<=1000000)(hrw: ∀w∈roots,aP w)(hrb: ∀j∈blks rB,j<A.size):
  dT.C (some ⟨b.h,0,none⟩) rB rN rC A (λv A'=> ∃(oB:zW) (oC:Nat) (ks:List eM) (T:List Nat) (L:List Int),(∃k,L=fZ x.sp.mem roots k/\L.length=k)/\v=.slice oB ks.length oC/\iE A' oB ks.length oC ks T/\ks.map keyK=picL x.sp.mem roots L/\(∀j∈T,A.size<=j)/\(∀j∈blks oB,A.size<=j)/\Ext A A'):=by
 refine HC.via λR hR=>dT.link ?_
 unfold dT.pt zY
 intro b0 H1 hb0 hH1
 have hb:=hp.lt
 have e1:Ext A H1:=Ext.push' hH1
 have z1:H1.size=A.size+1:=by rw[hH1];simp
 have g0:=aG hb0 hH1
 refine⟨_,by rw[aI g0];rfl,HC.mono (pL (hp.ext e1) ok (hr.ext e1) hrn hrw (λj hj=>by have:=hrb j hj;omega)) ?_⟩
 rintro _ H2 ⟨B,c,mr,L,rfl,C,hB,hmr,e2⟩
 have hCl:=C.len
 refine⟨B,_,c,some mr,rfl,λb2 H3 hb2 hH3=>?_⟩
 have z2:=e2.size
 have z3:H3.size=H2.size+1:=by rw[hH3];simp
 obtain⟨c3,s3⟩:=dQ (A3:=aU H3 (Addr.mk b2 0 none) [.map (some mr)] 0) hb2 hH3 [.map (some mr)] rfl
 refine⟨c3,λH4 hH4 b3 H5 hb3 hH5=>?_⟩
 obtain⟨g2,e4⟩:=s3 rfl
 rw[<-hH4]at g2 e4
 have g2':H4[b2]?=some (.cells #[.map (some mr)] 100 (0,0)):=g2
 have z4:H4.size=H3.size:=by rw[hH4,bV _ _ _ _ _ (aG hb2 hH3)];simp
 have e5:Ext H4 H5:=Ext.push' hH5
 have z5:H5.size=H4.size+1:=by rw[hH5];simp
 have E4:=(e1.trans e2).trans e4
 have C4:=C.ext e4
 have g04:=(e2.trans e4).get g0
 have hp4:=hp.ext E4
 have r4:=hr.ext E4
 have hrl:=hr.len
 obtain⟨_,_,_,mm1,_,_⟩:=C4.map
 have mrl:=aO mm1
 have Bl:=C4.own.lt
 have b2l:=aO g2'
 have b0l:=aO g04
 refine⟨λi A1=> ∃(k:Nat) (U:List Nat),i=k/\k<=roots.length/\KnAt A1 b3 0 0 0 ((roots.take k).map (λw=>putW w (numOf L w))) ((roots.take k).map (numOf L)) U/\Ext H4 A1/\ ∀j∈U,H5.size<=j,λi _=>((rN:Int)-i).toNat,
  ⟨0,[],rfl,by omega,⟨none,0,none,0,aG hb3 hH5,iL,iL,by simp,rfl,by simp⟩,e5,by simp⟩,?_⟩
 rintro _ H6 ⟨k,U,rfl,hk,K6,e6,hU6⟩
 by_cases hlt:(k:Int)< (rN:Int)
 ·rw[if_pos hlt]
  have hkl:k<roots.length:=by omega
  obtain⟨pa,p1,p2⟩:=(r4.ext e6).at hkl
  obtain⟨es,cl,ks,m1,m2,n,m3,hn⟩:=(C4.ext e6).num roots[k]
  refine⟨pa,p1,⟨by omega,hlt⟩,_,by rw[show Int.toNat (k:Int)=k by omega];exact p2,some mr,by rw[aI (e6.get g2')];rfl,mr,rfl,es,cl,ks,m1,m2,n,m3,?_⟩
  refine HC.mono (pM K6 ⟨by simp;omega,by simp;omega⟩) ?_
  rintro _ H7 ⟨U7,K7,f7,hU7⟩
  have hwr:IntKind.wrap .i64 ((k:Int)+1)=((k+1:Nat):Int):=by rw[w64 (n:=(k:Int)+1) (by omega)];omega
  rw[hwr]
  have z6:=e6.size
  have hb3l:=K6.lt b3 (by simp)
  refine⟨⟨k+1,U7,rfl,hkl,?_,e6.fr_trans f7 (λi hi=>?_),λj hj=>?_⟩,by show((rN:Int)-((k+1:Nat):Int)).toNat< ((rN:Int)-(k:Int)).toNat;omega⟩
  ·rw[List.take_succ_eq_append_getElem hkl,List.map_append,List.map_append]
   rw[hn]at K7
   exact K7
  ·rcases List.mem_cons.1 hi with h | h
   ·omega
   ·have:=hU6 i h;omega
  ·rcases hU7 j hj with h | h
   ·exact hU6 j h
   ·omega
 rw[if_neg hlt]
 rw[List.take_of_length_le (by omega)]at K6
 obtain⟨B1,c1,B2,c2,k1,k2,k3,k4,kU,k6⟩:=K6
 have rl1:(roots.map (λw=>putW w (numOf L w))).length=roots.length:=by simp
 have rl2:(roots.map (numOf L)).length=roots.length:=by simp
 rw[rl1]at k1 k2
 rw[rl2]at k1 k3
 refine⟨_,_,_,_,_,_,_,_,_,jn k1,λb4 H8 hb4 hH8=>?_⟩
 have e8:Ext H6 H8:=Ext.push' hH8
 have z8:H8.size=H6.size+1:=by rw[hH8];simp
 have z6:=e6.size
 have hb3l:=aO k1
 obtain⟨kn,hkn⟩: ∃kn:eM,kn=⟨0,0,0,⟨B1,roots.length,c1,roots.map (λw=>putW w (numOf L w))⟩,⟨B2,roots.length,c2,roots.map (numOf L)⟩⟩:=⟨_,rfl⟩
 have hUl: ∀j∈U,j<H6.size:=λj hj=>by
  subst kU
  rcases List.mem_append.1 hj with h | h
  ·exact k2.lt j h
  ·exact k3.lt j h
 have O8:iE H8 (some (Addr.mk b4 0 none)) 1 1 [kn] U:=by
  refine⟨rfl,?_,λk' hk'=>?_,λj hj h=>?_,λj hj=>by have:=hUl j hj;omega⟩
  ·have e:[kn].flatMap eM.cells=kn.cells:=by simp
   rw[e,hkn]
   refine⟨rfl,_,aG hb4 hH8,rfl,Nat.le_refl _,rfl,λj hj=>?_⟩
   rw[List.getElem?_toArray]
  ·simp at hk'
   rw[hk',hkn]
   subst kU
   exact⟨rl1,k2.ext e8,rl2,k3.ext e8,λj hj=>hj⟩
  ·have:=hUl j hj;simp at h;omega
 refine⟨nW x.sp.mem roots L H4,λ_ _ _ s _ _=>((L.length:Int)-s).toNat,⟨0,[kn],U,rfl,by omega,rfl,O8,by rw[hkn];rfl,e6.trans e8,λj hj=>by have:=hU6 j hj;omega,λj hj=>by simp at hj;omega,List.nodup_nil,by simp⟩,?_⟩
 rintro oB oN oC _ ms H9 ⟨k,ks,T,rfl,hkL,hoN,O,hks,e9,hT,hBo,hnd,hD⟩
 by_cases hlt2:(k:Int)< (L.length:Int)
 case neg=>
  rw[if_neg hlt2]
  rw[List.take_of_length_le (by omega)]at hks
  refine kI ms H9 hnd (λD h=>(hD D h).1) (λA2 f2=>?_)
  have hl:=O.len
  rw[hl]
  rw[hl]at O
  exact hR _ _ ⟨oB,oC,ks,T,L,C.all,rfl,O.keep f2 (λj hj h=>(hD j h).2.2.2 hj) (λj hj h=>(hD j h).2.2.1 hj),hks,λj hj=>by have:=hT j hj;have:=E4.size;omega,λj hj=>by have:=hBo j hj;have:=E4.size;omega,(E4.trans e9).fr_trans f2 (λi hi=>by have:=(hD i hi).2.1;have:=E4.size;omega)⟩
 rw[if_pos hlt2]
 have hkl:k<L.length:=by omega
 have hwk:=(C.pos _ (List.getElem_mem hkl)).2
 obtain⟨pa,p1,p2⟩:=jZ (C4.own.ext e9).src hkl
 have z9:=e9.size
 refine⟨pa,p1,⟨by omega,hlt2⟩,L[k],by rw[show Int.toNat (k:Int)=k by omega];exact p2,λb5 H10 hb5 hH10=>?_⟩
 obtain⟨c10,s10⟩:=dQ (A3:=aU H10 (Addr.mk b5 0 none) [.int .u64 L[k]] 0) hb5 hH10 [.int .u64 L[k]] rfl
 refine⟨c10,λH11 hH11=>?_⟩
 obtain⟨g5,e11⟩:=s10 rfl
 rw[<-hH11]at g5 e11
 have g5':H11[b5]?=some (.cells #[.int .u64 L[k]] 40 (0,0)):=g5
 have z11:=e11.size
 have b5l:=aO g5'
 have E11:=e9.trans e11
 have h0:=E11.get g04
 have hpE: ∀{Hx:zV},Ext H11 Hx->HpAt Hx b x:=λe=>hp4.ext (E11.trans e)
 have row0: ∀{Hx:zV},Ext H11 Hx->aS Hx (Addr.mk b0 0 none) 0 [.pointer (some ⟨b.h,0,none⟩)]:=λe=>jn (e.get h0)
 have row5: ∀{Hx:zV},Ext H11 Hx->aS Hx (Addr.mk b5 0 none) 0 [.int .u64 L[k]]:=λe=>jn (e.get g5')
 have hm:mof (some (b,x))=x.sp.mem:=rfl
 have hwr:IntKind.wrap .i64 ((k:Int)+1)=((k+1:Nat):Int):=by rw[w64 (n:=(k:Int)+1) (by omega)];omega
 have hdec:((L.length:Int)-((k+1:Nat):Int)).toNat< ((L.length:Int)-(k:Int)).toNat:=by omega
 have hTl:=O.lt
 have hBl:=O.own.lt
 have hd: ∀nb:Nat,H11.size<=nb-> ∀j,(j∈b.all\/j=b0\/j=b5\/j=b2\/j=mr\/j∈blks B\/j∈T\/j∈blks oB)->j<nb:=λnb hn j hj=>by
  rcases hj with h | h | h | h | h | h | h | h
  ·have:=hp4.lt j h;omega
  ·omega
  ·omega
  ·omega
  ·omega
  ·have:=Bl j h;omega
  ·have:=hTl j h;omega
  ·have:=hBl j h;omega
 refine⟨L[k],by rw[aI g5'];rfl,_,by rw[aI h0];rfl,L[k],by rw[aI g5'];rfl,_,by rw[aI h0];rfl,L[k],by rw[aI g5'];rfl,?_⟩
 rw[hwr]
 have fin: ∀{H16 H17 A':zV} {nb:Nat} {ap:zW} {apC:Nat} {kn:eM} {U':List Nat},Ext H11 H16->H11.size<=nb->H17.size=H16.size+2->iE A' ap (oN+1) apC (ks++[kn]) (U'++T)->keyK kn=kJ x.sp.mem L L[k]->A'[H17.size]?=some (.deferred (some []))->Fr (nb::blks oB) H16 A'->(∀j∈U',H16.size+4<=j)->(∀j∈blks ap,j∈blks oB\/H16.size+4<=j)->
   nW x.sp.mem roots L H4 ap (oN+1) apC ((k+1:Nat):Int) (H17.size::ms) A'/\((L.length:Int)-((k+1:Nat):Int)).toNat< ((L.length:Int)-(k:Int)).toNat:=λe16 hnb h17 hO hkn hd2 f hU hap=>
  ⟨pP hkl hoN O hks e9 hT hBo hnd hD (e11.trans e16) (by omega) h17 hO hkn hd2 f hU hap,hdec⟩
 refine⟨?_,?_⟩
 ·refine HC.mono (fK hwk) ?_
  rintro _ H12 ⟨rfl,e12⟩
  have z12:=e12.size
  refine⟨_,rfl,row0 e12,row5 e12,row0 e12,row5 e12,?_,?_⟩
  ·refine HC.mono (jF (.real (hpE e12) ok) hwk) ?_
   rw[hm]
   rintro _ H13 ⟨rfl,e13⟩
   have e13:=e12.trans e13
   have z13:=e13.size
   refine⟨_,rfl,row0 e13,row5 e13,?_,?_⟩
   ·refine HC.mono (jG (.real (hpE e13) ok) hwk) ?_
    rw[hm]
    rintro _ H14 ⟨rfl,e14⟩
    have e14:=e13.trans e14
    have z14:=e14.size
    refine⟨_,rfl,λb6 H15 hb6 hH15=>?_⟩
    obtain⟨c15,s15⟩:=dQ (A3:=aU H15 (Addr.mk b6 0 none) [.int .i64 (L[k] % 8),.int .i64 (x.sp.mem.typ L[k]),.int .u64 (x.sp.mem.more L[k]),.slice none 0 0,.slice none 0 0] 0) hb6 hH15 [.int .i64 (L[k] % 8),.int .i64 (x.sp.mem.typ L[k]),.int .u64 (x.sp.mem.more L[k]),.slice none 0 0,.slice none 0 0] rfl
    refine⟨c15,λH16 hH16=>?_⟩
    obtain⟨g6,e16⟩:=s15 rfl
    rw[<-hH16]at g6 e16
    have e16:=e14.trans e16
    refine kK (hpE e16) ok (e16.get h0) (e16.get g5') ((E11.trans e16).get g2') (C4.ext (E11.trans e16)) hwk g6 (O.ext (e11.trans e16)) (by omega) (hd b6 (by omega)) (λap apC H17 A' kn U' h17 hO hkn hd2 f hU hap=>fin e16 (show H11.size<=b6 by omega) h17 hO hkn hd2 f hU hap)

   ·intro b8 H37 hb8 hH37
    have e37:Ext H13 H37:=Ext.push' hH37
    have g37:=aG hb8 hH37
    have e37':=e13.trans e37
    refine⟨row0 e37',row5 e37',HC.mono (jG (.real (hpE e37') ok) hwk) ?_⟩
    rw[hm]
    rintro _ H38 ⟨rfl,e38⟩
    obtain⟨c38,s38⟩:=gX (n:=5) (vs:=[.int .i64 (L[k] % 8),.int .i64 (x.sp.mem.typ L[k]),.int .u64 (x.sp.mem.more L[k]),.slice none 0 0,.slice none 0 0]) (e38.get g37) rfl rfl
    refine⟨_,rfl,c38,λH39 hH39=>?_⟩
    obtain⟨g6,f39⟩:=s38 H39 hH39
    have e16:Ext H11 H39:=(e37'.trans e38).fr_trans f39 (λi hi=>by simp at hi;omega)
    refine kK (hpE e16) ok (e16.get h0) (e16.get g5') ((E11.trans e16).get g2') (C4.ext (E11.trans e16)) hwk g6 (O.ext (e11.trans e16)) (by omega) (hd b8 (by omega)) (λap apC H17 A' kn U' h17 hO hkn hd2 f hU hap=>fin e16 (show H11.size<=b8 by omega) h17 hO hkn hd2 f hU hap)

  ·intro b10 H60 hb10 hH60
   have e60:Ext H12 H60:=Ext.push' hH60
   have g60:=aG hb10 hH60
   have e60':=e12.trans e60
   refine⟨row0 e60',row5 e60',row0 e60',row5 e60',HC.mono (jF (.real (hpE e60') ok) hwk) ?_⟩
   rw[hm]
   rintro _ H61 ⟨rfl,e61⟩
   have e61':=e60'.trans e61
   refine⟨_,rfl,row0 e61',row5 e61',HC.mono (jG (.real (hpE e61') ok) hwk) ?_⟩
   rw[hm]
   rintro _ H62 ⟨rfl,e62⟩
   obtain⟨c62,s62⟩:=gX (n:=5) (vs:=[.int .i64 (L[k] % 8),.int .i64 (x.sp.mem.typ L[k]),.int .u64 (x.sp.mem.more L[k]),.slice none 0 0,.slice none 0 0]) ((e61.trans e62).get g60) rfl rfl
   refine⟨_,rfl,c62,λH63 hH63=>?_⟩
   obtain⟨g6,f63⟩:=s62 H63 hH63
   have e16:Ext H11 H63:=(e61'.trans e62).fr_trans f63 (λi hi=>by simp at hi;omega)
   refine kK (hpE e16) ok (e16.get h0) (e16.get g5') ((E11.trans e16).get g2') (C4.ext (E11.trans e16)) hwk g6 (O.ext (e11.trans e16)) (by omega) (hd b10 (by omega)) (λap apC H17 A' kn U' h17 hO hkn hd2 f hU hap=>fin e16 (show H11.size<=b10 by omega) h17 hO hkn hd2 f hU hap)

 ·intro b12 H84 hb12 hH84
  have e84:Ext H11 H84:=Ext.push' hH84
  have g84:=aG hb12 hH84
  refine⟨row5 e84,row0 e84,row5 e84,row0 e84,row5 e84,HC.mono (fK hwk) ?_⟩
  rintro _ H85 ⟨rfl,e85⟩
  have e85':=e84.trans e85
  refine⟨_,rfl,row0 e85',row5 e85',row0 e85',row5 e85',HC.mono (jF (.real (hpE e85') ok) hwk) ?_⟩
  rw[hm]
  rintro _ H86 ⟨rfl,e86⟩
  have e86':=e85'.trans e86
  refine⟨_,rfl,row0 e86',row5 e86',HC.mono (jG (.real (hpE e86') ok) hwk) ?_⟩
  rw[hm]
  rintro _ H87 ⟨rfl,e87⟩
  obtain⟨c87,s87⟩:=gX (n:=5) (vs:=[.int .i64 (L[k] % 8),.int .i64 (x.sp.mem.typ L[k]),.int .u64 (x.sp.mem.more L[k]),.slice none 0 0,.slice none 0 0]) (((e85.trans e86).trans e87).get g84) rfl rfl
  refine⟨_,rfl,c87,λH88 hH88=>?_⟩
  obtain⟨g6,f88⟩:=s87 H88 hH88
  have e16:Ext H11 H88:=(e86'.trans e87).fr_trans f88 (λi hi=>by simp at hi;omega)
  refine kK (hpE e16) ok (e16.get h0) (e16.get g5') ((E11.trans e16).get g2') (C4.ext (E11.trans e16)) hwk g6 (O.ext (e11.trans e16)) (by omega) (hd b12 (by omega)) (λap apC H17 A' kn U' h17 hO hkn hd2 f hU hap=>fin e16 (show H11.size<=b12 by omega) h17 hO hkn hd2 f hU hap)

