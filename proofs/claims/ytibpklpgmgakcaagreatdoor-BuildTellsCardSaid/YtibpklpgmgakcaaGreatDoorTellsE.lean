/-
 Things on the heap and their picture, side by side: what is made, what is set; the two views stand one for the other. Proves nothing of any one statement.
-/
import Derived.Test.YtibpklpgmgakcaaGreatDoorTellsD
set_option linter.unusedVariables false
set_option linter.unusedSimpArgs false
set_option maxHeartbeats 1000000
namespace Go.Proofs.YtibpklpgmgakcaaGreatDoor
open Go

def abT:ByteArray:=⟨#[97,98]⟩
theorem runes_ab:runesOf abT=[97,98]:=by kernel_rfl
theorem text_ab:textOK abT:=⟨by kernel_rfl,by rw[runes_ab];decide⟩
def natL(n:Int):List Int:=if 0<n then[n]else[]
def wat(ws:List Int)(k:Int):Int:=ws.getD k.toNat 0
inductive ItemAt (m:Mem) (ws:List Int):Int->Dt×List Int->Prop
 | fix {n:Int} (h:0<=n/\n<1000):ItemAt m ws (8*n) (.mk 4 0 false (natL n) tE [],[])
 | str {w:Int} (h:Thing m w 2 0 (runesOf abT)):ItemAt m ws w (.mk 5 0 false [] abT [],[])
 | vec {w:Int} {l:List Int} (h:Thing m w 1 0 (l.map (wat ws))) (hl:l.length<=5) (hk: ∀k∈l,0<=k/\k<ws.length):ItemAt m ws w (.mk 8 0 false [] tE [],l)
 | pair {w a d:Int} (h:Pr m w 1 (wat ws a) (wat ws d)) (ha:0<=a/\a<ws.length) (hd:0<=d/\d<ws.length):ItemAt m ws w (.mk 7 0 false [] tE [],[a,d])
 | weak {w x y:Int} (h:Pr m w 2 x y):ItemAt m ws w (.mk (-1) 0 false [] tE [],[])
 | box {w x:Int} (h:Thing m w 5 0 [x]):ItemAt m ws w (.mk (-1) 0 false [] tE [],[])
 | tru:ItemAt m ws 12 (.mk 1 0 false [] tE [],[])
 | nil:ItemAt m ws 20 (zD,[])
theorem wat_more{ws:List Int}{v k:Int}(h:0<=k/\k<ws.length):wat (ws++[v]) k=wat ws k:=by
 unfold wat
 rw[List.getD,List.getD,List.getElem?_append_left (by omega)]
theorem wat_last{ws:List Int}{v:Int}:wat (ws++[v]) (ws.length:Int)=v:=by
 unfold wat;simp
theorem ItemAt.more{m:Mem}{ws:List Int}{w v:Int}{th:Dt×List Int}(h:ItemAt m ws w th):ItemAt m (ws++[v]) w th:=by
 cases h with
 | fix h=>exact .fix h
 | str h=>exact .str h
 | vec h hl hk=>
  refine .vec ?_ hl (λk hk'=>by have:=hk k hk';simp;omega)
  rw[List.map_congr_left (g:=wat ws) (λk hk'=>wat_more (hk k hk'))];exact h
 | pair h ha hd=>exact .pair (by rw[wat_more ha,wat_more hd];exact h) (by simp;omega) (by simp;omega)
 | weak h=>exact .weak h
 | box h=>exact .box h
 | tru=>exact .tru
 | nil=>exact .nil
theorem ItemAt.keep{m m':Mem}{ws:List Int}{w:Int}{th:Dt×List Int}(h:ItemAt m ws w th)(hn: ∀k,(m.seg k).n<=64)(k:Keep m m'):ItemAt m' ws w th:=by
 cases h with
 | fix h=>exact .fix h
 | str h=>exact .str (h.keep hn k)
 | vec h hl hk=>exact .vec (h.keep hn k) hl hk
 | pair h ha hd=>exact .pair (h.keep k) ha hd
 | weak h=>exact .weak (h.keep k)
 | box h=>exact .box (h.keep hn k)
 | tru=>exact .tru
 | nil=>exact .nil
theorem thing_pair_far1{m:Mem}{u kind more v a b:Int}{ws:List Int}(h:Thing m u kind more ws)(hv:Pr m v 1 a b)(hn: ∀q,(m.seg q).n<=64): ∀j:Nat,j<=ws.length->u / 8+j≠v / 8+1:=by
 intro j hj e
 have h1:=h.obj.1
 have h3:=h.obj.2.2
 have h4:=hv.at'
 have hl:=h.lenEq
 have h5:=hv.used.2.2
 have he:=hv.even
 have w0:0<=u / 8:=by have:=h.word.1;omega
 have hn64:=hn (u / 8 / 64).toNat
 have v0:0<=v / 8:=by have:=hv.word.1;omega
 by_cases es:v / 8 / 64=u / 8 / 64
 ·have k1:=h1.2.2.2.1
  have k2:=h4.2.2.2.1
  rw[es,k1]at k2
  unfold rawK at k2
  split at k2<;>cases k2
 ·omega
theorem ItemAt.set{m:Mem}{ws:List Int}{w v a b e:Int}{th:Dt×List Int}(hv:Pr m v 1 a b)(h:ItemAt m ws w th)(hne:th.1.kind=7->w≠v)(hlt: ∀k,(m.seg k).n<=64):ItemAt (m.store (v / 8+1) e).1 ws w th:=by
 have hu:m.used (v / 8+1):=hv.used
 have pr: ∀{w1 t x y:Int},Pr m w1 t x y->w1≠v->Pr (m.store (v / 8+1) e).1 w1 t x y:=λ{w1 t x y} hp hw=>by
  have e1:=hp.even
  have e2:=hv.even
  have t1:=hp.at'.2.1
  have t2:=hv.at'.2.1
  have k1:=hp.at'.2.2.2.1
  have k2:=hv.at'.2.2.2.1
  refine hp.setOther hu (by omega) (λe=>?_)
  have hd:w1 / 8=v / 8:=by omega
  rw[hd]at k1
  rw[k1]at k2
  exact hw (by omega)
 cases h with
 | fix h=>exact .fix h
 | str h=>exact .str (h.setFar hu (thing_pair_far1 h hv hlt))
 | vec h hl hk=>exact .vec (h.setFar hu (thing_pair_far1 h hv hlt)) hl hk
 | pair h ha hd=>exact .pair (pr h (hne rfl)) ha hd
 | weak h=>
  refine .weak (pr h (λe=>?_))
  have t1:=h.at'.2.1
  have t2:=hv.at'.2.1
  rw[e]at t1;omega
 | box h=>exact .box (h.setFar hu (thing_pair_far1 h hv hlt))
 | tru=>exact .tru
 | nil=>exact .nil

def viewI(th:Dt×List Int):NodeV:=if th.1.kind= -1 then .bad 3 else if th.1.kind=8 then .vec th.2 else if th.1.kind=7 then .pair (th.2.getD 0 0) (th.2.getD 1 0)else .leaf th.1
theorem numW_small{m:Mem}{n:Int}(h:0<=n/\n<1000):numW m (8*n)=(false,natL n,0):=by
 unfold numW
 have e:signed (8*n) / 8=n:=by unfold signed;rw[if_neg (by omega)];omega
 have hm:ofL n=[n,0]:=by
  unfold ofL mag;rw[if_neg (by omega),show n % 4294967296=n by omega,show n / 4294967296=0 by omega]
 rw[if_pos (by omega),e,hm,decide_eq_false (show¬n<0 by omega)]
 unfold normR natL
 by_cases h0:0<n
 ·have t:top [n,0]=1:=by
   show topN [n,0] 2=1
   unfold topN;simp only[List.getD_cons_succ,List.getD_cons_zero,if_true]
   unfold topN;simp only[List.getD_cons_zero];rw[if_neg (by omega)]
  rw[t,if_neg (by decide),if_pos h0]
  unfold trim;rw[t];rfl
 ·have hn:n=0:=by omega
  subst hn
  rfl
theorem viewM_num{m:Mem}{w:Int}{neg:Bool}{ls:List Int}(hc:constD w=none)(h:numW m w=(neg,ls,0)):viewM m w=.leaf (.mk 4 0 neg ls tE []):=by
 unfold viewM;rw[hc];simp only;rw[h,if_pos rfl]
theorem ItemAt.view{m:Mem}{ws:List Int}{w:Int}{th:Dt×List Int}(h:ItemAt m ws w th):viewM m w=(viewI th).map (wat ws):=by
 have cn: ∀{u:Int},u % 8≠4->constD u=none:=λ{u} hu=>by
  cases hc:constD u with
  | none=>rfl
  | some d=>exact absurd (constD_tag hc) hu
 cases h with
 | @fix n h=>rw[viewM_num (cn (by omega)) (numW_small h)];rfl
 | str h=>
  unfold viewM
  rw[constD_obj h.obj]
  simp only
  rw[if_neg (by rw[numW_typ h.obj (by rw[h.typ];decide)];decide),if_pos h.typ,h.words,text_back text_ab];rfl
 | vec h hl hk=>
  unfold viewM
  rw[constD_obj h.obj]
  simp only
  rw[if_neg (by rw[numW_typ h.obj (by rw[h.typ];decide)];decide),if_neg (by rw[h.typ];decide),if_neg (by rw[h.typ];decide),if_pos h.typ,h.words];rfl
 | pair h ha hd=>
  rw[viewM_parts (viewM_pair.2 ⟨h.at'.2.1,h.isPair⟩),if_pos h.half.1,if_pos h.half.2,h.cdr]
  have:=h.car
  rw[show w / 8+0=w / 8 by omega,this];rfl
 | weak h=>
  have t2:=h.at'.2.1
  unfold viewM
  rw[cn (by omega)]
  simp only
  have hn:(numW m w).2.2=3:=by
   unfold numW;rw[if_neg (by omega),if_neg (λhh=>h.notObj hh.1)]
  rw[if_neg (by rw[hn];decide),if_neg (by rw[h.type];decide),if_neg (by rw[h.type];decide),if_neg (by rw[h.type];decide),if_neg (by omega)];rfl
 | box h=>
  have t3:=h.obj.1.2.1
  unfold viewM
  rw[constD_obj h.obj]
  simp only
  rw[if_neg (by rw[numW_typ h.obj (by rw[h.typ];decide)];decide),if_neg (by rw[h.typ];decide),if_neg (by rw[h.typ];decide),if_neg (by rw[h.typ];decide),if_neg (by omega)];rfl
 | tru=>rfl
 | nil=>rfl
theorem leaf_good{m:Mem}{ws:List Int}{w:Int}{th:Dt×List Int}{d:Dt}(h:ItemAt m ws w th)(hv:viewI th=.leaf d):Plain d/\Light d/\depthD d=0/\countD d=1:=by
 cases h with
 | @fix n h=>
  cases hv
  have hm:mayR false (natL n)=true:=by
   unfold natL
   by_cases h0:0<n
   ·rw[if_pos h0]
    have t:top [n]=1:=by
     show topN [n] 1=1
     unfold topN;simp only[List.getD_cons_zero];rw[if_neg (by omega)]
    unfold mayR;rw[t];rfl
   ·rw[if_neg h0];rfl
  have hl:(natL n).length<=1:=by unfold natL;split<;>simp
  refine⟨.mk (by decide) (λ_=>rfl) (λh=>by cases h) (λh=>absurd rfl h) (λ_=>hm) (λ_ _=>rfl) (λh=>by rcases h with h | h<;>cases h) (λh=>by cases h) (λ_ _=>rfl) (λh=>by cases h) (by simp) (by simp),.mk (by decide) (by omega) (by simp),rfl,rfl⟩
 | str h=>
  cases hv
  exact⟨.mk (by decide) (λ_=>rfl) (λh=>by cases h) (λ_=>⟨rfl,rfl⟩) (λh=>by cases h) (λh=>absurd rfl h) (λ_=>text_ab) (λh=>by cases h) (λ_ _=>rfl) (λh=>by cases h) (by simp) (by simp),light_k (by decide),rfl,rfl⟩
 | vec h hl hk=>cases hv
 | pair h ha hd=>cases hv
 | weak h=>cases hv
 | box h=>cases hv
 | tru=>cases hv;exact⟨plain_k (by decide) (by decide) (by decide) (by decide) (by decide) (by decide) (by decide),light_k (by decide),rfl,rfl⟩
 | nil=>cases hv;exact⟨plain_k (by decide) (by decide) (by decide) (by decide) (by decide) (by decide) (by decide),light_k (by decide),rfl,rfl⟩
theorem ItemAt.kids{m:Mem}{ws:List Int}{w:Int}{th:Dt×List Int}(h:ItemAt m ws w th):(∀k∈th.2,0<=k/\k<ws.length)/\(th.1.kind=7->th.2.length=2)/\th.2.length<=5:=by
 cases h with
 | vec h hl hk=>exact⟨hk,(λh=>by cases h),hl⟩
 | pair h ha hd=>
  refine⟨λk hk=>?_,λ_=>rfl,by simp⟩
  simp at hk
  rcases hk with rfl | rfl<;>assumption
 | fix h=>exact⟨by simp,(λh=>by cases h),by simp⟩
 | str h=>exact⟨by simp,(λh=>by cases h),by simp⟩
 | weak h=>exact⟨by simp,(λh=>by cases h),by simp⟩
 | box h=>exact⟨by simp,(λh=>by cases h),by simp⟩
 | tru=>exact⟨by simp,(λh=>by cases h),by simp⟩
 | nil=>exact⟨by simp,(λh=>by cases h),by simp⟩
theorem tells_same{m:Mem}{ws:List Int}{ths:List (Dt×List Int)}(hlen:ths.length=ws.length)(hi: ∀(i:Nat) (h:i<ws.length) (h2:i<ths.length),ItemAt m ws ws[i] ths[i])(f:Nat)(n k deep:Int)(hk:0<=k/\k<ws.length)(hd:deep<=64):
  readG (viewM m) f n (wat ws k) deep=readG (viewT ths) f n k deep/\GoodR n deep (readG (viewT ths) f n k deep):=by
 have hat: ∀k:Int,0<=k/\k<ws.length-> ∃th:Dt×List Int,ItemAt m ws (wat ws k) th/\viewT ths k=viewI th:=λk hk=>by
  have h1:k.toNat<ws.length:=by omega
  have h2:k.toNat<ths.length:=by omega
  refine⟨ths[k.toNat],?_,viewT_at h2⟩
  have:=hi k.toNat h1 h2
  unfold wat;rw[getD_at h1];exact this
 have hK: ∀k:Int,0<=k/\k<ws.length-> ∀j∈(viewT ths k).kids,0<=j/\j<ws.length:=λk hk j hj=>by
  obtain⟨th,hI,hv⟩:=hat k hk
  obtain⟨q1,q2,_⟩:=hI.kids
  rw[hv]at hj
  unfold viewI at hj
  split at hj
  ·simp[NodeV.kids]at hj
  split at hj
  ·exact q1 j hj
  split at hj
  ·rename_i h7
   have hl:=q2 h7
   simp[NodeV.kids]at hj
   refine q1 j ?_
   rcases hj with rfl | rfl
   ·rw[List.getElem?_eq_getElem (by omega)];exact List.getElem_mem _
   ·rw[List.getElem?_eq_getElem (by omega)];exact List.getElem_mem _
  ·simp[NodeV.kids]at hj
 refine⟨readG_map (K:=λk=>0<=k/\k<ws.length) (λk hk=>?_) hK f n k deep hk,readG_good (K:=λk=>0<=k/\k<ws.length) (λk e h=>viewT_bad h) (λk d hk hv=>?_) (λk l hk hv=>?_) hK f n k deep hk hd⟩
 ·obtain⟨th,hI,hv⟩:=hat k hk
  rw[hI.view,hv]
 ·obtain⟨th,hI,hv'⟩:=hat k hk
  exact leaf_good hI (by rw[<-hv',hv])
 ·obtain⟨th,hI,hv'⟩:=hat k hk
  have h5:=hI.kids.2.2
  rw[hv']at hv
  unfold viewI at hv
  split at hv
  ·cases hv
  split at hv
  ·cases hv;omega
  split at hv<;>cases hv
end Go.Proofs.YtibpklpgmgakcaaGreatDoor
