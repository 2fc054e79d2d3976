/-
 Walks over views that stand one for the other answer the same; what a walk reads may be a datum. Proves nothing of any one statement.
-/
import Derived.Test.YtibpklpgmgakcaaGreatDoorTellsB
set_option linter.unusedVariables false
set_option linter.unusedSimpArgs false
set_option maxHeartbeats 1000000
namespace Go.Proofs.YtibpklpgmgakcaaGreatDoor
open Go

def NodeV.map(φ:Int->Int):NodeV->NodeV
 | .leaf d=> .leaf d
 | .bad e=> .bad e
 | .vec ws=> .vec (ws.map φ)
 | .pair a d=> .pair (φ a) (φ d)
def NodeV.kids:NodeV->List Int
 | .vec ws=>ws
 | .pair a d=> [a,d]
 | _=> []
theorem NodeV.map_isP(φ:Int->Int)(v:NodeV):(v.map φ).isP=v.isP:=by cases v<;>rfl
theorem NodeV.parts{v:NodeV}(h:v.isP=true):v=.pair v.car v.cdr:=by
 cases v with
 | pair a d=>rfl
 | _=>cases h
theorem vecG_map{φ:Int->Int}{K:Int->Prop}{r1 r2:Int->Int->RdOut}(h: ∀n k,K k->r1 n (φ k)=r2 n k): ∀(ws:List Int) (n:Int) (acc:List Dt),(∀k∈ws,K k)->vecG r1 n (ws.map φ) acc=vecG r2 n ws acc
 | [],n,acc,_=>rfl
 | w::ws,n,acc,hk=>by
  simp only[List.map_cons,vecG]
  rw[h n w (hk w (by simp))]
  split
  ·exact vecG_map h ws _ _ (λk hk'=>hk k (by simp[hk']))
  ·rfl
theorem chainG_map{φ:Int->Int}{K:Int->Prop}{r1 r2:Int->Int->RdOut}{v1 v2:Int->NodeV}(h: ∀n k,K k->r1 n (φ k)=r2 n k)(hv: ∀k,K k->v1 (φ k)=(v2 k).map φ)(hK: ∀k,K k-> ∀j∈(v2 k).kids,K j):
  ∀(f:Nat) (n k:Int) (acc:List Dt),K k->(v2 k).isP=true->chainG r1 v1 f n (φ k) acc=chainG r2 v2 f n k acc
 | 0,_,_,_,_,_=>rfl
 | f+1,n,k,acc,hk,hp=>by
  obtain⟨a,d,e2⟩: ∃a d,v2 k=.pair a d:=⟨_,_,NodeV.parts hp⟩
  have e1:v1 (φ k)=.pair (φ a) (φ d):=by rw[hv k hk,e2];rfl
  have ka:K a:=hK k hk _ (by rw[e2];simp[NodeV.kids])
  have kd:K d:=hK k hk _ (by rw[e2];simp[NodeV.kids])
  have hpd:(v1 (φ d)).isP=(v2 d).isP:=by rw[hv _ kd,NodeV.map_isP]
  rw[chainG_pair e2,chainG_pair e1,h n _ ka,hpd,h _ _ kd]
  by_cases h0:(r2 n a).1=0
  ·rw[if_pos h0,if_pos h0]
   by_cases hp2:(v2 d).isP=true
   ·rw[if_pos hp2,if_pos hp2]
    by_cases hb:4096< (r2 n a).2.2+1
    ·rw[if_pos hb,if_pos hb]
    ·rw[if_neg hb,if_neg hb];exact chainG_map h hv hK f _ _ _ kd hp2
   ·rw[if_neg hp2,if_neg hp2]
  ·rw[if_neg h0,if_neg h0]
theorem readG_map{φ:Int->Int}{K:Int->Prop}{v1 v2:Int->NodeV}(hv: ∀k,K k->v1 (φ k)=(v2 k).map φ)(hK: ∀k,K k-> ∀j∈(v2 k).kids,K j): ∀(f:Nat) (n k deep:Int),K k->readG v1 f n (φ k) deep=readG v2 f n k deep
 | 0,_,_,_,_=>rfl
 | f+1,n,k,deep,hk=>by
  have ih:=λn k (h:K k)=>readG_map hv hK f n k (deep+1) h
  have hk2:=hK k hk
  unfold readG
  rw[hv k hk]
  split
  ·rfl
  cases hc:v2 k with
  | leaf d=>rfl
  | bad e=>rfl
  | vec ws=>
   simp only[NodeV.map]
   split
   ·rfl
   ·exact vecG_map (r1:=λn w=>readG v1 f n w (deep+1)) (r2:=λn w=>readG v2 f n w (deep+1)) ih ws _ _ (λj hj=>hk2 j (by rw[hc];exact hj))
  | pair a d=>
   simp only[NodeV.map]
   split
   ·rfl
   ·exact chainG_map (r1:=λn w=>readG v1 f n w (deep+1)) (r2:=λn w=>readG v2 f n w (deep+1)) ih hv hK f _ k [] hk (by rw[hc];rfl)

structure Good (deep:Int) (d:Dt):Prop where
 plain:Plain d
 light:Light d
 depth:deep+depthD d<=64
theorem Good.up{deep:Int}{d:Dt}(h:Good (deep+1) d):Good deep d:=⟨h.plain,h.light,by have:=h.depth;omega⟩
theorem depth_pair_le{x y:Dt}{b:Int}(h0:0<=b)(hx:depthD x+1<=b)(hy:(if y.kind=7 then depthD y else depthD y+1)<=b):depthD (pairD x y)<=b:=by
 have e:depthD (pairD x y)=mx (mx 0 (innD 7 x [y])) (innD 7 y []):=rfl
 have h1:innD 7 x [y]=depthD x+1:=by unfold innD;rw[if_neg (by simp)]
 rw[e,h1]
 refine mx_le (mx_le h0 hx) ?_
 unfold innD
 by_cases h7:y.kind=7
 ·rw[if_pos h7]at hy;rw[if_pos ⟨rfl,rfl,h7⟩];exact hy
 ·rw[if_neg h7]at hy;rw[if_neg (λh=>h7 h.2.2)];exact hy
theorem good_pair{deep:Int}{x y:Dt}(hd:deep<64)(hx:Good (deep+1) x)(hy:Plain y/\Light y)(hyd:(if y.kind=7 then depthD y else depthD y+1)<=64-deep):Good deep (pairD x y):=
 ⟨plain_p hx.plain hy.1,light_p hx.light hy.2,by
  have h1:=hx.depth
  have h2:depthD x+1<=64-deep:=by omega
  have h3:=depth_pair_le (b:=64-deep) (by omega) h2 hyd
  omega⟩
theorem good_cons{deep:Int}(hd:deep<64){y:Dt}(hy:Good (deep+1) y): ∀{cs:List Dt},(∀c∈cs,Good (deep+1) c)->Good deep (consD cs y)
 | [],_=>hy.up
 | c::cs,h=>by
  rw[consD_cons]
  have ih:=good_cons hd hy (cs:=cs) (λx hx=>h x (by simp[hx]))
  refine good_pair hd (h c (by simp)) ⟨ih.plain,ih.light⟩ ?_
  cases cs with
  | nil=>
   have:=hy.depth
   show(if y.kind=7 then depthD y else depthD y+1)<=_
   split<;>omega
  | cons c2 cs=>
   have h7:(consD (c2::cs) y).kind=7:=rfl
   rw[if_pos h7]
   have:=ih.depth;omega
theorem depth_vec_le{l:List Dt}{b:Int}(h1:1<=b)(h: ∀x∈l,depthD x+1<=b):depthD (.mk 8 0 false [] tE l)<=b:=by
 have e:depthD (.mk 8 0 false [] tE l)=depthL 8 l 1:=rfl
 have key: ∀(l:List Dt) (n:Int),n<=b->(∀x∈l,depthD x+1<=b)->depthL 8 l n<=b:=by
  intro l
  induction l with
  | nil=>intro n hn _;exact hn
  | cons y r ih=>
   intro n hn hx
   rw[depthL_cons]
   refine ih _ (mx_le hn ?_) (λx hx'=>hx x (by simp[hx']))
   unfold innD;rw[if_neg (by simp)];exact hx y (by simp)
 rw[e];exact key l 1 h1 h
theorem good_vec{deep:Int}(hd:deep<64){l:List Dt}(h62:l.length<=62)(h: ∀x∈l,Good (deep+1) x):Good deep (.mk 8 0 false [] tE l):=
 ⟨.mk (by decide) (λ_=>rfl) (λh=>by cases h) (λ_=>⟨rfl,rfl⟩) (λh=>by cases h) (λ_ _=>rfl) (λh=>by rcases h with h | h<;>cases h) (λh=>by cases h) (λ_ h8=>absurd rfl h8) (λh=>by cases h) h62 (λx hx=>(h x hx).plain),
  .mk (by decide) (by decide) (λx hx=>(h x hx).light),by have:=depth_vec_le (l:=l) (b:=64-deep) (by omega) (λx hx=>by have:=(h x hx).depth;omega);omega⟩
def GoodR(n deep:Int)(r:RdOut):Prop:=r.1=0->Good deep r.2.1/\r.2.2=n+countD r.2.1
theorem vecG_good{K:Int->Prop}{rd:Int->Int->RdOut}{deep:Int}(hd:deep<64)(h: ∀n k,K k->GoodR n (deep+1) (rd n k)): ∀(ws:List Int) (n n0:Int) (acc:List Dt),(∀k∈ws,K k)->acc.length+ws.length<=62->(∀x∈acc,Good (deep+1) x)->n=n0+countL acc->
  (vecG rd n ws acc).1=0->Good deep (vecG rd n ws acc).2.1/\(vecG rd n ws acc).2.2=n0-1+countD (vecG rd n ws acc).2.1
 | [],n,n0,acc,_,hl,ha,hn,_=>by
  refine⟨good_vec hd (by simpa using hl) ha,?_⟩
  simp only[vecG,countD];omega
 | w::ws,n,n0,acc,hk,hl,ha,hn,hz=>by
  unfold vecG at hz⊢
  by_cases h0:(rd n w).1=0
  ·rw[if_pos h0]at hz⊢
   obtain⟨g,c⟩:=h n w (hk w (by simp)) h0
   refine vecG_good hd h ws _ n0 _ (λk hk'=>hk k (by simp[hk'])) (by simp at hl⊢;omega) (λx hx=>?_) (by rw[countL_snoc];omega) hz
   rcases List.mem_append.1 hx with hx | hx
   ·exact ha x hx
   ·simp at hx;subst hx;exact g
  ·rw[if_neg h0]at hz;exact absurd hz h0
theorem countD_consD(y:Dt): ∀cs:List Dt,countD (consD cs y)=cs.length+countL cs+countD y:=countD_cons y
theorem chainG_good{K:Int->Prop}{rd:Int->Int->RdOut}{vw:Int->NodeV}{deep:Int}(hd:deep<64)(h: ∀n k,K k->GoodR n (deep+1) (rd n k))(hK: ∀k,K k-> ∀j∈(vw k).kids,K j): ∀(f:Nat) (n n0 k:Int) (acc:List Dt),K k->(vw k).isP=true->(∀x∈acc,Good (deep+1) x)->n=n0+1+acc.length+countL acc->
  (chainG rd vw f n k acc).1=0->Good deep (chainG rd vw f n k acc).2.1/\(chainG rd vw f n k acc).2.2=n0+countD (chainG rd vw f n k acc).2.1
 | 0,_,_,_,_,_,_,_,_,hz=>by simp[chainG]at hz
 | f+1,n,n0,k,acc,hk,hp,ha,hn,hz=>by
  obtain⟨a,d,e2⟩: ∃a d,vw k=.pair a d:=⟨_,_,NodeV.parts hp⟩
  have ka:K a:=hK k hk _ (by rw[e2];simp[NodeV.kids])
  have kd:K d:=hK k hk _ (by rw[e2];simp[NodeV.kids])
  rw[chainG_pair e2]at hz⊢
  by_cases h0:(rd n a).1=0
  ·rw[if_pos h0]at hz⊢
   obtain⟨g,c⟩:=h n _ ka h0
   have ha': ∀x∈acc++[(rd n a).2.1],Good (deep+1) x:=λx hx=>by
    rcases List.mem_append.1 hx with hx | hx
    ·exact ha x hx
    ·simp at hx;subst hx;exact g
   by_cases hp2:(vw d).isP=true
   ·rw[if_pos hp2]at hz⊢
    by_cases hb:4096< (rd n a).2.2+1
    ·rw[if_pos hb]at hz;cases hz
    ·rw[if_neg hb]at hz⊢
     exact chainG_good hd h hK f _ n0 _ _ kd hp2 ha' (by rw[countL_snoc,List.length_append];simp;omega) hz
   ·rw[if_neg hp2]at hz⊢
    by_cases h2:(rd (rd n a).2.2 d).1=0
    ·rw[if_pos h2]
     obtain⟨g2,c2⟩:=h _ _ kd h2
     refine⟨good_cons hd g2 ha',?_⟩
     simp only
     rw[countD_consD,countL_snoc,List.length_append];simp;omega
    ·rw[if_neg h2]at hz;exact absurd hz h2
  ·rw[if_neg h0]at hz;exact absurd hz h0
theorem readG_good{K:Int->Prop}{vw:Int->NodeV}(hb: ∀k e,vw k=.bad e->e≠0)(hleaf: ∀k d,K k->vw k=.leaf d->Plain d/\Light d/\depthD d=0/\countD d=1)(hvec: ∀k ws,K k->vw k=.vec ws->ws.length<=62)(hK: ∀k,K k-> ∀j∈(vw k).kids,K j):
  ∀(f:Nat) (n k deep:Int),K k->deep<=64->GoodR n deep (readG vw f n k deep)
 | 0,n,k,deep,_,_=>λhz=>by simp[readG]at hz
 | f+1,n,k,deep,hk,hd=>λhz=>by
  have hk2:=hK k hk
  unfold readG at hz⊢
  by_cases hb4:4096<n+1
  ·rw[if_pos hb4]at hz;cases hz
  rw[if_neg hb4]at hz⊢
  cases hc:vw k with
  | leaf d=>
   simp only
   obtain⟨a1,a2,a3,a4⟩:=hleaf k d hk hc
   exact⟨⟨a1,a2,by omega⟩,by omega⟩
  | bad e=>rw[hc]at hz;exact absurd hz (hb k e hc)
  | vec ws=>
   rw[hc]at hz
   simp only at hz⊢
   by_cases h64:deep=64
   ·rw[if_pos h64]at hz;cases hz
   rw[if_neg h64]at hz⊢
   have:=vecG_good (K:=K) (rd:=λn w=>readG vw f n w (deep+1)) (deep:=deep) (by omega) (λn k hk=>readG_good hb hleaf hvec hK f n k (deep+1) hk (by omega)) ws (n+1) (n+1) [] (λj hj=>hk2 j (by rw[hc];exact hj)) (by simpa using hvec k ws hk hc) (by simp) (by simp[countL]) hz
   exact⟨this.1,by rw[this.2];omega⟩
  | pair a d=>
   rw[hc]at hz
   simp only at hz⊢
   by_cases h64:deep=64
   ·rw[if_pos h64]at hz;cases hz
   rw[if_neg h64]at hz⊢
   exact chainG_good (K:=K) (rd:=λn w=>readG vw f n w (deep+1)) (deep:=deep) (by omega) (λn k hk=>readG_good hb hleaf hvec hK f n k (deep+1) hk (by omega)) hK f (n+1) n k [] hk (by rw[hc];rfl) (by simp) (by simp[countL]) hz
end Go.Proofs.YtibpklpgmgakcaaGreatDoor
