/-
 The document's memory (moraineref07), told by the same abstract memory as the program's: its place, what reads and writes. Proves nothing of any one statement.
-/
import Derived.Test.YtihdffpekpnglaaGreatText
import Derived.Test.YtihdffpekpnglaaGreatFref07
import Derived.Test.YtihdffpekpnglaaGreatRef01
import Derived.Test.YtihdffpekpnglaaGreatFref08
set_option linter.unusedVariables false
set_option linter.unusedSimpArgs false
namespace Go.Proofs.YtihdffpekpnglaaGreat
open Go

structure RM where
 bm:Nat
 p:zY
 c:Nat
 L:List Nat
 wp:Nat->zY
 wc:Nat->Nat
def RM.bs(r:RM):List Nat:=r.bm::(blks r.p++r.L.flatMap λk=>blks (r.wp k))
theorem RM.mem_bs{r:RM}{b:Nat}:b∈r.bs ↔ b=r.bm\/b∈blks r.p\/ ∃k∈r.L,b∈blks (r.wp k):=by
 unfold RM.bs;rw[List.mem_cons,List.mem_append,List.mem_flatMap]
def kB(s:Seg)(k:Nat)(p:zY)(c:Nat):List Value:=
 [.int .i64 k,.int .i64 s.gen,.int .i64 s.kind,.int .i64 s.n,.int .i64 (s.cards 0),.int .i64 (s.cards 1),.int .i64 (s.cards 2),.int .i64 (s.cards 3),.slice p s.n.toNat c]
def RM.row(r:RM)(m:Mem)(k:Nat):List Value:=kB (m.seg k) k (r.wp k) (r.wc k)
def Seg.ws(s:Seg):List Int:=(List.range s.n.toNat).map s.words
theorem Seg.ws_len(s:Seg):s.ws.length=s.n.toNat:=by unfold Seg.ws;simp
theorem Seg.ws_get{s:Seg}{j:Nat}(h:j<s.n.toNat):(wvs s.ws)[j]?=some (.int .u64 (s.words j)):=by
 unfold Seg.ws wvs;rw[List.map_map,List.getElem?_map,List.getElem?_range h];rfl
structure RMAt (H:zW) (r:RM) (m:Mem):Prop where
 mem:H[r.bm]?=some (.cells #[.int .i64 m.limit,.slice r.p r.L.length r.c] 77 (0,0))
 rows:Own H 83 9 r.p r.L.length r.c (r.L.flatMap (r.row m))
 words: ∀k∈r.L,Own H 33 1 (r.wp k) (m.seg k).n.toNat (r.wc k) (wvs (m.seg k).ws)
 nem:r.bm ∉ blks r.p
 new: ∀k∈r.L,∀b∈blks (r.wp k),b≠r.bm/\b ∉ blks r.p
 apart: ∀k∈r.L,∀k'∈r.L,k≠k'-> ∀b∈blks (r.wp k),b ∉ blks (r.wp k')
 nodup:r.L.Nodup
 taken: ∀k,k∈r.L ↔ (k<m.limit/\(m.seg k).taken≠0)
 order:r.L.Pairwise λi j=>(m.seg i).taken< (m.seg j).taken
 stamp: ∀k,(m.seg k).taken<=m.count
 zero: ∀k∈r.L,∀j:Nat,(m.seg k).n<=j->(m.seg k).words j=0
theorem lL: ∀(n:Nat) (L:List Nat),L.Nodup->(∀k∈L,k<n)->L.length<=n
 | 0,[],_,_=>Nat.le_refl _
 | 0,k::L,_,h=>by have:=h k (List.mem_cons_self ..);omega
 | n+1,L,hd,h=>by
  by_cases hm:n∈L
  ·have:=lL n (L.erase n) (hd.erase _) (λk hk=>by
    have h1:=(hd.mem_erase_iff).1 hk
    have:=h k h1.2
    omega)
   rw[List.length_erase_of_mem hm]at this
   omega
  ·have:=lL n L hd (λk hk=>by
    have:=h k hk
    have:k≠n:=λe=>hm (e▸hk)
    omega)
   omega
theorem RMAt.len{H:zW}{r:RM}{m:Mem}(h:RMAt H r m)(ok:cF m):r.L.length<=1024:=by
 have:=lL m.limit r.L h.nodup (λk hk=>((h.taken k).1 hk).1)
 have:=ok.lim.2
 omega
theorem RMAt.keep{S:List Nat}{H H':zW}{r:RM}{m:Mem}(h:RMAt H r m)(f:Fr S H H')(hd: ∀b∈r.bs,b ∉ S):RMAt H' r m:=
 {h with
  mem:=f.get (hd _ (RM.mem_bs.2 (.inl rfl))) h.mem
  rows:=h.rows.keep f (λb hb=>hd _ (RM.mem_bs.2 (.inr (.inl hb))))
  words:=λk hk=>(h.words k hk).keep f (λb hb=>hd _ (RM.mem_bs.2 (.inr (.inr ⟨k,hk,hb⟩))))}
theorem RMAt.ext{H H':zW}{r:RM}{m:Mem}(h:RMAt H r m)(f:Ext H H'):RMAt H' r m:=h.keep (S:=[]) f.fr (λ_ _=>by simp)
theorem RMAt.lt{H:zW}{r:RM}{m:Mem}(h:RMAt H r m): ∀b∈r.bs,b<H.size:=λb hb=>by
 rcases RM.mem_bs.1 hb with rfl | hb | ⟨k,hk,hb⟩
 ·exact bI h.mem
 ·exact h.rows.lt b hb
 ·exact(h.words k hk).lt b hb
theorem RMAt.has{H:zW}{r:RM}{m:Mem}(h:RMAt H r m){k:Int}:m.has k ↔ 0<=k/\k.toNat∈r.L:=by
 rw[h.taken]
 unfold Mem.has
 exact⟨λ⟨a,b,c⟩=>⟨a,by omega,c⟩,λ⟨a,b,c⟩=>⟨a,by omega,c⟩⟩
theorem RMAt.slAt{H:zW}{r:RM}{m:Mem}(h:RMAt H r m):hat H ((Addr.mk r.bm 0 none).add 1)=some (.slice r.p r.L.length r.c):=by
 rw[addr_add_mk,aU h.mem];rfl
theorem RMAt.limAt{H:zW}{r:RM}{m:Mem}(h:RMAt H r m):hat H (Addr.mk r.bm 0 none)=some (.int .i64 m.limit):=by
 rw[aU h.mem];rfl
theorem RMAt.row{H:zW}{r:RM}{m:Mem}(h:RMAt H r m){i k:Nat}(hi:r.L[i]?=some k):
  ∃a:Addr,r.p=some a/\a=⟨a.block,0,none⟩/\i<r.L.length/\k∈r.L/\(∀j v,(r.row m k)[j]?=some v->hat H ((a.add (i*9)).add j)=some v)/\aG H (a.add (i*9)) 0 (r.row m k):=by
 obtain⟨hlt,hk⟩:=List.getElem?_eq_some_iff.1 hi
 obtain⟨a,ha,h1,h2⟩:=h.rows.elem (f:=r.row m) (λ_=>rfl) (by decide) hlt
 rw[hk]at h1 h2
 have:=h.rows
 rw[ha]at this
 exact⟨a,ha,this.1,hlt,hk▸List.getElem_mem hlt,h1,h2⟩

def sI(m:Mem)(r:RM)(k x:Int):Prop:=(m.has k/\ ∃i:Nat,x=i/\r.L[i]?=some k.toNat)\/(¬m.has k/\x= -1)
theorem iq{H:zW}{r:RM}{m:Mem}{k:Int}(h:RMAt H r m)(ok:cF m):
  aZ.C (some ⟨r.bm,0,none⟩) k H (λv H'=>(∃x:Int,v=.int .i64 x/\sI m r k x)/\H'=H):=by
 refine HC.via λR hR=>aZ.link ?_
 unfold aZ.pt zq
 have hl:=h.len ok
 refine⟨λi H'=> ∃j:Nat,i=j/\j<=r.L.length/\H'=H/\ ∀j' (hj:j'<r.L.length),j'<j->(r.L[j']:Int)≠k,λi _=>(r.L.length-i).toNat,⟨0,rfl,Nat.zero_le _,rfl,λj' _ hj=>by omega⟩,?_⟩
 rintro i H1 ⟨j,rfl,hj,hH1,hbe⟩
 subst hH1
 refine⟨_,rfl,_,_,_,h.slAt,?_⟩
 by_cases hlt:(j:Int)< (r.L.length:Int)
 ·rw[if_pos hlt]
  have hlt':j<r.L.length:=by omega
  obtain⟨a,ha,_,_,_,hat',_⟩:=h.row (List.getElem?_eq_getElem hlt')
  refine⟨_,_,_,h.slAt,a,ha,⟨by omega,hlt⟩,?_⟩
  have h0:=hat' 0 _ rfl
  rw[fG,Nat.add_zero]at h0
  refine⟨_,h0,?_⟩
  by_cases hk:(r.L[j]:Int)=k
  ·rw[if_pos hk]
   refine hR _ _ ⟨⟨_,rfl,.inl ⟨h.has.2 ⟨by omega,?_⟩,j,rfl,?_⟩⟩,rfl⟩
   ·rw[<-hk];simp
   ·rw[<-hk];simp[hlt']
  ·rw[if_neg hk,w64 (n:=(j:Int)+1) (by omega)]
   refine⟨⟨j+1,by omega,by omega,rfl,λj' hj' hlt2=>?_⟩,by show(_-((j:Int)+1)).toNat< (_-(j:Int)).toNat;omega⟩
   rcases Nat.lt_or_ge j' j with h1 | h1
   ·exact hbe j' hj' h1
   ·have:j'=j:=by omega
    subst this;exact hk
 ·rw[if_neg hlt]
  refine hR _ _ ⟨⟨_,rfl,.inr ⟨λhh=>?_,rfl⟩⟩,rfl⟩
  obtain⟨h0,hm⟩:=h.has.1 hh
  obtain⟨j',hj',he⟩:=List.getElem_of_mem hm
  exact hbe j' hj' (by omega) (by rw[he];omega)

def tc(m:Mem)(r:RM)(a ra rb:Int)(rc:Bool):Prop:=
 (m.used a/\rc=true/\rb=a % 64/\ ∃i:Nat,ra=i/\r.L[i]?=some (a / 64).toNat)\/(¬m.used a/\rc=false)
theorem jy{H:zW}{r:RM}{m:Mem}{a:Int}(h:RMAt H r m)(ok:cF m)(ha:I64 a):
  bM.C (some ⟨r.bm,0,none⟩) a H (λv H'=>(∃(ra rb:Int) (rc:Bool),v=.tuple #[.int .i64 ra,.int .i64 rb,.bool rc]/\tc m r a ra rb rc)/\H'=H):=by
 refine HC.via λR hR=>bM.link ?_
 unfold bM.pt zq
 by_cases h0:a<0
 ·rw[if_pos h0]
  exact hR _ _ ⟨⟨_,_,_,rfl,.inr ⟨λhu=>by have:=hu.1;omega,rfl⟩⟩,rfl⟩
 rw[if_neg h0,ic (by omega),gP (by omega),w64 (n:=a / 64) (by omega)]
 refine HC.mono (iq h ok) ?_
 rintro v H1 ⟨⟨x,rfl,hx⟩,rfl⟩
 refine⟨x,rfl,?_⟩
 rcases hx with⟨hh,i,rfl,hi⟩ | ⟨hh,rfl⟩
 ·rw[if_neg (by omega)]
  obtain⟨b,hb,_,hlt,hk,hat',_⟩:=h.row hi
  have hn:=(ok.seg (a / 64).toNat).n
  refine⟨_,rfl,_,_,_,h.slAt,b,hb,⟨by omega,by omega⟩,?_⟩
  rw[Int.toNat_natCast]
  refine⟨_,_,_,hat' 8 _ rfl,?_⟩
  by_cases hlt2:a % 64>=(((m.seg (a / 64).toNat).n.toNat:Nat):Int)
  ·rw[if_pos hlt2]
   exact hR _ _ ⟨⟨_,_,_,rfl,.inr ⟨λhu=>by have:=hu.2.2;omega,rfl⟩⟩,rfl⟩
  ·rw[if_neg hlt2]
   exact hR _ _ ⟨⟨_,_,_,rfl,.inl ⟨⟨by omega,hh,by omega⟩,rfl,rfl,i,rfl,hi⟩⟩,rfl⟩
 ·rw[if_pos (by omega)]
  exact hR _ _ ⟨⟨_,_,_,rfl,.inr ⟨λhu=>hh hu.2.1,rfl⟩⟩,rfl⟩

theorem jz{H:zW}{r:RM}{m:Mem}{a:Int}(h:RMAt H r m)(ok:cF m)(ha:I64 a):
  bL.C (some ⟨r.bm,0,none⟩) a H (λv H'=>v=.tuple #[.int .u64 (if m.used a then m.get a else 0),.int .i64 (if m.used a then 0 else 18)]/\H'=H):=by
 refine HC.via λR hR=>bL.link ?_
 unfold bL.pt
 refine HC.mono (jy h ok ha) ?_
 rintro v H1 ⟨⟨ra,rb,rc,rfl,hw⟩,rfl⟩
 refine⟨ra,rb,rc,rfl,?_⟩
 rcases hw with⟨hu,rfl,rfl,i,rfl,hi⟩ | ⟨hu,rfl⟩
 ·rw[if_pos rfl]
  simp only[if_pos hu]at hR
  obtain⟨b,hb,_,hlt,hk,hat',_⟩:=h.row hi
  have hn:=(ok.seg (a / 64).toNat).n
  have hu2:=hu.2.2
  obtain⟨b2,hb2,hat2⟩:=(h.words _ hk).at (Seg.ws_get (j:=(a % 64).toNat) (by omega))
  refine⟨_,rfl,_,_,_,h.slAt,b,hb,⟨by omega,by omega⟩,?_⟩
  rw[Int.toNat_natCast]
  refine⟨_,_,_,hat' 8 _ rfl,b2,hb2,⟨by omega,by omega⟩,_,by rw[Nat.mul_one];exact hat2,?_⟩
  exact hR _ _ ⟨rfl,rfl⟩
 ·rw[if_neg (by decide)]
  simp only[if_neg hu]at hR
  exact hR _ _ ⟨rfl,rfl⟩

theorem mZ{f:Nat->List Value}{sz:Nat}(hf: ∀k,(f k).length=sz): ∀{L:List Nat} {i k o:Nat} {vs:List Value},L.Nodup->L[i]?=some k->o+vs.length<=sz->
  (L.flatMap f).take (i*sz+o)++vs++(L.flatMap f).drop (i*sz+o+vs.length)=L.flatMap (λj=>if j=k then(f k).take o++vs++(f k).drop (o+vs.length)else f j)
 | [],i,k,o,vs,_,hi,_=>by simp at hi
 | x::L,0,k,o,vs,hd,hi,ho=>by
  simp only[List.getElem?_cons_zero,Option.some.injEq]at hi
  subst hi
  have hnot:x ∉ L:=(List.nodup_cons.1 hd).1
  have hrest:L.flatMap (λj=>if j=x then(f x).take o++vs++(f x).drop (o+vs.length)else f j)=L.flatMap f:=by
   rw[List.flatMap_def,List.flatMap_def]
   congr 1
   refine List.map_congr_left λj hj=>?_
   rw[if_neg (show ¬j=x from λe=>hnot (by rw[<-e];exact hj))]
  have hfx:=hf x
  rw[List.flatMap_cons,List.flatMap_cons,hrest,if_pos rfl,Nat.zero_mul,Nat.zero_add,List.take_append_of_le_length (by omega),List.drop_append_of_le_length (by omega)]
  simp
 | x::L,i+1,k,o,vs,hd,hi,ho=>by
  simp only[List.getElem?_cons_succ]at hi
  have hx:x≠k:=λe=>(List.nodup_cons.1 hd).1 (by rw[e];exact List.mem_of_getElem? hi)
  have ih:=mZ hf (i:=i) (o:=o) (vs:=vs) (List.nodup_cons.1 hd).2 hi ho
  have hfx:=hf x
  rw[List.flatMap_cons,List.flatMap_cons,if_neg hx,<-ih,List.take_append,List.drop_append,hfx,
   show(i+1)*sz+o-sz=i*sz+o by rw[Nat.add_mul];omega,show(i+1)*sz+o+vs.length-sz=i*sz+o+vs.length by rw[Nat.add_mul];omega,
   List.take_of_length_le (l:=f x) (by rw[hfx,Nat.add_mul];omega),List.drop_of_length_le (l:=f x) (by rw[hfx,Nat.add_mul];omega)]
  simp
theorem kJ{L:List Nat}{f g:Nat->List Value}(h: ∀k∈L,f k=g k):L.flatMap f=L.flatMap g:=by
 rw[List.flatMap_def,List.flatMap_def]
 congr 1
 exact List.map_congr_left h
theorem RMAt.put{H:zW}{r:RM}{m:Mem}(h:RMAt H r m){i k o:Nat}{vs:List Value}{s:Seg}(hi:r.L[i]?=some k)(ho:o+vs.length<=9)
  (hrow:(r.row m k).take o++vs++(r.row m k).drop (o+vs.length)=kB s k (r.wp k) (r.wc k)) (hn:s.n=(m.seg k).n) (hw:s.words=(m.seg k).words) (ht:s.taken=(m.seg k).taken):
  ∃a,r.p=some a/\aJ H ((a.add (i*9)).add o) 0 vs.length/\ ∀H',H'=aP H ((a.add (i*9)).add o) vs 0->RMAt H' r (m.upd k s)/\Fr r.bs H H':=by
 obtain⟨a,ha,ha0,hlt,hk,_,_⟩:=h.row hi
 have hr:=h.rows
 rw[ha]at hr
 have hle:i*9+o+vs.length<=r.L.length*9:=by omega
 obtain⟨h1,h2⟩:=hr.puts hle
 refine⟨a,ha,by rw[fG];exact h1,λH' hH'=>?_⟩
 rw[fG]at hH'
 obtain⟨h3,f⟩:=h2 H' hH'
 rw[mZ (f:=r.row m) (λ_=>rfl) h.nodup hi ho]at h3
 have hab:a.block∈blks r.p:=by rw[ha];simp
 have tk: ∀j,((m.upd k s).seg j).taken=(m.seg j).taken:=λj=>by
  rw[Mem.upd_seg];split
  ·rename_i e;rw[e,ht]
  ·rfl
 have nn: ∀j,((m.upd k s).seg j).n=(m.seg j).n:=λj=>by
  rw[Mem.upd_seg];split
  ·rename_i e;rw[e,hn]
  ·rfl
 have ww: ∀j,((m.upd k s).seg j).words=(m.seg j).words:=λj=>by
  rw[Mem.upd_seg];split
  ·rename_i e;rw[e,hw]
  ·rfl
 refine⟨⟨f.get (λhb=>h.nem (by simp at hb;rw[hb];exact hab)) h.mem,?_,λj hj=>?_,h.nem,h.new,h.apart,h.nodup,λj=>by rw[h.taken j,tk];rfl,?_,λj=>by rw[tk];exact h.stamp j,λj hj q hq=>by rw[ww];exact h.zero j hj q (by rw[<-nn];exact hq)⟩,f.mono (λb hb _=>RM.mem_bs.2 (.inr (.inl (by simp at hb;rw[hb];exact hab))))⟩
 ·rw[ha,<-kJ (f:=λj=>if j=k then(r.row m k).take o++vs++(r.row m k).drop (o+vs.length)else r.row m j)]
  ·exact h3
  ·intro j hj
   show(if j=k then _ else _)=_
   by_cases e:j=k
   ·subst e;rw[if_pos rfl,hrow];unfold RM.row;rw[Mem.upd_same]
   ·rw[if_neg e];unfold RM.row;rw[Mem.upd_other _ _ e]
 ·have:=(h.words j hj).keep f (λb hb hm=>(h.new j hj b hb).2 (by simp at hm;rw[hm];exact hab))
  unfold Seg.ws at this⊢
  rw[nn,ww];exact this
 ·refine h.order.imp ?_
  intro x y hxy
  rw[tk,tk];exact hxy

theorem kR{H:zW}{r:RM}{m:Mem}{a w:Int}(h:RMAt H r m)(ok:cF m)(ha:I64 a):
  cD.C (some ⟨r.bm,0,none⟩) a w H (λv H'=>v=.int .i64 (if m.used a then 0 else 18)/\RMAt H' r (if m.used a then m.set a w else m)/\Fr r.bs H H'):=by
 refine HC.via λR hR=>cD.link ?_
 unfold cD.pt
 refine HC.mono (jy h ok ha) ?_
 rintro v H1 ⟨⟨ra,rb,rc,rfl,hw⟩,rfl⟩
 refine⟨ra,rb,rc,rfl,?_⟩
 rcases hw with⟨hu,rfl,rfl,i,rfl,hi⟩ | ⟨hu,rfl⟩
 ·rw[if_pos rfl]
  simp only[if_pos hu]at hR
  obtain⟨b,hb,_,hlt,hk,hat',_⟩:=h.row hi
  have hn:=(ok.seg (a / 64).toNat).n
  have hu2:=hu.2.2
  have hown:=h.words _ hk
  obtain⟨b2,hb2,hat2⟩:=hown.at (Seg.ws_get (j:=(a % 64).toNat) (by omega))
  rw[hb2]at hown
  obtain⟨h1,h2⟩:=hown.put (i:=(a % 64).toNat) (by omega) (.int .u64 w)
  refine⟨_,rfl,_,_,_,h.slAt,b,hb,⟨by omega,by omega⟩,?_⟩
  rw[Int.toNat_natCast]
  refine⟨_,_,_,hat' 8 _ rfl,b2,hb2,⟨by omega,by omega⟩,by rw[Nat.mul_one];exact h1,λH2 hH2=>?_⟩
  rw[Nat.mul_one]at hH2
  obtain⟨h3,f⟩:=h2 H2 hH2
  have hbb:b2.block∈blks (r.wp (a / 64).toNat):=by rw[hb2];simp
  generalize hkk:(a / 64).toNat=k at*
  have hmem: ∀{q:Nat},q∈[b2.block]->q=b2.block:=λh=>by simpa using h
  have sset:m.set a w=m.upd k ((m.seg k).set (a % 64).toNat w):=by unfold Mem.set;rw[hkk]
  have sg: ∀j,((m.set a w).seg j).n=(m.seg j).n/\((m.set a w).seg j).taken=(m.seg j).taken:=λj=>by
   rw[sset,Mem.upd_seg];split
   ·rename_i e;rw[e];exact⟨rfl,rfl⟩
   ·exact⟨rfl,rfl⟩
  refine hR _ _ ⟨rfl,⟨f.get (λhm=>(h.new k hk _ hbb).1 (hmem hm).symm) h.mem,?_,λj hj=>?_,h.nem,h.new,h.apart,h.nodup,λj=>by rw[h.taken j,(sg j).2];rfl,?_,λj=>by rw[(sg j).2];exact h.stamp j,λj hj q hq=>?_⟩,f.mono (λq hq _=>RM.mem_bs.2 (.inr (.inr ⟨k,hk,by rw[hmem hq];exact hbb⟩)))⟩
  ·have:=h.rows.keep f (λq hq hm=>(h.new k hk _ hbb).2 (by rw[<-hmem hm];exact hq))
   rw[kJ (g:=r.row m)]
   ·exact this
   ·intro j _
    unfold RM.row
    rw[sset,Mem.upd_seg];split
    ·rename_i e;rw[e];rfl
    ·rfl
  ·by_cases e:j=k
   ·subst e
    rw[sset,Mem.upd_same]
    have ew:wvs ((m.seg j).set (a % 64).toNat w).ws=(wvs (m.seg j).ws).set (a % 64).toNat (.int .u64 w):=by
     refine List.ext_getElem? λq=>?_
     have hle:((m.seg j).set (a % 64).toNat w).n=(m.seg j).n:=rfl
     rw[List.getElem?_set]
     have hl1:(wvs (m.seg j).ws).length=(m.seg j).n.toNat:=by unfold wvs;rw[List.length_map,Seg.ws_len]
     rcases Nat.lt_or_ge q (m.seg j).n.toNat with hq | hq
     ·rw[Seg.ws_get (by rw[hle];exact hq)]
      by_cases e2:(a % 64).toNat=q
      ·subst e2;rw[if_pos rfl,if_pos (by omega)];simp[Seg.set]
      ·rw[if_neg e2,Seg.ws_get hq];simp[Seg.set,λe=>e2 (Eq.symm e)]
       intro e3;exact absurd e3.symm e2
     ·rw[List.getElem?_eq_none (by unfold wvs;rw[List.length_map,Seg.ws_len,hle];exact hq),if_neg (by omega),List.getElem?_eq_none (by rw[hl1];exact hq)]
    rw[ew,hb2];exact h3
   ·rw[sset,Mem.upd_other _ _ e]
    exact(h.words j hj).keep f (λq hq hm=>h.apart j hj k hk e q hq (by rw[hmem hm];exact hbb))
  ·refine h.order.imp ?_
   intro x y hxy
   rw[(sg x).2,(sg y).2];exact hxy
  ·rw[(sg j).1]at hq
   rw[sset,Mem.upd_seg];split
   ·rename_i e
    subst e
    show(if q=(a % 64).toNat then w else _)=0
    rw[if_neg (by omega)];exact h.zero j hj q hq
   ·exact h.zero j hj q hq
 ·rw[if_neg (by decide)]
  simp only[if_neg hu]at hR
  exact hR _ _ ⟨rfl,h,Fr.refl _ _⟩

structure RMG (H:zW) (r:RM) (lim:Nat) (row:Nat->List Value) (ws:Nat->List Int):Prop where
 mem:H[r.bm]?=some (.cells #[.int .i64 lim,.slice r.p r.L.length r.c] 77 (0,0))
 rows:Own H 83 9 r.p r.L.length r.c (r.L.flatMap row)
 words: ∀k∈r.L,Own H 33 1 (r.wp k) (ws k).length (r.wc k) (wvs (ws k))
 nem:r.bm ∉ blks r.p
 new: ∀k∈r.L,∀b∈blks (r.wp k),b≠r.bm/\b ∉ blks r.p
 apart: ∀k∈r.L,∀k'∈r.L,k≠k'-> ∀b∈blks (r.wp k),b ∉ blks (r.wp k')
 nodup:r.L.Nodup
theorem RMAt.g{H:zW}{r:RM}{m:Mem}(h:RMAt H r m):RMG H r m.limit (r.row m) (λk=>(m.seg k).ws):=
 ⟨h.mem,h.rows,λk hk=>by rw[Seg.ws_len];exact h.words k hk,h.nem,h.new,h.apart,h.nodup⟩
theorem RMG.at'{H:zW}{r:RM}{m:Mem}{row:Nat->List Value}{ws:Nat->List Int}(h:RMG H r m.limit row ws)(hrow: ∀k∈r.L,row k=r.row m k)(hws: ∀k∈r.L,ws k=(m.seg k).ws)
  (taken: ∀k,k∈r.L ↔ (k<m.limit/\(m.seg k).taken≠0)) (order:r.L.Pairwise λi j=>(m.seg i).taken< (m.seg j).taken) (stamp: ∀k,(m.seg k).taken<=m.count)
  (zero: ∀k∈r.L,∀j:Nat,(m.seg k).n<=j->(m.seg k).words j=0):RMAt H r m:=
 ⟨h.mem,by rw[<-kJ hrow];exact h.rows,λk hk=>by have:=h.words k hk;rw[hws k hk,Seg.ws_len]at this;exact this,h.nem,h.new,h.apart,h.nodup,taken,order,stamp,zero⟩
theorem RMG.lt{H:zW}{r:RM}{lim:Nat}{row:Nat->List Value}{ws:Nat->List Int}(h:RMG H r lim row ws): ∀b∈r.bs,b<H.size:=λb hb=>by
 rcases RM.mem_bs.1 hb with rfl | hb | ⟨k,hk,hb⟩
 ·exact bI h.mem
 ·exact h.rows.lt b hb
 ·exact(h.words k hk).lt b hb
theorem RMG.put{H:zW}{r:RM}{lim:Nat}{row:Nat->List Value}{ws:Nat->List Int}(h:RMG H r lim row ws)(hl: ∀k,(row k).length=9){i k o:Nat}{vs:List Value}(hi:r.L[i]?=some k)(ho:o+vs.length<=9):
  ∃a,r.p=some a/\(∀j v,(row k)[j]?=some v->hat H ((a.add (i*9)).add j)=some v)/\aJ H ((a.add (i*9)).add o) 0 vs.length/\ ∀H',H'=aP H ((a.add (i*9)).add o) vs 0->
   RMG H' r lim (λj=>if j=k then(row k).take o++vs++(row k).drop (o+vs.length)else row j) ws/\Fr r.bs H H':=by
 obtain⟨hlt,hk⟩:=List.getElem?_eq_some_iff.1 hi
 obtain⟨a,ha,hat',_⟩:=h.rows.elem (f:=row) hl (by decide) hlt
 rw[hk]at hat'
 have hr:=h.rows
 rw[ha]at hr
 obtain⟨h1,h2⟩:=hr.puts (o:=i*9+o) (vs:=vs) (by omega)
 have hab:a.block∈blks r.p:=by rw[ha];simp
 refine⟨a,ha,hat',by rw[fG];exact h1,λH' hH'=>?_⟩
 rw[fG]at hH'
 obtain⟨h3,f⟩:=h2 H' hH'
 rw[mZ (f:=row) hl h.nodup hi ho]at h3
 exact⟨⟨f.get (λhb=>h.nem (by simp at hb;rw[hb];exact hab)) h.mem,by rw[ha];exact h3,λj hj=>(h.words j hj).keep f (λb hb hm=>(h.new j hj b hb).2 (by simp at hm;rw[hm];exact hab)),h.nem,h.new,h.apart,h.nodup⟩,
  f.mono (λb hb _=>RM.mem_bs.2 (.inr (.inl (by simp at hb;rw[hb];exact hab))))⟩
def RM.setW(r:RM)(k:Nat)(p:zY)(c:Nat):RM:={r with wp:=λj=>if j=k then p else r.wp j,wc:=λj=>if j=k then c else r.wc j}
theorem RM.setW_same(r:RM)(k:Nat):r.setW k (r.wp k) (r.wc k)=r:=by
 unfold RM.setW
 have h1:(λj=>if j=k then r.wp k else r.wp j)=r.wp:=by
  funext j;split
  ·rename_i e;rw[e]
  ·rfl
 have h2:(λj=>if j=k then r.wc k else r.wc j)=r.wc:=by
  funext j;split
  ·rename_i e;rw[e]
  ·rfl
 rw[h1,h2]
theorem RM.setW_twice(r:RM)(k:Nat)(p q:zY)(c d:Nat):(r.setW k p c).setW k q d=r.setW k q d:=by
 unfold RM.setW
 congr 1
 ·funext j;dsimp;split<;>rfl
 ·funext j;dsimp;split<;>rfl
theorem RM.setW_bs{r:RM}{k:Nat}{p:zY}{c n:Nat}(hp: ∀b∈blks p,b∈blks (r.wp k)\/n<=b)(hk:k∈r.L){b:Nat}(hb:b∈(r.setW k p c).bs):b∈r.bs\/n<=b:=by
 rcases RM.mem_bs.1 hb with rfl | hb | ⟨j,hj,hb⟩
 ·exact .inl (RM.mem_bs.2 (.inl rfl))
 ·exact .inl (RM.mem_bs.2 (.inr (.inl hb)))
 ·have hb':b∈blks (if j=k then p else r.wp j):=hb
  by_cases e:j=k
  ·rw[if_pos e]at hb'
   rcases hp b hb' with h | h
   ·exact .inl (RM.mem_bs.2 (.inr (.inr ⟨k,hk,h⟩)))
   ·exact .inr h
  ·rw[if_neg e]at hb'
   exact .inl (RM.mem_bs.2 (.inr (.inr ⟨j,hj,hb'⟩)))
theorem RMG.app{H:zW}{r:RM}{lim:Nat}{row:Nat->List Value}{ws:Nat->List Int}(h:RMG H r lim row ws){k b:Nat}{u:Int}{H3:zW}{K:zY->Nat->zW->Prop}(hk:k∈r.L)(hl:(ws k).length<=1000)
  (hb:b=H.size) (hH3:H3=H.push (.cells #[.int .u64 u] 33))
  (hK: ∀p c H4,RMG H4 (r.setW k p c) lim row (λj=>if j=k then ws k++[u]else ws j)->Fr r.bs H H4->(∀q∈blks p,q∈blks (r.wp k)\/H.size<=q)->K p c H4):
  bW 1 33 8 [.int .u64 0] (r.wp k) (ws k).length (r.wc k) (some (Addr.mk b 0 none)) 1 H3 K:=by
 have e3:Ext H H3:=Ext.push' hH3
 have hsz:=e3.size
 refine cZ (ys:=wvs [u]) ((h.words k hk).ext e3) (dH (aO hb hH3) _ 0 0 (λj hj=>by simp[wvs])) (by simp[wvs]) (gM _) rfl (by omega) ?_
 intro p c H4 ho f hn
 have f':Fr (blks (r.wp k)) H H4:=e3.fr.trans f
 have hn': ∀q∈blks p,q∈blks (r.wp k)\/H.size<=q:=λq hq=>(hn q hq).imp id (λh=>by omega)
 have hlt:=h.lt
 refine hK p c H4 ⟨f'.get (λhm=>(h.new k hk _ hm).1 rfl) h.mem,h.rows.keep f' (λq hq hm=>(h.new k hk _ hm).2 hq),λj hj=>?_,h.nem,λj hj q hq=>?_,λj hj j' hj' hne q hq=>?_,h.nodup⟩ (f'.mono λq hq _=>RM.mem_bs.2 (.inr (.inr ⟨k,hk,hq⟩))) hn'
 ·show Own H4 _ 1 (if j=k then p else r.wp j) (if j=k then ws k++[u]else ws j).length (if j=k then c else r.wc j) (wvs (if j=k then ws k++[u]else ws j))
  by_cases e:j=k
  ·simp only[if_pos e]
   have:wvs (ws k++[u])=wvs (ws k)++wvs [u]:=by unfold wvs;rw[List.map_append]
   rw[this,List.length_append];exact ho
  ·simp only[if_neg e]
   exact(h.words j hj).keep f' (λq hq hm=>h.apart j hj k hk e q hq hm)
 ·have hq':q∈blks (if j=k then p else r.wp j):=hq
  by_cases e:j=k
  ·rw[if_pos e]at hq'
   rcases hn' q hq' with h1 | h1
   ·exact h.new k hk q h1
   ·exact⟨λe=>by have:=hlt r.bm (RM.mem_bs.2 (.inl rfl));have e':q=r.bm:=e;omega,λhm=>by have:=hlt q (RM.mem_bs.2 (.inr (.inl hm)));omega⟩
  ·rw[if_neg e]at hq'
   exact h.new j hj q hq'
 ·have hq':q∈blks (if j=k then p else r.wp j):=hq
  intro hq2
  have hq2':q∈blks (if j'=k then p else r.wp j'):=hq2
  by_cases e:j=k
  ·rw[if_pos e]at hq'
   rw[if_neg (λe2=>hne (e.trans e2.symm))]at hq2'
   rcases hn' q hq' with h1 | h1
   ·exact h.apart k hk j' hj' (e▸hne) q h1 hq2'
   ·have:=hlt q (RM.mem_bs.2 (.inr (.inr ⟨j',hj',hq2'⟩)));omega
  ·rw[if_neg e]at hq'
   by_cases e2:j'=k
   ·rw[if_pos e2]at hq2'
    rcases hn' q hq2' with h1 | h1
    ·exact h.apart j hj k hk e q hq' h1
    ·have:=hlt q (RM.mem_bs.2 (.inr (.inr ⟨j,hj,hq'⟩)));omega
   ·rw[if_neg e2]at hq2'
    exact h.apart j hj j' hj' hne q hq' hq2'

def jZ(s:Seg)(k:Nat)(p:zY)(n c:Nat):List Value:=
 [.int .i64 k,.int .i64 s.gen,.int .i64 s.kind,.int .i64 s.n,.int .i64 (s.cards 0),.int .i64 (s.cards 1),.int .i64 (s.cards 2),.int .i64 (s.cards 3),.slice p n c]
theorem sJ{s:Seg}{d:Nat}(hn:0<=s.n)(hz: ∀j:Nat,s.n<=j->s.words j=0):(s.bump d).ws=s.ws++List.replicate d 0:=by
 unfold Seg.ws Seg.bump
 dsimp
 rw[show(s.n+(d:Int)).toNat=s.n.toNat+d by omega,List.range_add,List.map_append,List.map_map]
 congr 1
 refine List.ext_getElem? λi=>?_
 rw[List.getElem?_map,List.getElem?_replicate]
 by_cases hi:i<d
 ·rw[List.getElem?_range hi,if_pos hi]
  simp only[Option.map_some,Function.comp_apply]
  rw[hz _ (by omega)]
 ·rw[List.getElem?_eq_none (by simp;omega),if_neg hi];rfl
theorem oh{H:zW}{r:RM}{m:Mem}{k d:Int}(h:RMAt H r m)(ok:cF m)(hk64:I64 k):
  bU.C (some ⟨r.bm,0,none⟩) k d H (λv H'=>v=.tuple #[.int .i64 (m.bump k d).2.1,.int .i64 (m.bump k d).2.2]/\(∃p c,RMAt H' (r.setW k.toNat p c) (m.bump k d).1/\(∀b∈(r.setW k.toNat p c).bs,b∈r.bs\/H.size<=b))/\Fr r.bs H H'):=by
 refine HC.via λR hR=>bU.link ?_
 unfold bU.pt zq
 refine HC.mono (iq h ok) ?_
 rintro v H1 ⟨⟨x,rfl,hx⟩,rfl⟩
 refine⟨x,rfl,?_⟩
 have same: ∀e,m.bump k d=(m,0,e)->R (.tuple #[.int .i64 0,.int .i64 e]) H1:=λe he=>by
  rw[he]at hR
  exact hR _ _ ⟨rfl,⟨r.wp k.toNat,r.wc k.toNat,by rw[RM.setW_same];exact h,λb hb=> .inl (by rw[RM.setW_same]at hb;exact hb)⟩,Fr.refl _ _⟩
 rcases hx with⟨hh,i,rfl,hi⟩ | ⟨hh,rfl⟩
 case inr=>
  rw[if_pos (by omega)]
  exact same 19 (by unfold Mem.bump;rw[if_pos hh])
 rw[if_neg (by omega)]
 by_cases hd:d<1
 ·rw[if_pos hd]
  exact same 1 (by unfold Mem.bump;rw[if_neg (λhn=>hn hh),if_pos hd])
 rw[if_neg hd]
 obtain⟨a,ha,ha0,hlt,hk,hat',_⟩:=h.row hi
 have hn:=(ok.seg k.toNat).n
 have hlen:=h.len ok
 refine⟨_,rfl,_,_,_,h.slAt,a,ha,⟨by omega,by omega⟩,?_⟩
 rw[Int.toNat_natCast]
 by_cases h64:d>64
 ·rw[if_pos h64]
  exact same 2 (by unfold Mem.bump;rw[if_neg (λhn=>hn hh),if_neg hd,if_pos (by omega)])
 rw[if_neg h64]
 refine⟨_,_,_,hat' 8 _ rfl,?_⟩
 rw[w64 (n:=(((m.seg k.toNat).n.toNat:Nat):Int)+d) (by omega)]
 by_cases hfit:(((m.seg k.toNat).n.toNat:Nat):Int)+d>64
 ·rw[if_pos hfit]
  exact same 2 (by unfold Mem.bump;rw[if_neg (λhn=>hn hh),if_neg hd,if_pos (by omega)])
 rw[if_neg hfit]
 have hbump:m.bump k d=(m.upd k.toNat ((m.seg k.toNat).bump d),k*64+(m.seg k.toNat).n,0):=by
  unfold Mem.bump;rw[if_neg (λhn=>hn hh),if_neg hd,if_neg (by omega)]
 refine⟨_,_,_,hat' 8 _ rfl,?_⟩
 obtain⟨hk0,hklim,_⟩:=hh
 have hlim:=ok.lim
 obtain⟨D,hD⟩: ∃D:Nat,d=D:=⟨d.toNat,by omega⟩
 subst hD
 obtain⟨kn,hkn⟩: ∃kn:Nat,k=kn:=⟨k.toNat,by omega⟩
 subst hkn
 simp only[Int.toNat_natCast]at*
 refine⟨λiv H'=> ∃(j:Nat) (p:zY) (c:Nat),iv=j/\j<=D/\RMG H' (r.setW kn p c) m.limit (λq=>if q=kn then jZ (m.seg kn) kn p ((m.seg kn).n.toNat+j) c else r.row m q) (λq=>if q=kn then(m.seg kn).ws++List.replicate j 0 else(m.seg q).ws)/\Fr r.bs H1 H'/\(∀q∈blks p,q∈blks (r.wp kn)\/H1.size<=q),
  λiv _=>((D:Int)-iv).toNat,⟨0,r.wp kn,r.wc kn,rfl,Nat.zero_le _,?_,Fr.refl _ _,λq hq=> .inl hq⟩,?_⟩
 ·rw[RM.setW_same]
  have e1:(λq=>if q=kn then jZ (m.seg kn) kn (r.wp kn) ((m.seg kn).n.toNat+0) (r.wc kn)else r.row m q)=r.row m:=funext λq=>by
   split
   ·rename_i e;rw[e];rfl
   ·rfl
  have e2:(λq=>if q=kn then(m.seg kn).ws++List.replicate 0 0 else(m.seg q).ws)=λq=>(m.seg q).ws:=funext λq=>by
   split
   ·rename_i e;rw[e];simp
   ·rfl
  rw[e1,e2];exact h.g
 rintro iv H2 ⟨j,p,c,rfl,hj,g,f,hp⟩
 have hrl: ∀q,(if q=kn then jZ (m.seg kn) kn p ((m.seg kn).n.toNat+j) c else r.row m q).length=9:=λq=>by split<;>rfl
 have hwl:((m.seg kn).ws++List.replicate j 0).length=(m.seg kn).n.toNat+j:=by rw[List.length_append,Seg.ws_len,List.length_replicate]
 by_cases hjd:(j:Int)< (D:Int)
 ·rw[if_pos hjd]
  obtain⟨a1,ha1,hat1,_,_⟩:=g.put hrl (o:=0) (vs:=[]) hi (by simp)
  rw[show(r.setW kn p c).p=r.p from rfl,ha]at ha1
  cases ha1
  have h8:=hat1 8 _ (by rw[if_pos rfl];rfl)
  refine⟨_,_,_,h8,?_⟩
  intro b H3 hb hH3
  have key: ∀K:zY->Nat->zW->Prop,(∀p4 c4 H4,RMG H4 ((r.setW kn p c).setW kn p4 c4) m.limit (λq=>if q=kn then jZ (m.seg kn) kn p ((m.seg kn).n.toNat+j) c else r.row m q) (λq=>if q=kn then(if kn=kn then(m.seg kn).ws++List.replicate j 0 else(m.seg kn).ws)++[0]else(if q=kn then(m.seg kn).ws++List.replicate j 0 else(m.seg q).ws))->Fr (r.setW kn p c).bs H2 H4->(∀q∈blks p4,q∈blks ((r.setW kn p c).wp kn)\/H2.size<=q)->K p4 c4 H4)->
    bW 1 33 8 [.int .u64 0] p ((m.seg kn).n.toNat+j) c (some (Addr.mk b 0 none)) 1 H3 K:=λK hK=>by
   have happ:=g.app (k:=kn) (u:=0) (K:=K) hk (by simp only[if_true];rw[hwl];omega) hb hH3 hK
   simp only[if_true]at happ
   rw[show(r.setW kn p c).wp kn=p by simp[RM.setW],show(r.setW kn p c).wc kn=c by simp[RM.setW],hwl]at happ
   exact happ
  refine key _ ?_
  ·intro p4 c4 H4 g4 f4 hn4
   rw[RM.setW_twice]at g4
   have hrl4: ∀q,(if q=kn then jZ (m.seg kn) kn p ((m.seg kn).n.toNat+j) c else r.row m q).length=9:=hrl
   obtain⟨a2,ha2,_,h1,h2⟩:=g4.put hrl4 (o:=8) (vs:=[.slice p4 ((m.seg kn).n.toNat+j+1) c4]) hi (by simp)
   rw[show(r.setW kn p4 c4).p=r.p from rfl,ha]at ha2
   cases ha2
   refine⟨h1,λH5 hH5=>?_⟩
   obtain⟨g5,f5⟩:=h2 H5 hH5
   rw[show(r.setW kn p c).wp kn=p by simp[RM.setW]]at hn4
   have hs2:=f.size
   have f4':Fr r.bs H1 H4:=f.trans' f4 (λ_ hb _=>hb) (λq hq hlt=>(RM.setW_bs hp hk hq).elim id (λh=>by omega))
   have hp4: ∀q∈blks p4,q∈blks (r.wp kn)\/H1.size<=q:=λq hq=>by
    rcases hn4 q hq with h | h
    ·exact hp q h
    ·exact .inr (by omega)
   have f5':Fr r.bs H1 H5:=f4'.trans' f5 (λ_ hb _=>hb) (λq hq hlt=>(RM.setW_bs hp4 hk hq).elim id (λh=>by omega))
   rw[w64 (n:=(j:Int)+1) (by omega)]
   refine⟨⟨j+1,p4,c4,by omega,by omega,?_,f5',hp4⟩,by show((D:Int)-((j:Int)+1)).toNat< ((D:Int)-(j:Int)).toNat;omega⟩
   have er:(λq=>if q=kn then jZ (m.seg kn) kn p4 ((m.seg kn).n.toNat+(j+1)) c4 else r.row m q)=(λq=>if q=kn then(if kn=kn then jZ (m.seg kn) kn p ((m.seg kn).n.toNat+j) c else r.row m kn).take 8++[.slice p4 ((m.seg kn).n.toNat+j+1) c4]++(if kn=kn then jZ (m.seg kn) kn p ((m.seg kn).n.toNat+j) c else r.row m kn).drop (8+[Value.slice p4 ((m.seg kn).n.toNat+j+1) c4].length)else(if q=kn then jZ (m.seg kn) kn p ((m.seg kn).n.toNat+j) c else r.row m q)):=funext λq=>by
    by_cases e:q=kn
    ·simp only[if_pos e,if_true];rfl
    ·simp only[if_neg e]
   have ew:(λq=>if q=kn then(m.seg kn).ws++List.replicate (j+1) 0 else(m.seg q).ws)=(λq=>if q=kn then(if kn=kn then(m.seg kn).ws++List.replicate j 0 else(m.seg kn).ws)++[0]else(if q=kn then(m.seg kn).ws++List.replicate j 0 else(m.seg q).ws)):=funext λq=>by
    by_cases e:q=kn
    ·simp only[if_pos e,if_true];rw[List.append_assoc,<-List.replicate_succ']
    ·simp only[if_neg e]
   rw[er,ew];exact g5
 rw[if_neg hjd]
 have hjD:j=D:=by omega
 subst hjD
 obtain⟨a1,ha1,hat1,h1,h2⟩:=g.put hrl (o:=3) (vs:=[.int .i64 (((m.seg kn).n.toNat+j:Nat):Int)]) hi (by simp)
 rw[show(r.setW kn p c).p=r.p from rfl,ha]at ha1
 cases ha1
 have h8:=hat1 8 _ (by rw[if_pos rfl];rfl)
 refine⟨_,_,_,h8,?_⟩
 rw[fG (a.add (i*9)) 1 2]
 refine⟨h1,λH6 hH6=>?_⟩
 obtain⟨g6,f6⟩:=h2 H6 hH6
 have hs2:=f.size
 have f6':Fr r.bs H1 H6:=f.trans' f6 (λ_ hb _=>hb) (λq hq hlt=>(RM.setW_bs hp hk hq).elim id (λh=>by omega))
 rw[w64 (n:=(kn:Int)*64) (by omega),w64 (by omega),show(kn:Int)*64+(((m.seg kn).n.toNat:Nat):Int)=(kn:Int)*64+(m.seg kn).n by omega]
 rw[hbump]at hR
 have sg: ∀q,((m.upd kn ((m.seg kn).bump j)).seg q).taken=(m.seg q).taken/\((m.upd kn ((m.seg kn).bump j)).seg q).words=(m.seg q).words/\(m.seg q).n<=((m.upd kn ((m.seg kn).bump j)).seg q).n:=λq=>by
  rw[Mem.upd_seg];split
  ·rename_i e;rw[e];exact⟨rfl,rfl,by show _<=(m.seg kn).n+(j:Int);omega⟩
  ·exact⟨rfl,rfl,Int.le_refl _⟩
 refine hR _ _ ⟨rfl,⟨p,c,g6.at' (m:=m.upd kn ((m.seg kn).bump j)) (λq hq=>?_) (λq hq=>?_) (λq=>by rw[show(r.setW kn p c).L=r.L from rfl,h.taken q,(sg q).1];rfl) ?_ (λq=>by rw[(sg q).1];exact h.stamp q) (λq hq z hz=>by rw[(sg q).2.1];exact h.zero q hq z (by have:=(sg q).2.2;omega)),λb hb=>RM.setW_bs hp hk hb⟩,f6'⟩
 ·unfold RM.row
  by_cases e:q=kn
  ·subst e
   simp only[if_true]
   rw[Mem.upd_same,show(r.setW q p c).wp q=p by simp[RM.setW],show(r.setW q p c).wc q=c by simp[RM.setW]]
   unfold kB jZ Seg.bump
   simp only[List.take_succ_cons,List.take_zero,List.drop_succ_cons,List.drop_zero,List.length_cons,List.length_nil,List.cons_append,List.nil_append]
   rw[show(m.seg q).n+(j:Int)=(((m.seg q).n.toNat+j:Nat):Int)by omega,Int.toNat_natCast]
  ·simp only[if_neg e]
   rw[Mem.upd_other _ _ e,show(r.setW kn p c).wp q=r.wp q by simp[RM.setW,e],show(r.setW kn p c).wc q=r.wc q by simp[RM.setW,e]]
 ·by_cases e:q=kn
  ·subst e
   simp only[if_true]
   rw[Mem.upd_same,sJ hn.1 (h.zero q hq)]
  ·simp only[if_neg e]
   rw[Mem.upd_other _ _ e]
 ·refine h.order.imp ?_
  intro x y hxy
  rw[(sg x).1,(sg y).1];exact hxy

def oX(H H':zW)(r:RM)(m':Mem):Prop:= ∃r':RM,RMAt H' r' m'/\r'.bm=r.bm/\(∀b∈r'.bs,b∈r.bs\/H.size<=b)
theorem oX.same{H H':zW}{r:RM}{m:Mem}(h:RMAt H' r m):oX H H' r m:=⟨r,h,rfl,λb hb=> .inl hb⟩
theorem kS{H:zW}{r:RM}{m:Mem}{k d:Int}(h:RMAt H r m)(ok:cF m)(hk64:I64 k):
  bU.C (some ⟨r.bm,0,none⟩) k d H (λv H'=>v=.tuple #[.int .i64 (m.bump k d).2.1,.int .i64 (m.bump k d).2.2]/\oX H H' r (m.bump k d).1/\Fr r.bs H H'):=by
 refine HC.mono (oh h ok hk64) ?_
 rintro v H' ⟨rfl,⟨p,c,h1,h2⟩,f⟩
 exact⟨rfl,⟨_,h1,rfl,h2⟩,f⟩

theorem ol{H:zW}{r:RM}{m:Mem}{gen kind:Int}(h:RMAt H r m)(ok:cF m):
  cX.C (some ⟨r.bm,0,none⟩) gen kind H (λv H'=>v=.tuple #[.int .i64 (m.take gen kind).2.1,.int .i64 (m.take gen kind).2.2]/\oX H H' r (m.take gen kind).1/\Fr r.bs H H'):=by
 refine HC.via λR hR=>cX.link ?_
 unfold cX.pt zq
 have same: ∀e,m.take gen kind=(m,0,e)->R (.tuple #[.int .i64 0,.int .i64 e]) H:=λe he=>by
  rw[he]at hR
  exact hR _ _ ⟨rfl,.same h,Fr.refl _ _⟩
 by_cases hc:gen<0\/4<gen\/kind<0\/3<kind
 ·rw[if_pos (by simp only[Bool.or_eq_true,decide_eq_true_eq];omega)]
  exact same 1 (by unfold Mem.take;rw[if_pos hc])
 rw[if_neg (by simp only[Bool.or_eq_true,decide_eq_true_eq];omega)]
 have hlim:=ok.lim
 have hlen:=h.len ok
 refine⟨λk H'=> ∃j:Nat,k=j/\j<=m.limit/\H'=H/\ ∀j',j'<j->(m.seg j').taken≠0,λk _=>((m.limit:Int)-k).toNat,⟨0,rfl,Nat.zero_le _,rfl,λj' hj=>by omega⟩,?_⟩
 rintro iv H1 ⟨k,rfl,hk,hH1,hb⟩
 subst hH1
 refine⟨_,rfl,_,h.limAt,?_⟩
 by_cases hlt:(k:Int)< (m.limit:Int)
 case neg=>
  rw[if_neg hlt]
  have hfree:m.free=0:=by
   rw[ok.free]
   by_cases hn:m.nfree=0
   ·rw[hn];rfl
   ·obtain⟨q,hq,h0⟩:=Mem.nfree_pos hn
    exact absurd h0 (hb q (by omega))
  exact same 2 (by unfold Mem.take;rw[if_neg hc,if_pos hfree])
 rw[if_pos hlt]
 refine HC.mono (iq h ok) ?_
 rintro v H2 ⟨⟨x,rfl,hx⟩,rfl⟩
 refine⟨x,rfl,?_⟩
 rcases hx with⟨hh,i,rfl,hi⟩ | ⟨hh,rfl⟩
 ·rw[if_neg (by omega),w64 (n:=(k:Int)+1) (by omega)]
  refine⟨⟨k+1,by omega,by omega,rfl,λj' hj'=>?_⟩,by show((m.limit:Int)-((k:Int)+1)).toNat< ((m.limit:Int)-(k:Int)).toNat;omega⟩
  rcases Nat.lt_or_ge j' k with h1 | h1
  ·exact hb j' h1
  ·have:j'=k:=by omega
   subst this
   have:=hh.2.2;simpa using this
 rw[if_pos (by omega)]
 have h0:(m.seg k).taken=0:=by
  by_cases h0:(m.seg k).taken=0
  ·exact h0
  ·exact absurd ⟨by omega,hlt,by simpa using h0⟩ hh
 have hfirst:m.first=k:=Mem.first_eq (by omega) h0 hb
 have hfree:m.free≠0:=by
  have:=Mem.nfree_take (s:=Seg.new gen kind 1) (show k<m.limit by omega) h0 (show(1:Int)≠0 by decide)
  rw[ok.free];omega
 have htake:m.take gen kind=({m with count:=m.count+1,free:=m.free-1}.upd k (Seg.new gen kind (m.count+1)),(k:Int),0):=by
  unfold Mem.take;rw[if_neg hc,if_neg hfree,hfirst]
 rw[htake]at hR
 have hkL:k ∉ r.L:=λhm=>((h.taken k).1 hm).2 h0
 refine⟨_,_,_,h.slAt,?_⟩
 intro b H3 hb3 hH3
 have e3:Ext H2 H3:=Ext.push' hH3
 have hsz:=e3.size
 refine cZ (ys:=kB (Seg.new gen kind (m.count+1)) k none 0) (h.rows.ext e3) (dH (aO hb3 hH3) _ 0 0 (λj hj=>by simp[kB,Seg.new])) rfl rfl rfl (by omega) ?_
 intro p c H4 ho f hn
 have f':Fr (blks r.p) H2 H4:=e3.fr.trans f
 have hn': ∀q∈blks p,q∈blks r.p\/H2.size<=q:=λq hq=>(hn q hq).imp id (λh=>by omega)
 have g4:=f'.get h.nem h.mem
 have hlt4:=h.lt
 rw[addr_add_mk]
 refine⟨eJ g4 _ _ _ (by simp),λH5 hH5=>?_⟩
 rw[gj _ _ _ _ 0 g4]at hH5
 have f5:Fr [r.bm] H4 H5:=by rw[hH5];exact Fr.set
 have hbmp:r.bm ∉ blks p:=λhm=>by
  rcases hn' _ hm with h1 | h1
  ·exact h.nem h1
  ·have:=hlt4 r.bm (RM.mem_bs.2 (.inl rfl));omega
 have f25:Fr r.bs H2 H5:=(f'.mono (S':=r.bs) (λq hq _=>RM.mem_bs.2 (.inr (.inl hq)))).trans (f5.mono (λq hq _=>by simp at hq;rw[hq];exact RM.mem_bs.2 (.inl rfl)))
 have tk: ∀j∈r.L,({m with count:=m.count+1,free:=m.free-1}.upd k (Seg.new gen kind (m.count+1))).seg j=m.seg j:=λj hj=>by
  rw[Mem.upd_seg,if_neg (show ¬j=k from λe=>hkL (by rw[<-e];exact hj))]
 have hkk:({m with count:=m.count+1,free:=m.free-1}.upd k (Seg.new gen kind (m.count+1))).seg k=Seg.new gen kind (m.count+1):=by rw[Mem.upd_seg,if_pos rfl]
 refine hR _ _ ⟨rfl,⟨⟨r.bm,p,c,r.L++[k],λj=>if j=k then none else r.wp j,λj=>if j=k then 0 else r.wc j⟩,?_,rfl,λq hq=>?_⟩,f25⟩
 ·have wpo: ∀j∈r.L,(if j=k then none else r.wp j)=r.wp j/\(if j=k then 0 else r.wc j)=r.wc j:=λj hj=>by
   have hne: ¬j=k:=λe=>hkL (by rw[<-e];exact hj)
   rw[if_neg hne,if_neg hne];exact⟨rfl,rfl⟩
  refine⟨?_,?_,λj hj=>?_,hbmp,λj hj q hq=>?_,λj hj j' hj' hne q hq=>?_,?_,λj=>?_,?_,λj=>?_,λj hj q hq=>?_⟩
  ·rw[hH5,dU (bI g4),List.length_append];rfl
  ·have h5:=ho.keep f5 (λq hq hm=>hbmp (by simp at hm;rw[<-hm];exact hq))
   rw[List.length_append,List.flatMap_append,kJ (g:=r.row m) (λj hj=>?_)]
   ·show Own H5 _ 9 p (r.L.length+1) c (r.L.flatMap (r.row m)++([k].flatMap _))
    rw[List.flatMap_cons,List.flatMap_nil,List.append_nil]
    unfold RM.row
    rw[hkk]
    dsimp
    rw[if_pos rfl,if_pos rfl]
    exact h5
   ·unfold RM.row
    dsimp
    rw[tk j hj,(wpo j hj).1,(wpo j hj).2]
  ·rcases List.mem_append.1 hj with hj | hj
   ·dsimp
    rw[tk j hj,(wpo j hj).1,(wpo j hj).2]
    refine(((h.words j hj).keep f' (λq hq hm=>(h.new j hj q hq).2 hm))).keep f5 (λq hq hm=>(h.new j hj q hq).1 (by simpa using hm))
   ·simp at hj;subst hj
    dsimp
    rw[if_pos rfl,if_pos rfl,hkk]
    exact gH
  ·rcases List.mem_append.1 hj with hj | hj
   ·have hq':q∈blks (r.wp j):=by rw[<-(wpo j hj).1];exact hq
    refine⟨(h.new j hj q hq').1,λhm=>?_⟩
    rcases hn' q hm with h1 | h1
    ·exact(h.new j hj q hq').2 h1
    ·have:=hlt4 q (RM.mem_bs.2 (.inr (.inr ⟨j,hj,hq'⟩)));omega
   ·simp at hj;subst hj
    have:q∈blks (if j=j then none else r.wp j):=hq
    rw[if_pos rfl]at this;simp at this
  ·have none': ∀{x},x=k-> ∀z,z ∉ blks (if x=k then none else r.wp x):=λhx z=>by rw[if_pos hx];simp
   rcases List.mem_append.1 hj with hj | hj
   ·rcases List.mem_append.1 hj' with hj' | hj'
    ·have hq':q∈blks (r.wp j):=by rw[<-(wpo j hj).1];exact hq
     intro hm
     have hm':q∈blks (r.wp j'):=by rw[<-(wpo j' hj').1];exact hm
     exact h.apart j hj j' hj' hne q hq' hm'
    ·simp at hj';exact none' hj' q
   ·simp at hj;exact absurd hq (none' hj q)
  ·rw[List.nodup_append]
   exact⟨h.nodup,by simp,λx hx y hy e=>by simp at hy;exact hkL (by rw[<-hy,<-e];exact hx)⟩
  ·rw[List.mem_append,h.taken,Mem.upd_seg]
   show _ ↔ j<m.limit/\_
   by_cases e:j=k
   ·subst e
    rw[if_pos rfl]
    have hcn:=ok.count
    exact⟨λ_=>⟨by omega,by show m.count+1≠0;omega⟩,λ_=> .inr (by simp)⟩
   ·rw[if_neg e]
    simp[e]
  ·rw[List.pairwise_append]
   refine⟨?_,by simp,λx hx y hy=>?_⟩
   ·refine List.Pairwise.imp_of_mem ?_ h.order
    intro x y hx hy hxy
    rw[tk x hx,tk y hy];exact hxy
   ·simp at hy;subst hy
    rw[tk x hx,hkk]
    have:=h.stamp x
    show _<m.count+1
    omega
  ·rw[Mem.upd_seg]
   show _<=m.count+1
   split
   ·show m.count+1<=m.count+1;omega
   ·have:=h.stamp j;show(m.seg j).taken<=_;omega
  ·rcases List.mem_append.1 hj with hj | hj
   ·rw[tk j hj]at hq⊢;exact h.zero j hj q hq
   ·simp at hj;subst hj
    rw[hkk];rfl
 ·rcases RM.mem_bs.1 hq with rfl | hq | ⟨j,hj,hq⟩
  ·exact .inl (RM.mem_bs.2 (.inl rfl))
  ·exact(hn' q hq).imp (λh=>RM.mem_bs.2 (.inr (.inl h))) id
  ·have hq':q∈blks (if j=k then none else r.wp j):=hq
   by_cases e:j=k
   ·rw[if_pos e]at hq';simp at hq'
   ·rw[if_neg e]at hq'
    rcases List.mem_append.1 hj with hj | hj
    ·exact .inl (RM.mem_bs.2 (.inr (.inr ⟨j,hj,hq'⟩)))
    ·simp at hj;exact absurd hj e

theorem oY{H:zW}{limit:Int}(hl:I64 limit):
  fy.C limit H (λv H'=>((¬(8<=limit/\limit<=1024)/\v=.pointer none/\H'=H)\/((8<=limit/\limit<=1024)/\ ∃r:RM,v=.pointer (some ⟨r.bm,0,none⟩)/\RMAt H' r (Mem.fresh limit.toNat)/\(∀b∈r.bs,H.size<=b)))/\Ext H H'):=by
 refine HC.via λR hR=>fy.link ?_
 unfold fy.pt
 by_cases hc:8<=limit/\limit<=1024
 ·rw[if_neg (by simp only[Bool.or_eq_true,decide_eq_true_eq];omega)]
  intro b H1 hb hH1
  have e1:Ext H H1:=Ext.push' hH1
  have g:=aO hb hH1
  refine hR _ _ ⟨.inr ⟨hc,⟨b,none,0,[],λ_=>none,λ_=>0⟩,rfl,⟨?_,gH,by simp,by simp,by simp,by simp,by simp,λk=>?_,by simp,λk=>by show(0:Int)<=0;omega,by simp⟩,λq hq=>?_⟩,e1⟩
  ·rw[g,show((Mem.fresh limit.toNat).limit:Int)=limit by show((limit.toNat:Nat):Int)=limit;omega];rfl
  ·simp[Mem.fresh,Seg.none]
  ·simp[RM.bs]at hq;omega
 ·rw[if_pos (by simp only[Bool.or_eq_true,decide_eq_true_eq];omega)]
  exact hR _ _ ⟨.inl ⟨hc,rfl,rfl⟩,Ext.refl _⟩

theorem js(a:Addr):a.add 0=a:=by simp[Addr.add]
theorem oZ{H:zW}{gen kind n:Int}:fC.C gen kind n H (λv H'=>v=.bool (decide (may gen kind n))/\H'=H):=by
 refine HC.via λR hR=>fC.link ?_
 unfold fC.pt
 by_cases hc:gen<0\/4<gen\/kind<0\/3<kind
 ·rw[if_pos (by simp only[Bool.or_eq_true,decide_eq_true_eq];omega)]
  exact hR _ _ ⟨by rw[zJ (λh=>by have:=h.1;have:=h.2;omega)],rfl⟩
 rw[if_neg (by simp only[Bool.or_eq_true,decide_eq_true_eq];omega)]
 by_cases h2:kind<2
 ·rw[if_pos h2]
  refine hR _ _ ⟨?_,rfl⟩
  congr 1
  rw[Bool.eq_iff_iff,beq_iff_eq,decide_eq_true_iff]
  unfold may;omega
 ·rw[if_neg h2]
  refine hR _ _ ⟨?_,rfl⟩
  congr 1
  rw[Bool.eq_iff_iff,Bool.and_eq_true,decide_eq_true_iff,decide_eq_true_iff,decide_eq_true_iff]
  unfold may;omega

structure RSAt (H:zW) (bsp:Nat) (r:RM) (s:Sp):Prop where
 mem:RMAt H r s.mem
 ne:bsp ∉ r.bs
 sp: ∃cs:Array Value,H[bsp]?=some (.cells cs 65 (0,0))/\cs.size=21/\cs[0]?=some (.pointer (some ⟨r.bm,0,none⟩))/\ ∀g k,g<5->k<4->cs[1+g*4+k]?=some (.int .i64 (s.cur g k-1))
theorem RSAt.keep{S:List Nat}{H H':zW}{b:Nat}{r:RM}{s:Sp}(h:RSAt H b r s)(f:Fr S H H')(h0:b ∉ S)(h1: ∀q∈r.bs,q ∉ S):RSAt H' b r s:=by
 obtain⟨cs,hb,hr⟩:=h.sp
 exact⟨h.mem.keep f h1,h.ne,cs,f.get h0 hb,hr⟩
theorem RSAt.ext{H H':zW}{b:Nat}{r:RM}{s:Sp}(h:RSAt H b r s)(f:Ext H H'):RSAt H' b r s:=h.keep (S:=[]) f.fr (by simp) (by simp)
theorem RSAt.lt{H:zW}{b:Nat}{r:RM}{s:Sp}(h:RSAt H b r s): ∀q∈b::r.bs,q<H.size:=λq hq=>by
 rcases List.mem_cons.1 hq with rfl | hq
 ·obtain⟨cs,hb,_⟩:=h.sp;exact bI hb
 ·exact h.mem.lt q hq
theorem RSAt.mPtr{H:zW}{b:Nat}{r:RM}{s:Sp}(h:RSAt H b r s):hat H ⟨b,0,none⟩=some (.pointer (some ⟨r.bm,0,none⟩)):=by
 obtain⟨cs,hb,_,h0,_⟩:=h.sp
 rw[aU hb,h0]
def o9(H H':zW)(b:Nat)(r:RM)(s':Sp):Prop:= ∃r':RM,RSAt H' b r' s'/\r'.bm=r.bm/\(∀q∈r'.bs,q∈r.bs\/H.size<=q)
theorem o9.same{H H':zW}{b:Nat}{r:RM}{s:Sp}(h:RSAt H' b r s):o9 H H' b r s:=⟨r,h,rfl,λq hq=> .inl hq⟩
theorem RSAt.step{H H':zW}{b:Nat}{r:RM}{s:Sp}{m:Mem}(h:RSAt H b r s)(st:oX H H' r m)(f:Fr r.bs H H'):o9 H H' b r {s with mem:=m}:=by
 obtain⟨r',h',hbm,hbs⟩:=st
 obtain⟨cs,hb,h1,h2,h3⟩:=h.sp
 have hlt:=bI hb
 refine⟨r',⟨h',λhm=>?_,cs,f.get h.ne hb,h1,by rw[hbm];exact h2,h3⟩,hbm,hbs⟩
 rcases hbs b hm with h | h
 ·rename_i h0;exact h0.ne h
 ·omega

theorem nA{H:zW}{b:Nat}{cs:Array Value}{T:TypeId}(hb:H[b]?=some (.cells cs T (0,0)))(hs:cs.size=21):
  cB.C (some ⟨b,0,none⟩) none 0 0 H (λ_ H'=>(∃cs':Array Value,H'[b]?=some (.cells cs' T (0,0))/\cs'.size=21/\cs'[0]?=cs[0]?/\ ∀g k,g<5->k<4->cs'[1+g*4+k]?=some (.int .i64 (-1)))/\Fr [b] H H'):=by
 refine HC.via λR hR=>cB.link ?_
 unfold cB.pt zq
 refine⟨λgv H'=> ∃(g:Nat) (cs':Array Value),gv=g/\g<=5/\H'[b]?=some (.cells cs' T (0,0))/\cs'.size=21/\cs'[0]?=cs[0]?/\(∀g' k,g'<g->k<4->cs'[1+g'*4+k]?=some (.int .i64 (-1)))/\Fr [b] H H',λgv _=>(5-gv).toNat,⟨0,cs,rfl,by omega,hb,hs,rfl,λg' k h=>by omega,Fr.refl _ _⟩,?_⟩
 rintro gv H1 ⟨g,cs1,rfl,hg,hb1,hs1,h01,hc1,f1⟩
 by_cases hlt:(g:Int)<=4
 case neg=>
  rw[if_neg hlt]
  have:g=5:=by omega
  subst this
  exact hR _ _ ⟨⟨cs1,hb1,hs1,h01,hc1⟩,f1⟩
 rw[if_pos hlt]
 refine⟨λbv i H'=>bv=true/\i=0/\H'=H1,λ_ _ _=>0,⟨rfl,rfl,rfl⟩,?_⟩
 rintro bv i H2 ⟨rfl,rfl,rfl⟩
 rw[if_neg (by decide),if_pos rfl]
 refine⟨_,rfl,⟨by omega,by omega⟩,?_⟩
 rw[fG,addr_add_mk,Int.toNat_natCast]
 refine⟨eJ hb1 _ _ _ (by omega),λH3 hH3=>?_⟩
 rw[gj _ _ _ _ 0 hb1]at hH3
 have hb3:H3[b]?=some (.cells (splice cs1 (1+g*4) [.int .i64 (-1),.int .i64 (-1),.int .i64 (-1),.int .i64 (-1)]) T (0,0)):=by
  rw[hH3,dU (bI hb1)];simp
 have f3:Fr [b] H2 H3:=by rw[hH3];exact Fr.set
 rw[w64 (n:=(g:Int)+1) (by omega)]
 refine⟨⟨g+1,_,by omega,by omega,hb3,by rw[splice_size];exact hs1,?_,λg' k hg' hk=>?_,f1.trans f3⟩,by show(5-((g:Int)+1)).toNat< (5-(g:Int)).toNat;omega⟩
 ·rw[eD _ _ _ _ (by omega)];exact h01
 ·by_cases e:g'=g
  ·subst e
   rw[fT cs1 _ (1+g'*4) k (by simp;omega) (by simpa using hk)]
   rcases k with _ | _ | _ | _ | k
   ·rfl
   ·rfl
   ·rfl
   ·rfl
   ·omega
  ·rw[eD _ _ _ _ (by omega)];exact hc1 g' k (by omega) hk

theorem pb{H:zW}{limit:Int}(hl:I64 limit):
  eX.C limit H (λv H'=>((¬(8<=limit/\limit<=1024)/\v=.pointer none)\/((8<=limit/\limit<=1024)/\ ∃(b:Nat) (r:RM),v=.pointer (some ⟨b,0,none⟩)/\RSAt H' b r ⟨Mem.fresh limit.toNat,λ_ _=>0⟩/\(∀q∈b::r.bs,H.size<=q)))/\Ext H H'):=by
 refine HC.via λR hR=>eX.link ?_
 unfold eX.pt
 refine HC.mono (oY hl) ?_
 rintro v H1 ⟨hd,e1⟩
 rcases hd with⟨hc,rfl,rfl⟩ | ⟨hc,r,rfl,hr,hbs⟩
 ·refine⟨_,rfl,?_⟩
  rw[onPtr_none]
  exact hR _ _ ⟨.inl ⟨hc,rfl⟩,e1⟩
 refine⟨_,rfl,?_⟩
 rw[onPtr_some]
 intro b H2 hb hH2
 have e2:Ext H1 H2:=Ext.push' hH2
 have g:=aO hb hH2
 refine HC.mono (nA g (by rfl)) ?_
 rintro v H3 ⟨⟨cs,hb3,hs,h0,hcur⟩,f3⟩
 have e13:Ext H1 H3:=e2.fr_trans f3 (λq hq=>by simp at hq;omega)
 have hbr:b ∉ r.bs:=λhm=>by have:=hr.lt b hm;omega
 refine hR _ _ ⟨.inr ⟨hc,b,r,rfl,⟨hr.ext e13,hbr,cs,hb3,hs,by rw[h0];rfl,hcur⟩,λq hq=>?_⟩,e1.trans e13⟩
 rcases List.mem_cons.1 hq with rfl | hq
 ·have:=e1.size;omega
 ·exact hbs q hq

theorem Mem.take_fail{m:Mem}{g k:Int}(h:(m.take g k).2.2≠0):(m.take g k).1=m:=by
 unfold Mem.take at h⊢
 split
 ·rfl
 split
 ·rfl
 ·rename_i h1 h2;rw[if_neg h1,if_neg h2]at h;exact absurd rfl h
theorem nB{H:zW}{b:Nat}{r:RM}{s:Sp}{gen kind n:Int}(h:RSAt H b r s)(ok:SpOK s):
  cC.C (some ⟨b,0,none⟩) gen kind n H (λv H'=>v=.tuple #[.int .i64 (s.alloc gen kind n).2.1,.int .i64 (s.alloc gen kind n).2.2]/\o9 H H' b r (s.alloc gen kind n).1/\Fr (b::r.bs) H H'):=by
 refine HC.via λR hR=>cC.link ?_
 unfold cC.pt zq
 refine HC.mono oZ ?_
 rintro v H1 ⟨rfl,rfl⟩
 refine⟨_,rfl,?_⟩
 by_cases hm:may gen kind n
 case neg=>
  rw[if_neg (by simpa using hm)]
  have e:s.alloc gen kind n=(s,0,1):=by unfold Sp.alloc;rw[if_pos hm]
  rw[e]at hR
  exact hR _ _ ⟨rfl,.same h,Fr.refl _ _⟩
 rw[if_pos (zQ hm)]
 have hg:0<=gen/\gen<=4:=hm.1
 have hk:0<=kind/\kind<=3:=by have:=hm.2;omega
 have hn:1<=n/\n<=63:=by have:=hm.2;omega
 obtain⟨cs,hb,hs,h0,hcur⟩:=h.sp
 have hcur':=hcur gen.toNat kind.toNat (by omega) (by omega)
 have ea:(((Addr.mk b 0 none).add 1).add (gen.toNat*4)).add (kind.toNat*1)=⟨b,1+gen.toNat*4+kind.toNat,none⟩:=by rw[fG,fG,addr_add_mk];congr 1;omega
 generalize hcv:s.cur gen.toNat kind.toNat=cu at hcur'
 refine⟨_,rfl,⟨hg.1,by omega⟩,⟨hk.1,by omega⟩,cu-1,by rw[ea,aU hb];exact hcur',?_⟩
 have hoc:=ok.cur gen.toNat kind.toNat
 rw[hcv]at hoc
 refine⟨λbv H'=>H'=H1/\bv=decide (cu≠0/\(s.mem.bump (cu-1) n).2.2=0),?_,?_⟩
 ·rcases hoc with hz | ⟨h1,hhas,_,_⟩
  ·rw[if_neg (by omega)]
   exact⟨rfl,by rw[zJ (λhh=>hh.1 hz)]⟩
  ·rw[if_pos (by omega)]
   refine⟨_,h.mPtr,_,rfl,_,_,_,h.mem.slAt,_,h.mPtr,?_⟩
   refine HC.mono (iq h.mem ok.mem) ?_
   rintro v H2 ⟨⟨x,rfl,hx⟩,rfl⟩
   rcases hx with⟨_,i,rfl,hi⟩ | ⟨hno,_⟩
   case inr=>exact absurd hhas hno
   obtain⟨a,ha,_,hlt,hkL,hat',_⟩:=h.mem.row hi
   have hlen:=h.mem.len ok.mem
   have r1:aG H2 ⟨b,0,none⟩ 0 [.pointer (some ⟨r.bm,0,none⟩)]:=⟨by rw[js];exact h.mPtr,trivial⟩
   have r2:aG H2 ((Addr.mk r.bm 0 none).add 1) 0 [.slice r.p r.L.length r.c]:=⟨by rw[js];exact h.mem.slAt,trivial⟩
   refine⟨_,rfl,r1,r2,a,ha,⟨by omega,by omega⟩,?_⟩
   rw[Int.toNat_natCast]
   refine⟨_,_,_,hat' 8 _ rfl,r1,r2,rfl,?_⟩
   have hsn:=(ok.mem.seg (cu-1).toNat).n
   rw[w64 (by omega)]
   congr 1
   unfold Mem.bump
   rw[if_neg (λhh=>hh hhas),if_neg (show ¬n<1 by omega),eq_iff_iff]
   by_cases hf:64-(s.mem.seg (cu-1).toNat).n<n
   ·rw[if_pos hf]
    exact⟨λhh=>by omega,λhh=>absurd (show(2:Int)=0 from hh.2) (by decide)⟩
   ·rw[if_neg hf]
    exact⟨λ_=>⟨by omega,rfl⟩,λ_=>by omega⟩
 rintro bv H2 ⟨rfl,rfl⟩
 by_cases hfit:cu≠0/\(s.mem.bump (cu-1) n).2.2=0
 ·rw[if_pos (zQ hfit)]
  have e:s.alloc gen kind n=({s with mem:=(s.mem.bump (cu-1) n).1},(s.mem.bump (cu-1) n).2.1,0):=by
   unfold Sp.alloc;rw[if_neg (λhh=>hh hm),hcv,if_pos hfit]
  rw[e]at hR
  have hcb:I64 (cu-1):=by
   rcases hoc with hz | ⟨h1,hhas,_,_⟩
   ·omega
   ·have:=hhas.1;have:=hhas.2.1;have:=ok.mem.lim;omega
  refine⟨_,h.mPtr,?_⟩
  refine HC.mono (kS h.mem ok.mem hcb) ?_
  rintro v H3 ⟨rfl,st,f⟩
  refine⟨_,_,rfl,hR _ _ ⟨by rw[hfit.2],h.step st f,f.mono λq hq _=>List.mem_cons_of_mem _ hq⟩⟩
 rw[if_neg (by simpa using hfit)]
 refine⟨_,h.mPtr,?_⟩
 refine HC.mono (ol h.mem ok.mem) ?_
 rintro v H3 ⟨rfl,st,f⟩
 refine⟨_,_,rfl,?_⟩
 obtain⟨r3,h3,hbm3,hbs3⟩:=h.step st f
 have okt:=ok.mem.take gen kind
 by_cases he:(s.mem.take gen kind).2.2=0
 case neg=>
  rw[if_neg he]
  have e:s.alloc gen kind n=(s,0,(s.mem.take gen kind).2.2):=by
   unfold Sp.alloc;rw[if_neg (λhh=>hh hm),hcv,if_neg hfit,if_neg he]
  rw[e]at hR
  rw[Mem.take_fail he]at h3
  exact hR _ _ ⟨rfl,⟨r3,h3,hbm3,hbs3⟩,f.mono λq hq _=>List.mem_cons_of_mem _ hq⟩
 rw[if_pos he]
 have hk3:I64 (s.mem.take gen kind).2.1:=by
  unfold Mem.take
  split
  ·exact(by decide:I64 0)
  split
  ·exact(by decide:I64 0)
  ·rename_i hf
   have h1:=(Mem.first_spec ok.mem hf).1
   have h2:=ok.mem.lim
   show I64 ((s.mem.first:Nat):Int)
   generalize s.mem.first=q at*
   constructor<;>omega
 have e:s.alloc gen kind n=({mem:=((s.mem.take gen kind).1.bump (s.mem.take gen kind).2.1 n).1,cur:=(s.setCur gen.toNat kind.toNat ((s.mem.take gen kind).2.1+1)).cur},((s.mem.take gen kind).1.bump (s.mem.take gen kind).2.1 n).2.1,((s.mem.take gen kind).1.bump (s.mem.take gen kind).2.1 n).2.2):=by
  unfold Sp.alloc;rw[if_neg (λhh=>hh hm),hcv,if_neg hfit,if_pos he]
 rw[e]at hR
 generalize hta:s.mem.take gen kind=ta at*
 obtain⟨cs3,hb3,hs3,h03,hcur3⟩:=h3.sp
 refine⟨⟨hg.1,by omega⟩,⟨hk.1,by omega⟩,?_⟩
 rw[ea]
 refine⟨eJ hb3 _ _ _ (by omega),λH5 hH5=>?_⟩
 rw[gj _ _ _ _ 0 hb3]at hH5
 have hb5:H5[b]?=some (.cells (splice cs3 (1+gen.toNat*4+kind.toNat) [.int .i64 ta.2.1]) 65 (0,0)):=by
  rw[hH5,dU (bI hb3)];rfl
 have f5:Fr [b] H3 H5:=by rw[hH5];exact Fr.set
 have h5:RSAt H5 b r3 {mem:=ta.1,cur:=(s.setCur gen.toNat kind.toNat (ta.2.1+1)).cur}:=by
  refine⟨h3.mem.keep f5 (λq hq hm=>h3.ne (by simp at hm;rw[<-hm];exact hq)),h3.ne,_,hb5,by rw[splice_size];exact hs3,by rw[eD _ _ _ _ (by omega)];exact h03,λg k hg' hk'=>?_⟩
  show _=some (Value.int .i64 ((if g=gen.toNat/\k=kind.toNat then ta.2.1+1 else s.cur g k)-1))
  by_cases hgk:g=gen.toNat/\k=kind.toNat
  ·rw[if_pos hgk,hgk.1,hgk.2]
   have:=fT cs3 [.int .i64 ta.2.1] (1+gen.toNat*4+kind.toNat) 0 (by simp;omega) (by simp)
   rw[Nat.add_zero]at this
   rw[this,show ta.2.1+1-1=ta.2.1 by omega];rfl
  ·rw[if_neg hgk,<-hcur3 g k hg' hk']
   rcases Nat.lt_or_ge (1+g*4+k) (1+gen.toNat*4+kind.toNat)with h1 | h1
   ·exact eD _ _ _ _ h1
   ·exact hU _ _ _ _ (by simp;omega)
 refine⟨_,h5.mPtr,?_⟩
 refine HC.mono (kS h5.mem okt hk3) ?_
 rintro v H6 ⟨rfl,st6,f6⟩
 obtain⟨r6,h6,hbm6,hbs6⟩:=h5.step st6 f6
 have hsz3:=f.size
 have hsz5:=f5.size
 refine⟨_,_,rfl,hR _ _ ⟨rfl,⟨r6,h6,hbm6.trans hbm3,λq hq=>?_⟩,?_⟩⟩
 ·rcases hbs6 q hq with h1 | h1
  ·exact hbs3 q h1
  ·exact .inr (by omega)
 ·have f35:Fr (b::r.bs) H2 H5:=f.trans' f5 (λq hq _=>List.mem_cons_of_mem _ hq) (λq hq _=>by simp at hq;rw[hq];exact List.mem_cons_self ..)
  exact f35.trans' f6 (λq hq _=>hq) (λq hq hlt=>(hbs3 q hq).elim (λh=>List.mem_cons_of_mem _ h) (λh=>by omega))
