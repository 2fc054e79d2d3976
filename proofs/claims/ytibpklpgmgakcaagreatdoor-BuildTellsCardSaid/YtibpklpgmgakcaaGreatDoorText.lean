/-
 Strings, vectors on the heap (package obj): the contracts. Proves nothing of any one statement.
-/
import Derived.Test.YtibpklpgmgakcaaGreatDoorPair
import Derived.Test.YtibpklpgmgakcaaGreatDoorFobjx
import Derived.Test.YtibpklpgmgakcaaGreatDoorRow
import Derived.Laws.RangeAny
set_option linter.unusedVariables false
set_option linter.unusedSimpArgs false
namespace Go.Proofs.YtibpklpgmgakcaaGreatDoor
open Go

theorem decode_pos(s:ByteArray)(pos:Nat):1<=(Utf8.decode s pos).2:=by
 unfold Utf8.decode
 simp only[]
 repeat' split
 all_goals simp
def runesFrom(s:ByteArray):Nat->Nat->List Int
 | 0,_=> []
 | f+1,pos=>if pos<s.size then((Utf8.decode s pos).1:Int)::runesFrom s f (pos+(Utf8.decode s pos).2)else[]
theorem runesFrom_more(s:ByteArray): ∀(f g pos:Nat),s.size<=pos+f->s.size<=pos+g->runesFrom s f pos=runesFrom s g pos
 | 0,0,_,_,_=>rfl
 | 0,g+1,pos,h,_=>by simp only[runesFrom];rw[if_neg (by omega)]
 | f+1,0,pos,_,h=>by simp only[runesFrom];rw[if_neg (by omega)]
 | f+1,g+1,pos,h1,h2=>by
  have:=decode_pos s pos
  simp only[runesFrom]
  by_cases hp:pos<s.size
  ·rw[if_pos hp,if_pos hp,runesFrom_more s f g _ (by omega) (by omega)]
  ·rw[if_neg hp,if_neg hp]
def runesAt(s:ByteArray)(pos:Nat):List Int:=runesFrom s (s.size-pos) pos
def runesOf(s:ByteArray):List Int:=runesAt s 0
theorem runesAt_step{s:ByteArray}{pos:Nat}(h:pos<s.size):runesAt s pos=((Utf8.decode s pos).1:Int)::runesAt s (pos+(Utf8.decode s pos).2):=by
 have hd:=decode_pos s pos
 unfold runesAt
 rw[show s.size-pos=(s.size-pos-1)+1 by omega]
 simp only[runesFrom]
 rw[if_pos h,runesFrom_more s _ (s.size-(pos+(Utf8.decode s pos).2)) _ (by omega) (by omega)]
theorem runesAt_end{s:ByteArray}{pos:Nat}(h: ¬pos<s.size):runesAt s pos=[]:=by
 unfold runesAt;rw[show s.size-pos=0 by omega];rfl
theorem rune_word(s:ByteArray)(pos:Nat):IsWord ((Utf8.decode s pos).1:Int):=by
 have:=decode_le s pos
 exact⟨by omega,by omega⟩
theorem runesFrom_word(s:ByteArray): ∀(f pos:Nat),∀r∈runesFrom s f pos,0<=r/\r<=2147483647
 | 0,_,r,h=>by simp[runesFrom]at h
 | f+1,pos,r,h=>by
  simp only[runesFrom]at h
  by_cases hp:pos<s.size
  ·rw[if_pos hp]at h
   rcases List.mem_cons.1 h with rfl | h
   ·have:=decode_le s pos;omega
   ·exact runesFrom_word s f _ r h
  ·rw[if_neg hp]at h;simp at h
theorem runesOf_word(s:ByteArray): ∀r∈runesOf s,IsWord r:=λr h=>by
 have:=runesFrom_word s _ _ r h
 exact⟨by omega,by omega⟩
def strR(o:Option (Blk×Hp))(s:ByteArray):Int×Int:=if 62< (runesOf s).length then(0,6)else makeR o 2 0 (runesOf s)
def strO(o:Option (Blk×Hp))(s:ByteArray):Option (Blk×Hp):=if 62< (runesOf s).length then o else makeO o 2 0 (runesOf s)
theorem obj_String_c{H:Array Obj}{hv:Option Addr}{o:Option (Blk×Hp)}{s:ByteArray}(V:View H hv o)(hc:cntOK o):
  obj_Heap_String.C hv s H (λv H'=>v=.tuple #[.int .u64 (strR o s).1,.int .i64 (strR o s).2]/\View H' hv (strO o s)/\Fr (own o) H H'):=by
 refine HC.via λR hR=>obj_Heap_String.link ?_
 unfold obj_Heap_String.pt
 intro b H1 hb hH1
 have e1:Ext H H1:=Ext.push' hH1
 refine⟨λp n c H'=> ∃(pos:Nat) (rs:List Int),H'[b]?=some (.stringIter s pos)/\runesOf s=rs++runesAt s pos/\Own H' 54 1 p n c (wvs rs)/\n=rs.length/\n<=62/\Ext H H'/\(∀i,i∈blks p->H.size<=i/\i≠b)/\b<H'.size,λ_ n _ _=>63-n,⟨0,[],push_get hb hH1,rfl,own_nil,rfl,by omega,e1,by simp,lt_size (push_get hb hH1)⟩,?_⟩
 rintro p n c H2 ⟨pos,rs,hit,hrs,how,hn,hle,e2,hbk,hb2⟩
 subst hn
 refine⟨s,pos,hit,?_⟩
 by_cases hp:pos<s.size
 case neg=>
  rw[if_neg hp]
  rw[runesAt_end hp,List.append_nil]at hrs
  refine HC.mono (obj_Make_c (ws:=rs) (V.ext e2) how.src rfl (by rw[<-hrs];exact runesOf_word s) (by decide) (by decide) hc (by omega)) ?_
  rintro _ H3 ⟨rfl,V3,f3⟩
  have hno: ¬62< (runesOf s).length:=by rw[hrs];omega
  refine⟨_,_,rfl,hR _ _ ⟨?_,?_,e2.fr.trans f3⟩⟩
  ·unfold strR;rw[if_neg hno,hrs]
  ·unfold strO;rw[if_neg hno,hrs];exact V3
 rw[if_pos hp]
 intro H3 hH3 b4 H4 hb4 hH4
 have hw:=rune_word s pos
 rw[wu64 (n:=((Utf8.decode s pos).1:Int)) (by have:=hw.2;omega)]at hH4
 have f3:Fr [b] H2 H3:=by rw[hH3];exact Fr.set
 have e4:Ext H3 H4:=Ext.push' hH4
 have hs3:H3.size=H2.size:=by rw[hH3];simp
 have how4:=(how.keep f3 (λi hi=>by have:=(hbk i hi).2;simp;exact this)).ext e4
 have e13:Ext H H3:=e2.fr_trans f3 (λi hi=>by simp at hi;omega)
 have hit3:H3[b]?=some (.stringIter s (pos+(Utf8.decode s pos).2)):=by rw[hH3];exact setBlk_get hb2
 refine own_append (ys:=wvs [((Utf8.decode s pos).1:Int)]) how4 (rowAt_blk (push_get hb4 hH4) _ 0 0 (λj hj=>by simp)) (by simp) (allOne_wvs _) rfl (by omega) ?_
 intro p' c' H5 how5 f5 hnew
 have e45:Ext H H5:=(e13.trans e4).fr_trans f5 (λi hi=>(hbk i hi).1)
 rw[runesAt_step hp]at hrs
 by_cases h62:(rs.length:Int)+1>62
 ·rw[if_pos h62]
  have hmany:62< (runesOf s).length:=by rw[hrs];simp;omega
  refine hR _ _ ⟨?_,?_,e45.fr⟩
  ·unfold strR;rw[if_pos hmany]
  ·unfold strO;rw[if_pos hmany];exact V.ext e45
 ·rw[if_neg h62]
  have hit5:H5[b]?=some (.stringIter s (pos+(Utf8.decode s pos).2)):=f5.get (λhi=>(hbk b hi).2 rfl) (e4.get hit3)
  refine⟨⟨_,rs++[((Utf8.decode s pos).1:Int)],hit5,by rw[hrs];simp,by simpa[wvs]using how5,by simp,by omega,e45,λi hi=>?_,lt_size hit5⟩,by show 63-(rs.length+1)<63-rs.length;omega⟩
  rcases hnew i hi with h | h
  ·exact hbk i h
  ·have:=e4.size;exact⟨by have:=e13.size;omega,by omega⟩

def Mem.objWords(m:Mem)(w:Int):List Int:=(List.range (m.len w).toNat).map λ(i:Nat)=>m.get (w / 8+1+(i:Int))
theorem Mem.objWords_len(m:Mem)(w:Int):(m.objWords w).length=(m.len w).toNat:=by unfold Mem.objWords;simp
theorem Mem.objWords_get(m:Mem)(w:Int){i:Nat}(h:i< (m.objWords w).length):(m.objWords w)[i]=m.get (w / 8+1+(i:Int)):=by simp[Mem.objWords]
theorem Thing.words{m:Mem}{w kind more:Int}{ws:List Int}(h:Thing m w kind more ws):m.objWords w=ws:=by
 refine List.ext_getElem (by rw[Mem.objWords_len,h.len];omega) λi h1 h2=>?_
 rw[Mem.objWords_get]
 exact h.get i h2
theorem View.objWord{H:Array Obj}{hv:Option Addr}{o:Option (Blk×Hp)}(V:View H hv o)(w:Int): ∀x∈(mof o).objWords w,IsWord x:=λx hx=>by
 unfold Mem.objWords at hx
 obtain⟨i,_,rfl⟩:=List.mem_map.1 hx
 exact V.word _
theorem obj_words_c{H:Array Obj}{hv:Option Addr}{o:Option (Blk×Hp)}{w kind:Int}(V:View H hv o)(hw:IsWord w):
  obj_Heap_words.C hv w kind H (λv H'=>Ext H H'/\((¬((mof o).isObj w/\(mof o).typ w=kind)/\v=.tuple #[.slice none 0 0,.bool false])\/
   ((mof o).isObj w/\(mof o).typ w=kind/\ ∃b:Nat,H.size<=b/\v=.tuple #[.slice (some ⟨b,0,none⟩) ((mof o).objWords w).length ((mof o).objWords w).length,.bool true]/\Own H' 54 1 (some ⟨b,0,none⟩) ((mof o).objWords w).length ((mof o).objWords w).length (wvs ((mof o).objWords w))))):=by
 refine HC.via λR hR=>obj_Heap_words.link ?_
 unfold obj_Heap_words.pt
 refine HC.mono (obj_object_c' V hw) ?_
 rintro _ H1 ⟨rfl,e1⟩
 refine⟨_,_,_,_,_,rfl,?_⟩
 by_cases hk:(mof o).isObj w/\(mof o).typ w=kind
 case neg=>
  rw[if_pos (by
   by_cases h:(mof o).isObj w
   ·have: ¬(mof o).typ w=kind:=λe=>hk ⟨h,e⟩
    simp[h,this]
   ·simp[h])]
  exact hR _ _ ⟨e1,.inl ⟨hk,rfl⟩⟩
 obtain⟨hO,ht⟩:=hk
 rw[if_neg (by simp[hO,ht])]
 have hl:=V.len_bd w
 have hw8:w / 8<65536:=hO.1.1.2
 have hw0:0<=w / 8:=by have:=hw.1;omega
 refine⟨by omega,by omega,by omega,by omega,λb H2 hb hH2=>?_⟩
 have e2:=e1.trans (Ext.push' hH2)
 have hlen:=(mof o).objWords_len w
 have hb0:H.size<=b:=by have:=e1.size;omega
 refine⟨λi H'=>(0<=i/\i<=(mof o).len w)/\Ext H H'/\Own H' 54 1 (some ⟨b,0,none⟩) ((mof o).len w).toNat ((mof o).len w).toNat (wvs (((mof o).objWords w).take i.toNat)++List.replicate (((mof o).len w).toNat-i.toNat) (.int .u64 0)),λi _=>((mof o).len w-i).toNat,⟨⟨by omega,by omega⟩,e2,by simpa using own_zero hb hH2⟩,?_⟩
 rintro i H3 ⟨hi,e3,how⟩
 by_cases hlt:i< ((((mof o).len w).toNat:Nat):Int)
 case neg=>
  rw[if_neg hlt]
  have e:(((mof o).objWords w).take i.toNat)=(mof o).objWords w:=List.take_of_length_le (by omega)
  have e':((mof o).len w).toNat-i.toNat=0:=by omega
  rw[e,e']at how
  rw[<-hlen]at how⊢
  exact hR _ _ ⟨e3,.inr ⟨hO,ht,b,hb0,rfl,by simpa using how⟩⟩
 rw[if_pos hlt]
 have hu:=hO.used hw (V.n64 _) (i:=i) ⟨hi.1,by omega⟩
 cases V with
 | nobody=>exact absurd hO.1.2.2.1 nohas
 | empty h=>exact absurd hO.1.2.2.1 nohas
 | @real bl x h ok=>
  have h3:=h.ext e3
  refine⟨_,rfl,_,h3.hPtr,_,rfl,_,h3.cd.cPtr,_,rfl,_,h3.cd.sp.memPtr,?_⟩
  rw[if_pos hO,w64 (n:=w / 8+1) (by omega),w64 (n:=w / 8+1+i) (by omega),w64 (n:=i+1) (by omega)]
  refine HC.mono (seg_Read_c h3.cd.sp.mem ok.mem (by omega)) ?_
  rintro _ H4 ⟨rfl,rfl⟩
  have hu':x.sp.mem.used (w / 8+1+i):=hu
  rw[if_pos hu']
  obtain⟨hcp,hpu⟩:=how.put (i:=i.toNat) (by omega) (.int .u64 (x.sp.mem.get (w / 8+1+i)))
  refine⟨_,_,rfl,⟨hi.1,hlt⟩,by rw[Nat.mul_one];exact hcp,λH5 hH5=>?_⟩
  rw[Nat.mul_one]at hH5
  obtain⟨how5,f5⟩:=hpu H5 hH5
  refine⟨⟨⟨by omega,by omega⟩,e3.fr_trans f5 (λj hj=>by simp at hj;omega),?_⟩,by show((mof (some (bl,x))).len w-(i+1)).toNat< ((mof (some (bl,x))).len w-i).toNat;omega⟩
  have hiN:i.toNat< ((mof (some (bl,x))).objWords w).length:=by omega
  have eg:((mof (some (bl,x))).objWords w)[i.toNat]=x.sp.mem.get (w / 8+1+i):=by
   rw[Mem.objWords_get,show((i.toNat:Nat):Int)=i by omega];rfl
  rw[show(i+1).toNat=i.toNat+1 by omega,List.take_succ_eq_append_getElem hiN,eg]
  have er:((mof (some (bl,x))).len w).toNat-i.toNat=(((mof (some (bl,x))).len w).toNat-(i.toNat+1))+1:=by omega
  rw[er,List.replicate_succ,List.set_append_right _ _ (by simp;omega)]at how5
  have e0:i.toNat-(wvs (((mof (some (bl,x))).objWords w).take i.toNat)).length=0:=by simp;omega
  rw[e0,List.set_cons_zero]at how5
  simpa[wvs]using how5

def wordsText(ws:List Int):ByteArray:=runesStr (ws.map λx=>if x>1114111 then 65533 else x)
theorem obj_Text_c{H:Array Obj}{hv:Option Addr}{o:Option (Blk×Hp)}{w:Int}(V:View H hv o)(hw:IsWord w):
  obj_Heap_Text.C hv w H (λv H'=>v=(if(mof o).isObj w/\(mof o).typ w=2 then .tuple #[.string (wordsText ((mof o).objWords w)),.int .i64 0]else .tuple #[.string ⟨#[]⟩,.int .i64 3])/\Ext H H'):=by
 refine HC.via λR hR=>obj_Heap_Text.link ?_
 unfold obj_Heap_Text.pt
 refine HC.mono (obj_words_c V hw) ?_
 rintro _ H1 ⟨e1,⟨hno,rfl⟩ | ⟨hO,ht,b,hb,rfl,how⟩⟩
 ·refine⟨_,_,_,_,rfl,?_⟩
  rw[if_neg (by decide)]
  exact hR _ _ ⟨by rw[if_neg hno],e1⟩
 refine⟨_,_,_,_,rfl,?_⟩
 rw[if_pos rfl]
 have hwd:=V.objWord w
 have hl62:((mof o).objWords w).length<=62:=by rw[Mem.objWords_len];have:=V.len_bd w;omega
 generalize (mof o).objWords w=ws at*
 have hb1:b<H1.size:=how.lt b (by simp)
 refine⟨λp n c i H'=>(0<=i/\i<=ws.length)/\Ext H1 H'/\Own H' 21 1 p n c (((ws.take i.toNat).map λx=>if x>1114111 then 65533 else x).map (Value.int .i32))/\n=i.toNat/\(∀j,j∈blks p->H1.size<=j),λ_ _ _ i _=>(ws.length-i).toNat,⟨⟨by omega,by omega⟩,Ext.refl _,by simpa using own_nil,rfl,by simp⟩,?_⟩
 rintro p n c i H2 ⟨hi,e2,how2,rfl,hnew⟩
 by_cases hlt:i< (ws.length:Int)
 case neg=>
  rw[if_neg hlt]
  have e:ws.take i.toNat=ws:=List.take_of_length_le (by omega)
  rw[e]at how2
  refine⟨ws.map λx=>if x>1114111 then 65533 else x,⟨how2.src,λ_=>by have:=how2.len;simpa using this⟩,hR _ _ ⟨?_,e1.trans e2⟩⟩
  rw[if_pos ⟨hO,ht⟩];rfl
 rw[if_pos hlt]
 have hiN:i.toNat<ws.length:=by omega
 have hat2:=(how.ext e2).at (j:=i.toNat) (v:=.int .u64 ws[i.toNat]) (by simp[wvs,hiN])
 obtain⟨a,ha,hat2⟩:=hat2
 obtain rfl:=Option.some.inj ha
 refine⟨_,rfl,⟨hi.1,hlt⟩,ws[i.toNat],by rw[Nat.mul_one];exact hat2,?_⟩
 have hx:=hwd _ (List.getElem_mem hiN)
 have tail: ∀(y:Int) (b3:Nat) (H3:Array Obj),(if ws[i.toNat]>1114111 then(65533:Int)else ws[i.toNat])=y->b3=H2.size->H3=H2.push (.cells #[.int .i32 y] 21)->
   appendK 1 21 4 [.int .i32 0] p i.toNat c (some (Addr.mk b3 0 none)) 1 H3 (λap apC H4=>((0<=IntKind.wrap .i64 (i+1)/\IntKind.wrap .i64 (i+1)<=ws.length)/\Ext H1 H4/\Own H4 21 1 ap (i.toNat+1) apC (((ws.take (IntKind.wrap .i64 (i+1)).toNat).map λx=>if x>1114111 then 65533 else x).map (Value.int .i32))/\i.toNat+1=(IntKind.wrap .i64 (i+1)).toNat/\(∀j,j∈blks ap->H1.size<=j))/\((ws.length:Int)-IntKind.wrap .i64 (i+1)).toNat< ((ws.length:Int)-i).toNat):=by
  intro y b3 H3 hy hb3 hH3
  have e3:Ext H2 H3:=Ext.push' hH3
  rw[w64 (n:=i+1) (by omega)]
  refine own_append (ys:=[.int .i32 y]) (how2.ext e3) (rowAt_blk (push_get hb3 hH3) _ 0 0 (λj hj=>by simp)) (by simp) rfl rfl (by omega) ?_
  intro p' c' H4 how4 f4 hn4
  refine⟨⟨⟨by omega,by omega⟩,(e2.trans e3).fr_trans f4 hnew,?_,by omega,λj hj=>?_⟩,by omega⟩
  ·rw[show(i+1).toNat=i.toNat+1 by omega,List.take_succ_eq_append_getElem hiN,List.map_append,List.map_append]
   simpa[hy]using how4
  ·rcases hn4 j hj with h | h
   ·exact hnew j h
   ·have:=(e2.trans e3).size;omega
 by_cases hbig:ws[i.toNat]>1114111
 ·rw[if_pos hbig]
  intro b3 H3 hb3 hH3
  exact tail 65533 b3 H3 (by rw[if_pos hbig]) hb3 hH3
 ·rw[if_neg hbig]
  intro b3 H3 hb3 hH3
  have hx0:=hx.1
  rw[wi32 (n:=ws[i.toNat]) (by omega)]at hH3
  exact tail _ b3 H3 (by rw[if_neg hbig]) hb3 hH3

end Go.Proofs.YtibpklpgmgakcaaGreatDoor
