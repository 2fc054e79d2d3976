/-
  Environments and frames (package frame): the contracts, said of abstract memories. Proves nothing of any one statement.
-/
import Derived.Test.YtibpklpgmgakcaaGreatThing
import Derived.Test.YtibpklpgmgakcaaGreatFframe
set_option linter.unusedVariables false
set_option linter.unusedSimpArgs false
namespace Go.Proofs.YtibpklpgmgakcaaGreat
open Go

def Mem.is(m:Mem)(w kind least:Int):Prop:=m.typ w=kind/\least<=m.len w
instance (m:Mem) (w kind least:Int):Decidable (m.is w kind least):=by unfold Mem.is;infer_instance
theorem frame_is_c{H:Array Obj}{hv:Option Addr}{o:Option (Blk×Hp)}{w kind least:Int}(V:View H hv o)(hw:IsWord w):
    frame_is.C hv w kind least H (λv H'=>v=.bool (decide ((mof o).is w kind least))/\Ext H H'):=by
  refine HC.via λR hR=>frame_is.link ?_
  unfold frame_is.pt
  refine HC.mono (obj_Type_c V hw) ?_
  rintro _ H1 ⟨rfl,e1⟩
  refine⟨_,rfl,?_⟩
  by_cases h:(mof o).typ w=kind
  · rw[if_pos h]
    refine HC.mono (obj_Len_c (V.ext e1) hw) ?_
    rintro _ H2 ⟨rfl,e2⟩
    refine⟨_,rfl,hR _ _ ⟨?_,e1.trans e2⟩⟩
    congr 1
    rw[decide_eq_decide]
    exact⟨λh'=>⟨h,h'⟩,λh'=>h'.2⟩
  · rw[if_neg h]
    exact hR _ _ ⟨by rw[decide_eq_false (λh'=>h h'.1)],e1⟩

def Mem.count'(m:Mem)(w:Int):Int:=if m.is w 7 1 then m.len w-1 else 0
theorem frame_Count_c{H:Array Obj}{hv:Option Addr}{o:Option (Blk×Hp)}{w:Int}(V:View H hv o)(hw:IsWord w):
    frame_Count.C hv w H (λv H'=>v=.int .i64 ((mof o).count' w)/\Ext H H'):=by
  refine HC.via λR hR=>frame_Count.link ?_
  unfold frame_Count.pt
  refine HC.mono (frame_is_c V hw) ?_
  rintro _ H1 ⟨rfl,e1⟩
  refine⟨_,rfl,?_⟩
  have hl:=V.len_bd w
  by_cases h:(mof o).is w 7 1
  · rw[if_pos (decide_eq_true h)]
    refine HC.mono (obj_Len_c (V.ext e1) hw) ?_
    rintro _ H2 ⟨rfl,e2⟩
    refine⟨_,rfl,hR _ _ ⟨?_,e1.trans e2⟩⟩
    rw[w64 (by omega)];unfold Mem.count';rw[if_pos h]
  · rw[if_neg (by simpa using h)]
    exact hR _ _ ⟨by unfold Mem.count';rw[if_neg h],e1⟩
def Mem.fields(m:Mem)(w:Int):Int:=if m.is w 8 2 then m.len w-2 else 0
theorem frame_Fields_c{H:Array Obj}{hv:Option Addr}{o:Option (Blk×Hp)}{w:Int}(V:View H hv o)(hw:IsWord w):
    frame_Fields.C hv w H (λv H'=>v=.int .i64 ((mof o).fields w)/\Ext H H'):=by
  refine HC.via λR hR=>frame_Fields.link ?_
  unfold frame_Fields.pt
  refine HC.mono (frame_is_c V hw) ?_
  rintro _ H1 ⟨rfl,e1⟩
  refine⟨_,rfl,?_⟩
  have hl:=V.len_bd w
  by_cases h:(mof o).is w 8 2
  · rw[if_pos (decide_eq_true h)]
    refine HC.mono (obj_Len_c (V.ext e1) hw) ?_
    rintro _ H2 ⟨rfl,e2⟩
    refine⟨_,rfl,hR _ _ ⟨?_,e1.trans e2⟩⟩
    rw[w64 (by omega)];unfold Mem.fields;rw[if_pos h]
  · rw[if_neg (by simpa using h)]
    exact hR _ _ ⟨by unfold Mem.fields;rw[if_neg h],e1⟩
theorem frame_Field_c{H:Array Obj}{hv:Option Addr}{o:Option (Blk×Hp)}{w i:Int}(V:View H hv o)(hw:IsWord w)(hi:I64 i):
    frame_Field.C hv w i H (λv H'=>v=(if(mof o).is w 8 2 then(if i<0\/(mof o).fields w<=i then .tuple #[.int .u64 0,.int .i64 4]else .tuple #[.int .u64 (if(mof o).fieldE w 8 (i+2)=0 then(mof o).get (w / 8+1+(i+2))else 0),.int .i64 ((mof o).fieldE w 8 (i+2))])else .tuple #[.int .u64 0,.int .i64 3])/\Ext H H'):=by
  refine HC.via λR hR=>frame_Field.link ?_
  unfold frame_Field.pt
  refine HC.mono (frame_is_c V hw) ?_
  rintro _ H1 ⟨rfl,e1⟩
  refine⟨_,rfl,?_⟩
  by_cases h:(mof o).is w 8 2
  case neg=>rw[if_neg (by simpa using h)];rw[if_neg h]at hR;exact hR _ _ ⟨rfl,e1⟩
  rw[if_pos (decide_eq_true h)]
  rw[if_pos h]at hR
  by_cases h0:i<0
  · rw[if_pos h0];rw[if_pos (.inl h0)]at hR;exact hR _ _ ⟨rfl,e1⟩
  rw[if_neg h0]
  refine HC.mono (frame_Fields_c (V.ext e1) hw) ?_
  rintro _ H2 ⟨rfl,e2⟩
  refine⟨_,rfl,?_⟩
  have hl:=V.len_bd w
  have hfl:(mof o).fields w<=62:=by unfold Mem.fields;split<;>omega
  by_cases h1:i>=(mof o).fields w
  · rw[if_pos h1];rw[if_pos (.inr h1)]at hR;exact hR _ _ ⟨rfl,e1.trans e2⟩
  rw[if_neg h1]
  rw[if_neg (by omega)]at hR
  rw[w64 (n:=i+2) (by omega)]
  refine HC.mono (obj_Get_c ((V.ext e1).ext e2) hw ⟨by omega,by omega⟩) ?_
  rintro _ H3 ⟨rfl,e3⟩
  exact⟨_,_,rfl,hR _ _ ⟨rfl,(e1.trans e2).trans e3⟩⟩

def extR(o:Option (Blk×Hp))(parent:Int)(ws:List Int):Int×Int:=if parent≠20/\(mof o).typ parent≠7 then(0,3)else makeR o 7 0 (parent::ws)
def extO(o:Option (Blk×Hp))(parent:Int)(ws:List Int):Option (Blk×Hp):=if parent≠20/\(mof o).typ parent≠7 then o else makeO o 7 0 (parent::ws)
theorem ahead{H0 H:Array Obj}{hv lB:Option Addr}{lN:Nat}{o:Option (Blk×Hp)}{us ws:List Int}{b k:Nat}{K:Option Addr->Nat->Array Obj->Prop}(V:View H0 hv o)(e:Ext H0 H)(hb:H[b]?=some (.cells (wvs us).toArray 35 (0,0)))(hlt:H0.size<=b)
    (hsrc:SrcAt H lB (wvs ws)) (hlen:lN=ws.length) (hk:us.length=k) (hle:us.length+ws.length<=1000000)
    (hK: ∀p c H',Ext H0 H'->SrcAt H' p (wvs (us++ws))->(∀i,i∈blks p->i ∉ own o)->K p c H'):appendK 1 35 8 [.int .u64 0] (some ⟨b,0,none⟩) k k lB lN H K:=by
  subst hlen
  subst hk
  refine own_append (ys:=wvs ws) (xs:=wvs us) ⟨rfl,_,hb,by simp,Nat.le_refl _,by simp,λj hj=>by simp⟩ hsrc (by simp) (allOne_wvs ws) rfl (by omega) ?_
  intro p c H' ho f hn
  have e':Ext H0 H':=e.fr_trans f (λi hi=>by simp at hi;omega)
  refine hK p c H' e' (by have:=ho.src;simpa[wvs]using this) (λi hi hio=>?_)
  have:=V.own_lt i hio
  have:=e.size
  rcases hn i hi with h | h
  · simp at h;omega
  · omega
theorem frame_Extend_c{H:Array Obj}{hv lB:Option Addr}{lN lC:Nat}{o:Option (Blk×Hp)}{parent:Int}{ws:List Int}(V:View H hv o)(hp:IsWord parent)(hsrc:SrcAt H lB (wvs ws))(hlen:lN=ws.length)(hw: ∀w∈ws,IsWord w)
    (hc:cntOK o) (hl:ws.length<=100000):
    frame_Extend.C hv parent lB lN lC H (λv H'=>v=.tuple #[.int .u64 (extR o parent ws).1,.int .i64 (extR o parent ws).2]/\View H' hv (extO o parent ws)/\Fr (own o) H H'):=by
  refine HC.via λR hR=>frame_Extend.link ?_
  unfold frame_Extend.pt
  have hall: ∀w∈parent::ws,IsWord w:=λw hw'=>by
    rcases List.mem_cons.1 hw' with rfl | h
    · exact hp
    · exact hw w h
  have go: ∀H1,Ext H H1->(¬(parent≠20/\(mof o).typ parent≠7))-> ∀(b:Nat) (H2:Array Obj),b=H1.size->H2=H1.push (.cells #[.int .u64 parent] 35)->
      appendK 1 35 8 [.int .u64 0] (some (Addr.mk b 0 none)) 1 1 lB lN H2 (λap apC H3=>obj_Heap_Make.C hv 7 0 ap (1+lN) apC H3 (λv H4=> ∃ra:Int,∃rb:Int,v=.tuple #[.int .u64 ra,.int .i64 rb]/\R (.tuple #[.int .u64 ra,.int .i64 rb]) H4)):=by
    intro H1 e1 hno b H2 hb hH2
    have e2:=e1.trans (Ext.push' hH2)
    refine ahead (us:=[parent]) V e2 (push_get hb hH2) (by have:=e1.size;omega) (hsrc.ext e2) hlen rfl (by simp;omega) ?_
    intro p c H3 e3 hs3 hd3
    refine HC.mono (obj_Make_c (ws:=parent::ws) (V.ext e3) hs3 (by simp;omega) hall (by decide) (by decide) hc (by simp;omega)) ?_
    rintro _ H4 ⟨rfl,V4,f4⟩
    refine⟨_,_,rfl,hR _ _ ⟨?_,?_,e3.fr.trans f4⟩⟩
    · unfold extR;rw[if_neg hno]
    · unfold extO;rw[if_neg hno];exact V4
  by_cases h20:parent=20
  · rw[if_pos h20]
    exact go H (Ext.refl _) (λh=>h.1 h20)
  rw[if_neg h20]
  refine HC.mono (obj_Type_c V hp) ?_
  rintro _ H1 ⟨rfl,e1⟩
  refine⟨_,rfl,?_⟩
  by_cases h7:(mof o).typ parent=7
  · rw[if_pos h7]
    exact go H1 e1 (λh=>h.2 h7)
  · rw[if_neg h7]
    refine hR _ _ ⟨?_,?_,e1.fr⟩
    · unfold extR;rw[if_pos ⟨h20,h7⟩]
    · unfold extO;rw[if_pos ⟨h20,h7⟩];exact V.ext e1

def pushR(o:Option (Blk×Hp))(kind next:Int)(ws:List Int):Int×Int:=if kind<0\/2147483647<kind then(0,1)else if next≠20/\(mof o).typ next≠8 then(0,3)else makeR o 8 0 (kind*8::next::ws)
def pushO(o:Option (Blk×Hp))(kind next:Int)(ws:List Int):Option (Blk×Hp):=if kind<0\/2147483647<kind then o else if next≠20/\(mof o).typ next≠8 then o else makeO o 8 0 (kind*8::next::ws)
theorem frame_Push_c{H:Array Obj}{hv lB:Option Addr}{lN lC:Nat}{o:Option (Blk×Hp)}{kind next:Int}{ws:List Int}(V:View H hv o)(hkd:I64 kind)(hp:IsWord next)(hsrc:SrcAt H lB (wvs ws))(hlen:lN=ws.length)(hw: ∀w∈ws,IsWord w)
    (hc:cntOK o) (hl:ws.length<=100000):
    frame_Push.C hv kind next lB lN lC H (λv H'=>v=.tuple #[.int .u64 (pushR o kind next ws).1,.int .i64 (pushR o kind next ws).2]/\View H' hv (pushO o kind next ws)/\Fr (own o) H H'):=by
  refine HC.via λR hR=>frame_Push.link ?_
  unfold frame_Push.pt
  refine HC.mono (word_Fix_c hkd) ?_
  rintro _ H0 ⟨rfl,e0⟩
  rw[ite_tup2]
  refine⟨_,_,rfl,?_⟩
  by_cases hk:kind<0\/2147483647<kind
  · rw[if_pos (by simpa using hk)]
    refine hR _ _ ⟨?_,?_,e0.fr⟩
    · unfold pushR;rw[if_pos hk]
    · unfold pushO;rw[if_pos hk];exact V.ext e0
  rw[if_neg (by simpa using hk)]
  have hfx:(if-1152921504606846976<=kind/\kind<1152921504606846976 then fixW kind else 0)=kind*8:=by
    rw[if_pos (by omega)];unfold fixW;omega
  rw[hfx]
  have hall: ∀w∈kind*8::next::ws,IsWord w:=λw hw'=>by
    rcases List.mem_cons.1 hw' with rfl | h
    · exact⟨by omega,by omega⟩
    rcases List.mem_cons.1 h with rfl | h
    · exact hp
    · exact hw w h
  have go: ∀H1,Ext H H1->(¬(next≠20/\(mof o).typ next≠8))-> ∀(b:Nat) (H2:Array Obj),b=H1.size->H2=H1.push (.cells #[.int .u64 (kind*8),.int .u64 next] 35)->
      appendK 1 35 8 [.int .u64 0] (some (Addr.mk b 0 none)) 2 2 lB lN H2 (λap apC H3=>obj_Heap_Make.C hv 8 0 ap (2+lN) apC H3 (λv H4=> ∃ra:Int,∃rb:Int,v=.tuple #[.int .u64 ra,.int .i64 rb]/\R (.tuple #[.int .u64 ra,.int .i64 rb]) H4)):=by
    intro H1 e1 hno b H2 hb hH2
    have e2:=e1.trans (Ext.push' hH2)
    refine ahead (us:=[kind*8,next]) V e2 (push_get hb hH2) (by have:=e1.size;omega) (hsrc.ext e2) hlen rfl (by simp;omega) ?_
    intro p c H3 e3 hs3 hd3
    refine HC.mono (obj_Make_c (ws:=kind*8::next::ws) (V.ext e3) hs3 (by simp;omega) hall (by decide) (by decide) hc (by simp;omega)) ?_
    rintro _ H4 ⟨rfl,V4,f4⟩
    refine⟨_,_,rfl,hR _ _ ⟨?_,?_,e3.fr.trans f4⟩⟩
    · unfold pushR;rw[if_neg hk,if_neg hno]
    · unfold pushO;rw[if_neg hk,if_neg hno];exact V4
  by_cases h20:next=20
  · rw[if_pos h20]
    exact go H0 e0 (λh=>h.1 h20)
  rw[if_neg h20]
  refine HC.mono (obj_Type_c (V.ext e0) hp) ?_
  rintro _ H1 ⟨rfl,e1⟩
  refine⟨_,rfl,?_⟩
  by_cases h8:(mof o).typ next=8
  · rw[if_pos h8]
    exact go H1 (e0.trans e1) (λh=>h.2 h8)
  · rw[if_neg h8]
    refine hR _ _ ⟨?_,?_,(e0.trans e1).fr⟩
    · unfold pushR;rw[if_neg hk,if_pos ⟨h20,h8⟩]
    · unfold pushO;rw[if_neg hk,if_pos ⟨h20,h8⟩];exact V.ext (e0.trans e1)

def Mem.frameKind(m:Mem)(f:Int):Int×Int:=
  if m.fieldE f 8 0=0/\m.get (f / 8+1) % 8=0/\(0<=signed (m.get (f / 8+1)) / 8/\signed (m.get (f / 8+1)) / 8<=2147483647)/\2<=m.len f then(signed (m.get (f / 8+1)) / 8,0)else(0,3)
theorem frame_Kind_c{H:Array Obj}{hv:Option Addr}{o:Option (Blk×Hp)}{w:Int}(V:View H hv o)(hw:IsWord w):
    frame_Kind.C hv w H (λv H'=>v=.tuple #[.int .i64 ((mof o).frameKind w).1,.int .i64 ((mof o).frameKind w).2]/\Ext H H'):=by
  refine HC.via λR hR=>frame_Kind.link ?_
  unfold frame_Kind.pt
  refine HC.mono (obj_Get_c V hw (by decide)) ?_
  rintro _ H1 ⟨rfl,e1⟩
  refine⟨_,_,rfl,?_⟩
  rw[show w / 8+1+0=w / 8+1 by omega]
  have hgw:IsWord (if(mof o).fieldE w 8 0=0 then(mof o).get (w / 8+1)else 0):=by
    split
    · exact V.word _
    · decide
  refine HC.mono (word_Int_c hgw) ?_
  rintro _ H2 ⟨rfl,e2⟩
  have e12:=e1.trans e2
  rw[ite_tupb]
  refine⟨_,_,rfl,?_⟩
  have no: ∀H',Ext H H'-> ¬((mof o).fieldE w 8 0=0/\(mof o).get (w / 8+1) % 8=0/\(0<=signed ((mof o).get (w / 8+1)) / 8/\signed ((mof o).get (w / 8+1)) / 8<=2147483647)/\2<=(mof o).len w)->R (.tuple #[.int .i64 0,.int .i64 3]) H':=by
    intro H' e' hno
    have e:(mof o).frameKind w=(0,3):=by unfold Mem.frameKind;rw[if_neg hno]
    rw[e]at hR
    exact hR _ _ ⟨rfl,e'⟩
  by_cases h0:(mof o).fieldE w 8 0=0
  case neg=>rw[if_neg h0];exact no _ e12 (λh=>h0 h.1)
  simp only[if_pos h0]
  by_cases h1:(mof o).get (w / 8+1) % 8=0
  case neg=>simp only[if_neg h1];rw[if_neg (by decide)];exact no _ e12 (λh=>h1 h.2.1)
  simp only[if_pos h1,if_true]
  by_cases h2:signed ((mof o).get (w / 8+1)) / 8<0
  · rw[if_pos h2];exact no _ e12 (λh=>by omega)
  rw[if_neg h2]
  by_cases h3:signed ((mof o).get (w / 8+1)) / 8>2147483647
  · rw[if_pos h3];exact no _ e12 (λh=>by omega)
  rw[if_neg h3]
  refine HC.mono (obj_Len_c (V.ext e12) hw) ?_
  rintro _ H3 ⟨rfl,e3⟩
  refine⟨_,rfl,?_⟩
  by_cases h4:(mof o).len w<2
  · rw[if_pos h4];exact no _ (e12.trans e3) (λh=>by omega)
  rw[if_neg h4]
  have e:(mof o).frameKind w=(signed ((mof o).get (w / 8+1)) / 8,0):=by unfold Mem.frameKind;rw[if_pos ⟨h0,h1,by omega,by omega⟩]
  rw[e]at hR
  exact hR _ _ ⟨rfl,e12.trans e3⟩
def Mem.frameNext(m:Mem)(f:Int):Int×Int:=if m.is f 8 2 then((if m.fieldE f 8 1=0 then m.get (f / 8+1+1)else 0),m.fieldE f 8 1)else(0,3)
theorem frame_Next_c{H:Array Obj}{hv:Option Addr}{o:Option (Blk×Hp)}{w:Int}(V:View H hv o)(hw:IsWord w):
    frame_Next.C hv w H (λv H'=>v=.tuple #[.int .u64 ((mof o).frameNext w).1,.int .i64 ((mof o).frameNext w).2]/\Ext H H'):=by
  refine HC.via λR hR=>frame_Next.link ?_
  unfold frame_Next.pt
  refine HC.mono (frame_is_c V hw) ?_
  rintro _ H1 ⟨rfl,e1⟩
  refine⟨_,rfl,?_⟩
  by_cases h:(mof o).is w 8 2
  · rw[if_pos (decide_eq_true h)]
    refine HC.mono (obj_Get_c (V.ext e1) hw (by decide)) ?_
    rintro _ H2 ⟨rfl,e2⟩
    refine⟨_,_,rfl,hR _ _ ⟨?_,e1.trans e2⟩⟩
    unfold Mem.frameNext;rw[if_pos h]
  · rw[if_neg (by simpa using h)]
    refine hR _ _ ⟨?_,e1⟩
    unfold Mem.frameNext;rw[if_neg h]

def Mem.aboveN(m:Mem):Nat->Int->Int×Int
  | 0,w=>if m.is w 7 1 then(w,0)else(0,3)
  | n+1,w=>if m.fieldE w 7 0=0 then m.aboveN n (m.get (w / 8+1))else(0,3)
theorem Mem.aboveN_0(m:Mem)(w:Int):m.aboveN 0 w=if m.is w 7 1 then(w,0)else(0,3):=rfl
theorem Mem.aboveN_s(m:Mem)(n:Nat)(w:Int):m.aboveN (n+1) w=if m.fieldE w 7 0=0 then m.aboveN n (m.get (w / 8+1))else(0,3):=rfl
def Mem.above(m:Mem)(w up:Int):Int×Int:=if up<0\/65536<up then(0,4)else m.aboveN up.toNat w
theorem View.aboveW{H:Array Obj}{hv:Option Addr}{o:Option (Blk×Hp)}(V:View H hv o): ∀(n:Nat) (w:Int),IsWord w->IsWord ((mof o).aboveN n w).1
  | 0, w, hw => by unfold Mem.aboveN; split; · exact hw
                   · decide
  | n+1,w,hw=>by
    unfold Mem.aboveN;split
    · exact V.aboveW n _ (V.word _)
    · decide
theorem frame_above_c{H:Array Obj}{hv:Option Addr}{o:Option (Blk×Hp)}{w up:Int}(V:View H hv o)(hw:IsWord w)(hu:I64 up):
    frame_above.C hv w up H (λv H'=>v=.tuple #[.int .u64 ((mof o).above w up).1,.int .i64 ((mof o).above w up).2]/\Ext H H'):=by
  refine HC.via λR hR=>frame_above.link ?_
  unfold frame_above.pt
  by_cases hr:up<0\/65536<up
  · rw[if_pos (by simpa using hr)]
    have e:(mof o).above w up=(0,4):=by unfold Mem.above;rw[if_pos hr]
    rw[e]at hR
    exact hR _ _ ⟨rfl,Ext.refl _⟩
  rw[if_neg (by simpa using hr)]
  have e:(mof o).above w up=(mof o).aboveN up.toNat w:=by unfold Mem.above;rw[if_neg hr]
  rw[e]at hR
  refine⟨λx i H'=>(0<=i/\i<=up)/\Ext H H'/\IsWord x/\(mof o).aboveN (up-i).toNat x=(mof o).aboveN up.toNat w,λ_ i _=>(up-i).toNat,⟨by omega,Ext.refl _,hw,by rw[Int.sub_zero]⟩,?_⟩
  rintro x i H1 ⟨hi,e1,hx,hab⟩
  have V1:=V.ext e1
  by_cases hlt:i<up
  · rw[if_pos hlt]
    have hs:(up-i).toNat=(up-(i+1)).toNat+1:=by omega
    rw[hs,Mem.aboveN_s]at hab
    refine HC.mono (obj_Get_c V1 hx (by decide)) ?_
    rintro _ H2 ⟨rfl,e2⟩
    refine⟨_,_,rfl,?_⟩
    rw[show x / 8+1+0=x / 8+1 by omega]
    by_cases h0:(mof o).fieldE x 7 0=0
    · rw[if_pos h0]at hab
      rw[if_pos h0,if_pos h0,w64 (n:=i+1) (by omega)]
      exact⟨⟨by omega,e1.trans e2,V.word _,hab⟩,by show(up-(i+1)).toNat< (up-i).toNat;omega⟩
    · rw[if_neg h0]at hab
      rw[if_neg h0]
      rw[<-hab]at hR
      exact hR _ _ ⟨rfl,e1.trans e2⟩
  · rw[if_neg hlt]
    have hs:(up-i).toNat=0:=by omega
    rw[hs,Mem.aboveN_0]at hab
    refine HC.mono (frame_is_c V1 hx) ?_
    rintro _ H2 ⟨rfl,e2⟩
    refine⟨_,rfl,?_⟩
    by_cases h:(mof o).is x 7 1
    · rw[if_pos h]at hab
      rw[if_pos (decide_eq_true h)]
      rw[<-hab]at hR
      exact hR _ _ ⟨rfl,e1.trans e2⟩
    · rw[if_neg h]at hab
      rw[if_neg (by simpa using h)]
      rw[<-hab]at hR
      exact hR _ _ ⟨rfl,e1.trans e2⟩
theorem View.aboveIs{H:Array Obj}{hv:Option Addr}{o:Option (Blk×Hp)}(V:View H hv o)(w up:Int)(hw:IsWord w):IsWord ((mof o).above w up).1:=by
  unfold Mem.above;split
  · decide
  · exact V.aboveW _ _ hw

def Mem.envE(m:Mem)(w up i:Int):Int:=
  if(m.above w up).2≠0 then(m.above w up).2 else if i<0\/m.count' (m.above w up).1<=i then 4 else m.fieldE (m.above w up).1 7 (i+1)
theorem View.count_bd{H:Array Obj}{hv:Option Addr}{o:Option (Blk×Hp)}(V:View H hv o)(w:Int):0<=(mof o).count' w/\(mof o).count' w<=62:=by
  have hl:=V.len_bd w
  unfold Mem.count'
  split
  · rename_i h;have:=h.2;omega
  · omega
theorem frame_Get_c{H:Array Obj}{hv:Option Addr}{o:Option (Blk×Hp)}{w up i:Int}(V:View H hv o)(hw:IsWord w)(hu:I64 up)(hi:I64 i):
    frame_Get.C hv w up i H (λv H'=>v=.tuple #[.int .u64 (if(mof o).envE w up i=0 then(mof o).get (((mof o).above w up).1 / 8+1+(i+1))else 0),.int .i64 ((mof o).envE w up i)]/\Ext H H'):=by
  refine HC.via λR hR=>frame_Get.link ?_
  unfold frame_Get.pt
  refine HC.mono (frame_above_c V hw hu) ?_
  rintro _ H1 ⟨rfl,e1⟩
  refine⟨_,_,rfl,?_⟩
  have hx:=V.aboveIs w up hw
  by_cases h0:((mof o).above w up).2=0
  case neg=>
    rw[if_neg h0]
    have e:(mof o).envE w up i=((mof o).above w up).2:=by unfold Mem.envE;rw[if_pos h0]
    rw[e,if_neg h0]at hR
    exact hR _ _ ⟨rfl,e1⟩
  rw[if_pos h0]
  by_cases h1:i<0
  · rw[if_pos h1]
    have e:(mof o).envE w up i=4:=by unfold Mem.envE;rw[if_neg (λh=>h h0),if_pos (.inl h1)]
    rw[e]at hR
    exact hR _ _ ⟨rfl,e1⟩
  rw[if_neg h1]
  refine HC.mono (frame_Count_c (V.ext e1) hx) ?_
  rintro _ H2 ⟨rfl,e2⟩
  refine⟨_,rfl,?_⟩
  have hb:=V.count_bd ((mof o).above w up).1
  by_cases h2:i>=(mof o).count' ((mof o).above w up).1
  · rw[if_pos h2]
    have e:(mof o).envE w up i=4:=by unfold Mem.envE;rw[if_neg (λh=>h h0),if_pos (.inr h2)]
    rw[e]at hR
    exact hR _ _ ⟨rfl,e1.trans e2⟩
  rw[if_neg h2,w64 (n:=i+1) (by omega)]
  have e:(mof o).envE w up i=(mof o).fieldE ((mof o).above w up).1 7 (i+1):=by unfold Mem.envE;rw[if_neg (λh=>h h0),if_neg (by omega)]
  rw[e]at hR
  refine HC.mono (obj_Get_c ((V.ext e1).ext e2) hx ⟨by omega,by omega⟩) ?_
  rintro _ H3 ⟨rfl,e3⟩
  exact⟨_,_,rfl,hR _ _ ⟨rfl,(e1.trans e2).trans e3⟩⟩
def eputE(o:Option (Blk×Hp))(w up i v:Int):Int:=
  if((mof o).above w up).2≠0 then((mof o).above w up).2 else if i<0\/(mof o).count' ((mof o).above w up).1<=i then 4 else setE o ((mof o).above w up).1 7 (i+1) v
def eputO(o:Option (Blk×Hp))(w up i v:Int):Option (Blk×Hp):=
  if((mof o).above w up).2≠0 then o else if i<0\/(mof o).count' ((mof o).above w up).1<=i then o else setO o ((mof o).above w up).1 7 (i+1) v
theorem frame_Put_c{H:Array Obj}{hv:Option Addr}{o:Option (Blk×Hp)}{w up i v:Int}(V:View H hv o)(hw:IsWord w)(hu:I64 up)(hi:I64 i)(hv':IsWord v):
    frame_Put.C hv w up i v H (λu H'=>u=.int .i64 (eputE o w up i v)/\View H' hv (eputO o w up i v)/\Fr (own o) H H'):=by
  refine HC.via λR hR=>frame_Put.link ?_
  unfold frame_Put.pt
  refine HC.mono (frame_above_c V hw hu) ?_
  rintro _ H1 ⟨rfl,e1⟩
  refine⟨_,_,rfl,?_⟩
  have hx:=V.aboveIs w up hw
  by_cases h0:((mof o).above w up).2=0
  case neg=>
    rw[if_neg h0]
    have e:eputE o w up i v=((mof o).above w up).2:=by unfold eputE;rw[if_pos h0]
    have e':eputO o w up i v=o:=by unfold eputO;rw[if_pos h0]
    rw[e,e']at hR
    exact hR _ _ ⟨rfl,V.ext e1,e1.fr⟩
  rw[if_pos h0]
  by_cases h1:i<0
  · rw[if_pos h1]
    have e:eputE o w up i v=4:=by unfold eputE;rw[if_neg (λh=>h h0),if_pos (.inl h1)]
    have e':eputO o w up i v=o:=by unfold eputO;rw[if_neg (λh=>h h0),if_pos (.inl h1)]
    rw[e,e']at hR
    exact hR _ _ ⟨rfl,V.ext e1,e1.fr⟩
  rw[if_neg h1]
  refine HC.mono (frame_Count_c (V.ext e1) hx) ?_
  rintro _ H2 ⟨rfl,e2⟩
  refine⟨_,rfl,?_⟩
  have hb:=V.count_bd ((mof o).above w up).1
  have e12:=e1.trans e2
  by_cases h2:i>=(mof o).count' ((mof o).above w up).1
  · rw[if_pos h2]
    have e:eputE o w up i v=4:=by unfold eputE;rw[if_neg (λh=>h h0),if_pos (.inr h2)]
    have e':eputO o w up i v=o:=by unfold eputO;rw[if_neg (λh=>h h0),if_pos (.inr h2)]
    rw[e,e']at hR
    exact hR _ _ ⟨rfl,V.ext e12,e12.fr⟩
  rw[if_neg h2,w64 (n:=i+1) (by omega)]
  have e:eputE o w up i v=setE o ((mof o).above w up).1 7 (i+1) v:=by unfold eputE;rw[if_neg (λh=>h h0),if_neg (by omega)]
  have e':eputO o w up i v=setO o ((mof o).above w up).1 7 (i+1) v:=by unfold eputO;rw[if_neg (λh=>h h0),if_neg (by omega)]
  rw[e,e']at hR
  refine HC.mono (obj_Set_c (V.ext e12) hx ⟨by omega,by omega⟩ hv') ?_
  rintro _ H3 ⟨rfl,V3,f3⟩
  exact⟨_,rfl,hR _ _ ⟨rfl,V3,e12.fr.trans f3⟩⟩

end Go.Proofs.YtibpklpgmgakcaaGreat
