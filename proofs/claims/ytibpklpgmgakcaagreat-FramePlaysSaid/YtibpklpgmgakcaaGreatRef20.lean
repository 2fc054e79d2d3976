/-
 The document's environments and frames (moraineref20): they answer what the program's contracts say. Proves nothing of any one statement.
-/
import Derived.Test.YtibpklpgmgakcaaGreatRefD
import Derived.Test.YtibpklpgmgakcaaGreatFrame
import Derived.Test.YtibpklpgmgakcaaGreatFref20
set_option linter.unusedVariables false
set_option linter.unusedSimpArgs false
namespace Go.Proofs.YtibpklpgmgakcaaGreat
open Go

theorem Mem.len_bd'(m:Mem)(w:Int):0<=m.len w/\m.len w<=62:=by
 unfold Mem.len;split
 ·rename_i h;exact h.len_lt
 ·decide
theorem Mem.is_field{m:Mem}{w kind i:Int}(hk:kind≠0)(hi:0<=i):m.fieldE w kind i=0 ↔ m.is w kind (i+1):=by
 unfold Mem.fieldE Mem.is
 by_cases hO:m.isObj w
 ·by_cases ht:m.typ w=kind
  ·rw[if_neg (by simp[hO,ht])]
   by_cases hl:i<0\/m.len w<=i
   ·rw[if_pos hl];exact⟨λh=>by simp at h,λh=>by omega⟩
   ·rw[if_neg hl];exact⟨λ_=>⟨ht,by omega⟩,λ_=>rfl⟩
  ·rw[if_pos (.inr ht)];exact⟨λh=>by simp at h,λh=>absurd h.1 ht⟩
 ·rw[if_pos (.inl hO)]
  exact⟨λh=>by simp at h,λh=>absurd (h.1.symm.trans (nothing_typ hO)) hk⟩
theorem ref20_is_c{H:Array Obj}{q:RB}{r:RM}{s:Sp}{ep w kind least:Int}(h:RHAt H q r s ep)(ok:MemOK s.mem)(hw:IsWord w)(hk:kind≠0):
  moraineref20_is.C (some ⟨q.h,0,none⟩) w kind least H (λv H'=>v=.tuple #[.int .i64 (if s.mem.is w kind least then s.mem.len w else 0),.bool (decide (s.mem.is w kind least))]/\Ext H H'):=by
 refine HC.via λR hR=>moraineref20_is.link ?_
 unfold moraineref20_is.pt
 refine HC.mono (ref10_Object_c h ok hw) ?_
 rintro v H1 ⟨⟨a,k,t,l,x,m,rfl,ho⟩,e1⟩
 refine⟨a,k,t,l,x,m,rfl,?_⟩
 intro b H2 hb hH2
 obtain⟨p1,p2⟩:=box_new (vs:=[.int .i64 k,.int .i64 t,.int .i64 l,.int .i64 x,.int .u64 m]) hb hH2 rfl rfl
 refine⟨p1,λH3 hH3=>?_⟩
 obtain⟨g3,e3⟩:=p2 H3 hH3
 have e13:=e1.trans e3
 have hw0:=hw.1
 have no: ¬s.mem.is w kind least->R (.tuple #[.int .i64 0,.bool false]) H3:=λhn=>by
  rw[if_neg hn,decide_eq_false hn]at hR
  exact hR _ _ ⟨rfl,e13⟩
 rcases ho with⟨hO,rfl,rfl,rfl,rfl⟩ | ⟨hO,rfl,rfl,rfl,rfl⟩
 case inr=>rw[if_pos (by omega)];exact no (λhh=>hk (hh.1.symm.trans (nothing_typ hO)))
 have hle:s.mem.len w=hn (s.mem.get (w / 8)):=by unfold Mem.len;rw[if_pos hO]
 have hty:s.mem.typ w=Go.Proofs.YtibpklpgmgakcaaGreat.hk (s.mem.get (w / 8)):=by unfold Mem.typ;rw[if_pos hO]
 rw[if_neg (by omega)]
 refine⟨_,by rw[box_get g3];rfl,?_⟩
 by_cases hk':Go.Proofs.YtibpklpgmgakcaaGreat.hk (s.mem.get (w / 8))=kind
 case neg=>rw[if_neg hk'];exact no (λhh=>hk' (hty.symm.trans hh.1))
 rw[if_pos hk']
 refine⟨_,by rw[box_get g3];rfl,?_⟩
 by_cases hl:hn (s.mem.get (w / 8))<least
 ·rw[if_pos hl];exact no (λhh=>by have:=hh.2;omega)
 rw[if_neg hl]
 refine⟨_,by rw[box_get g3];rfl,?_⟩
 have hy:s.mem.is w kind least:=⟨hty.trans hk',by omega⟩
 rw[if_pos hy,decide_eq_true hy,hle]at hR
 exact hR _ _ ⟨rfl,e13⟩
theorem ref20_Count_c{H:Array Obj}{q:RB}{r:RM}{s:Sp}{ep w:Int}(h:RHAt H q r s ep)(ok:MemOK s.mem)(hw:IsWord w):
  moraineref20_Count.C (some ⟨q.h,0,none⟩) w H (λv H'=>v=.int .i64 (s.mem.count' w)/\Ext H H'):=by
 refine HC.via λR hR=>moraineref20_Count.link ?_
 unfold moraineref20_Count.pt
 refine HC.mono (ref20_is_c h ok hw (by decide)) ?_
 rintro _ H1 ⟨rfl,e1⟩
 refine⟨_,_,rfl,?_⟩
 have hl:=Mem.len_bd' s.mem w
 unfold Mem.count' at hR
 by_cases hi:s.mem.is w 7 1
 ·rw[if_pos (decide_eq_true hi),if_pos hi,w64 (by omega)]
  rw[if_pos hi]at hR
  exact hR _ _ ⟨rfl,e1⟩
 ·rw[if_neg (by simpa using hi)]
  rw[if_neg hi]at hR
  exact hR _ _ ⟨rfl,e1⟩
theorem ref20_Fields_c{H:Array Obj}{q:RB}{r:RM}{s:Sp}{ep w:Int}(h:RHAt H q r s ep)(ok:MemOK s.mem)(hw:IsWord w):
  moraineref20_Fields.C (some ⟨q.h,0,none⟩) w H (λv H'=>v=.int .i64 (s.mem.fields w)/\Ext H H'):=by
 refine HC.via λR hR=>moraineref20_Fields.link ?_
 unfold moraineref20_Fields.pt
 refine HC.mono (ref20_is_c h ok hw (by decide)) ?_
 rintro _ H1 ⟨rfl,e1⟩
 refine⟨_,_,rfl,?_⟩
 have hl:=Mem.len_bd' s.mem w
 unfold Mem.fields at hR
 by_cases hi:s.mem.is w 8 2
 ·rw[if_pos (decide_eq_true hi),if_pos hi,w64 (by omega)]
  rw[if_pos hi]at hR
  exact hR _ _ ⟨rfl,e1⟩
 ·rw[if_neg (by simpa using hi)]
  rw[if_neg hi]at hR
  exact hR _ _ ⟨rfl,e1⟩
def Mem.frameField(m:Mem)(w i:Int):Int×Int:=if m.is w 8 2 then(if i<0\/m.fields w<=i then(0,4)else(m.get (w / 8+1+(i+2)),0))else(0,3)
theorem Mem.frameField_in{m:Mem}{w i:Int}(hi:m.is w 8 2)(h: ¬(i<0\/m.fields w<=i)):m.fieldE w 8 (i+2)=0:=by
 refine(Mem.is_field (by decide) (by omega)).2 ⟨hi.1,?_⟩
 have:m.fields w=m.len w-2:=by unfold Mem.fields;rw[if_pos hi]
 omega
theorem ref20_Field_c{H:Array Obj}{q:RB}{r:RM}{s:Sp}{ep w i:Int}(h:RHAt H q r s ep)(ok:MemOK s.mem)(hw:IsWord w)(hi64:I64 i):
  moraineref20_Field.C (some ⟨q.h,0,none⟩) w i H (λv H'=>v=.tuple #[.int .u64 (s.mem.frameField w i).1,.int .i64 (s.mem.frameField w i).2]/\Ext H H'):=by
 refine HC.via λR hR=>moraineref20_Field.link ?_
 unfold moraineref20_Field.pt
 refine HC.mono (ref20_is_c h ok hw (by decide)) ?_
 rintro _ H1 ⟨rfl,e1⟩
 refine⟨_,_,rfl,?_⟩
 have hl:=Mem.len_bd' s.mem w
 by_cases hi:s.mem.is w 8 2
 case neg=>
  rw[if_neg (by simpa using hi)]
  have e:s.mem.frameField w i=(0,3):=by unfold Mem.frameField;rw[if_neg hi]
  rw[e]at hR;exact hR _ _ ⟨rfl,e1⟩
 rw[if_pos (decide_eq_true hi),if_pos hi,w64 (by omega)]
 have hf:s.mem.fields w=s.mem.len w-2:=by unfold Mem.fields;rw[if_pos hi]
 by_cases hr:i<0\/s.mem.fields w<=i
 ·rw[if_pos (by simp only[Bool.or_eq_true,decide_eq_true_eq];omega)]
  have e:s.mem.frameField w i=(0,4):=by unfold Mem.frameField;rw[if_pos hi,if_pos hr]
  rw[e]at hR;exact hR _ _ ⟨rfl,e1⟩
 rw[if_neg (by simp only[Bool.or_eq_true,decide_eq_true_eq];omega),w64 (by omega)]
 have e:s.mem.frameField w i=(s.mem.get (w / 8+1+(i+2)),0):=by unfold Mem.frameField;rw[if_pos hi,if_neg hr]
 rw[e]at hR
 refine HC.mono (ref10_Get_c (h.ext e1) ok hw ⟨by omega,by omega⟩) ?_
 rintro _ H2 ⟨rfl,e2⟩
 have h0:=Mem.frameField_in hi hr
 rw[h0,if_pos rfl]
 exact⟨_,_,rfl,hR _ _ ⟨rfl,e1.trans e2⟩⟩
theorem ref20_Next_c{H:Array Obj}{q:RB}{r:RM}{s:Sp}{ep w:Int}(h:RHAt H q r s ep)(ok:MemOK s.mem)(hw:IsWord w):
  moraineref20_Next.C (some ⟨q.h,0,none⟩) w H (λv H'=>v=.tuple #[.int .u64 (s.mem.frameNext w).1,.int .i64 (s.mem.frameNext w).2]/\Ext H H'):=by
 refine HC.via λR hR=>moraineref20_Next.link ?_
 unfold moraineref20_Next.pt
 refine HC.mono (ref20_is_c h ok hw (by decide)) ?_
 rintro _ H1 ⟨rfl,e1⟩
 refine⟨_,_,rfl,?_⟩
 unfold Mem.frameNext at hR
 by_cases hi:s.mem.is w 8 2
 ·rw[if_pos (decide_eq_true hi)]
  simp only[if_pos hi]at hR
  refine HC.mono (ref10_Get_c (h.ext e1) ok hw (by decide)) ?_
  rintro _ H2 ⟨rfl,e2⟩
  exact⟨_,_,rfl,hR _ _ ⟨rfl,e1.trans e2⟩⟩
 ·rw[if_neg (by simpa using hi)]
  simp only[if_neg hi]at hR
  exact hR _ _ ⟨rfl,e1⟩
theorem ref20_Kind_c{H:Array Obj}{q:RB}{r:RM}{s:Sp}{ep w:Int}(h:RHAt H q r s ep)(ok:MemOK s.mem)(hw:IsWord w):
  moraineref20_Kind.C (some ⟨q.h,0,none⟩) w H (λv H'=>v=.tuple #[.int .i64 (s.mem.frameKind w).1,.int .i64 (s.mem.frameKind w).2]/\Ext H H'):=by
 refine HC.via λR hR=>moraineref20_Kind.link ?_
 unfold moraineref20_Kind.pt
 refine HC.mono (ref20_is_c h ok hw (by decide)) ?_
 rintro _ H1 ⟨rfl,e1⟩
 refine⟨_,_,rfl,?_⟩
 have no: ∀H',Ext H H'-> ¬(s.mem.fieldE w 8 0=0/\s.mem.get (w / 8+1) % 8=0/\(0<=signed (s.mem.get (w / 8+1)) / 8/\signed (s.mem.get (w / 8+1)) / 8<=2147483647)/\2<=s.mem.len w)->R (.tuple #[.int .i64 0,.int .i64 3]) H':=λH' e hn=>by
  have ek:s.mem.frameKind w=(0,3):=by unfold Mem.frameKind;rw[if_neg hn]
  rw[ek]at hR;exact hR _ _ ⟨rfl,e⟩
 by_cases hi:s.mem.is w 8 2
 case neg=>
  rw[if_neg (by simpa using hi)]
  exact no _ e1 (λhh=>hi ⟨((Mem.is_field (by decide) (by decide)).1 hh.1).1,hh.2.2.2⟩)
 rw[if_pos (decide_eq_true hi)]
 have h0:s.mem.fieldE w 8 0=0:=(Mem.is_field (by decide) (by decide)).2 ⟨hi.1,by have:=hi.2;omega⟩
 refine HC.mono (ref10_Get_c (h.ext e1) ok hw (by decide)) ?_
 rintro _ H2 ⟨rfl,e2⟩
 rw[h0,if_pos rfl,show w / 8+1+0=w / 8+1 by omega]
 refine⟨_,_,rfl,?_⟩
 have hgw:IsWord (s.mem.get (w / 8+1)):=(ok.seg _).words _
 refine HC.mono (ref01_Of_c hgw) ?_
 rintro v H3 ⟨k,t,a,x,m,rfl,hof,e3⟩
 refine⟨k,t,a,x,m,rfl,?_⟩
 intro b H4 hb hH4
 obtain⟨p1,p2⟩:=box_new (vs:=[.int .i64 k,.int .i64 t,.int .i64 a,.int .i64 x,.int .u64 m]) hb hH4 rfl rfl
 refine⟨p1,λH5 hH5=>?_⟩
 obtain⟨g5,e5⟩:=p2 H5 hH5
 have e15:=e1.trans (e2.trans (e3.trans e5))
 have hfx:(k=1 ↔ s.mem.get (w / 8+1) % 8=0)/\(k=1->x=signed (s.mem.get (w / 8+1)) / 8):=by
  unfold OfIs at hof
  rcases hof with h | h | h | h | h | h
  ·exact⟨⟨λ_=>h.1,λ_=>h.2.1⟩,λ_=>h.2.2.2.2.1⟩
  ·exact⟨⟨λe=>by omega,λe=>by omega⟩,λe=>by omega⟩
  ·exact⟨⟨λe=>by omega,λe=>by omega⟩,λe=>by omega⟩
  ·exact⟨⟨λe=>by omega,λe=>by omega⟩,λe=>by omega⟩
  ·exact⟨⟨λe=>by omega,λe=>by omega⟩,λe=>by omega⟩
  ·refine⟨⟨λe=>by omega,λe=>?_⟩,λe=>by omega⟩
   have h1:=h.1
   unfold mayW at h1
   rw[if_pos e]at h1
   exact absurd h1 (by decide)
 refine⟨k,by rw[hat_blk g5];rfl,?_⟩
 by_cases hk1:k=1
 case neg=>rw[if_neg hk1];exact no _ e15 (λhh=>hk1 (hfx.1.2 hh.2.1))
 rw[if_pos hk1]
 have hx:=hfx.2 hk1
 refine⟨x,by rw[box_get g5];rfl,?_⟩
 by_cases hx0:x<0
 ·rw[if_pos hx0];exact no _ e15 (λhh=>by have:=hh.2.2.1;omega)
 rw[if_neg hx0]
 refine⟨x,by rw[box_get g5];rfl,?_⟩
 by_cases hx1:x>2147483647
 ·rw[if_pos hx1];exact no _ e15 (λhh=>by have:=hh.2.2.1;omega)
 rw[if_neg hx1]
 refine⟨x,by rw[box_get g5];rfl,?_⟩
 have ek:s.mem.frameKind w=(signed (s.mem.get (w / 8+1)) / 8,0):=by unfold Mem.frameKind;rw[if_pos ⟨h0,hfx.1.1 hk1,by omega,by have:=hi.2;omega⟩]
 rw[ek,<-hx]at hR
 exact hR _ _ ⟨rfl,e15⟩

def Mem.slotE(m:Mem)(w up i:Int):Int:=if(m.above w up).2≠0 then(m.above w up).2 else if i<0\/m.count' (m.above w up).1<=i then 4 else 0
theorem MemOK.aboveW{m:Mem}(ok:MemOK m): ∀(n:Nat) (w:Int),IsWord w->IsWord (m.aboveN n w).1
 | 0,w,hw=>by
  unfold Mem.aboveN;split
  ·exact hw
  ·decide
 | n+1,w,hw=>by
  unfold Mem.aboveN;split
  ·exact ok.aboveW n _ ((ok.seg _).words _)
  ·decide
theorem ref20_slot_c{H:Array Obj}{q:RB}{r:RM}{s:Sp}{ep w up i:Int}(h:RHAt H q r s ep)(ok:MemOK s.mem)(hw:IsWord w)(hi:I64 i):
  moraineref20_slot.C (some ⟨q.h,0,none⟩) w up i H (λv H'=>v=.tuple #[.int .u64 (if s.mem.slotE w up i=0 then(s.mem.above w up).1 else 0),.int .i64 (s.mem.slotE w up i)]/\Ext H H'):=by
 refine HC.via λR hR=>moraineref20_slot.link ?_
 unfold moraineref20_slot.pt
 by_cases hr:up<0\/65536<up
 ·rw[if_pos (by simp only[Bool.or_eq_true,decide_eq_true_eq];omega)]
  have e:s.mem.slotE w up i=4:=by unfold Mem.slotE Mem.above;rw[if_pos hr,if_pos (by decide)]
  rw[e,if_neg (by decide)]at hR
  exact hR _ _ ⟨rfl,Ext.refl _⟩
 rw[if_neg (by simp only[Bool.or_eq_true,decide_eq_true_eq];omega)]
 have ea:s.mem.above w up=s.mem.aboveN up.toNat w:=by unfold Mem.above;rw[if_neg hr]
 refine⟨λx k H'=>(0<=k/\k<=up)/\Ext H H'/\IsWord x/\s.mem.aboveN (up-k).toNat x=s.mem.aboveN up.toNat w,λ_ k _=>(up-k).toNat,⟨by omega,Ext.refl _,hw,by rw[Int.sub_zero]⟩,?_⟩
 rintro x k H1 ⟨hk,e1,hx,hab⟩
 have h1:=h.ext e1
 by_cases hlt:k<up
 ·rw[if_pos hlt]
  have hs:(up-k).toNat=(up-(k+1)).toNat+1:=by omega
  rw[hs,Mem.aboveN_s]at hab
  refine HC.mono (ref20_is_c h1 ok hx (by decide)) ?_
  rintro _ H2 ⟨rfl,e2⟩
  refine⟨_,_,rfl,?_⟩
  have hfi:=Mem.is_field (m:=s.mem) (w:=x) (kind:=7) (i:=0) (by decide) (by decide)
  by_cases his:s.mem.is x 7 1
  ·rw[if_pos (decide_eq_true his)]
   have h0:=hfi.2 his
   refine HC.mono (ref10_Get_c (h1.ext e2) ok hx (by decide)) ?_
   rintro _ H3 ⟨rfl,e3⟩
   refine⟨_,_,rfl,?_⟩
   rw[if_pos h0]at hab⊢
   rw[show x / 8+1+0=x / 8+1 by omega,w64 (n:=k+1) (by omega)]
   exact⟨⟨by omega,e1.trans (e2.trans e3),(ok.seg _).words _,hab⟩,by show(up-(k+1)).toNat< (up-k).toNat;omega⟩
  ·rw[if_neg (by simpa using his)]
   rw[if_neg (λh0=>his (hfi.1 h0))]at hab
   have e:s.mem.slotE w up i=3:=by unfold Mem.slotE;rw[ea,<-hab,if_pos (by decide)]
   rw[e,if_neg (by decide)]at hR
   exact hR _ _ ⟨rfl,e1.trans e2⟩
 ·rw[if_neg hlt]
  have hs:(up-k).toNat=0:=by omega
  rw[hs,Mem.aboveN_0]at hab
  refine HC.mono (ref20_is_c h1 ok hx (by decide)) ?_
  rintro _ H2 ⟨rfl,e2⟩
  refine⟨_,_,rfl,?_⟩
  have hl:=Mem.len_bd' s.mem x
  by_cases his:s.mem.is x 7 1
  ·rw[if_pos (decide_eq_true his),if_pos his,w64 (by omega)]
   rw[if_pos his]at hab
   have hc:s.mem.count' x=s.mem.len x-1:=by unfold Mem.count';rw[if_pos his]
   by_cases hb:i<0\/s.mem.count' x<=i
   ·rw[if_pos (by simp only[Bool.or_eq_true,decide_eq_true_eq];omega)]
    have e:s.mem.slotE w up i=4:=by unfold Mem.slotE;rw[ea,<-hab,if_neg (show¬(0:Int)≠0 by decide),if_pos hb]
    rw[e,if_neg (by decide)]at hR
    exact hR _ _ ⟨rfl,e1.trans e2⟩
   ·rw[if_neg (by simp only[Bool.or_eq_true,decide_eq_true_eq];omega)]
    have e:s.mem.slotE w up i=0:=by unfold Mem.slotE;rw[ea,<-hab,if_neg (show¬(0:Int)≠0 by decide),if_neg hb]
    rw[e,if_pos rfl,ea,<-hab]at hR
    exact hR _ _ ⟨rfl,e1.trans e2⟩
  ·rw[if_neg (by simpa using his)]
   rw[if_neg his]at hab
   have e:s.mem.slotE w up i=3:=by unfold Mem.slotE;rw[ea,<-hab,if_pos (by decide)]
   rw[e,if_neg (by decide)]at hR
   exact hR _ _ ⟨rfl,e1.trans e2⟩
theorem Mem.slot_env{m:Mem}{w up i:Int}:(m.slotE w up i≠0->m.envE w up i=m.slotE w up i)/\(m.slotE w up i=0->(m.above w up).2=0/\ ¬(i<0\/m.count' (m.above w up).1<=i)/\0<=i/\i<62/\m.envE w up i=m.fieldE (m.above w up).1 7 (i+1)):=by
 unfold Mem.slotE Mem.envE
 by_cases h1:(m.above w up).2≠0
 ·rw[if_pos h1,if_pos h1]
  exact⟨λ_=>rfl,λh=>absurd h h1⟩
 rw[if_neg h1,if_neg h1]
 by_cases h2:i<0\/m.count' (m.above w up).1<=i
 ·rw[if_pos h2,if_pos h2]
  exact⟨λ_=>rfl,λh=>by simp at h⟩
 rw[if_neg h2,if_neg h2]
 refine⟨λh=>absurd rfl h,λ_=>⟨by omega,h2,by omega,?_,rfl⟩⟩
 have hl:=Mem.len_bd' m (m.above w up).1
 have:m.count' (m.above w up).1<=61:=by unfold Mem.count';split<;>omega
 omega
theorem ref20_Get_c{H:Array Obj}{q:RB}{r:RM}{s:Sp}{ep w up i:Int}(h:RHAt H q r s ep)(ok:MemOK s.mem)(hw:IsWord w)(hi:I64 i):
  moraineref20_Get.C (some ⟨q.h,0,none⟩) w up i H (λv H'=>v=.tuple #[.int .u64 (if s.mem.envE w up i=0 then s.mem.get ((s.mem.above w up).1 / 8+1+(i+1))else 0),.int .i64 (s.mem.envE w up i)]/\Ext H H'):=by
 refine HC.via λR hR=>moraineref20_Get.link ?_
 unfold moraineref20_Get.pt
 refine HC.mono (ref20_slot_c h ok hw hi) ?_
 rintro _ H1 ⟨rfl,e1⟩
 refine⟨_,_,rfl,?_⟩
 obtain⟨s1,s2⟩:=Mem.slot_env (m:=s.mem) (w:=w) (up:=up) (i:=i)
 by_cases h0:s.mem.slotE w up i=0
 ·obtain⟨_,_,hi0,hi62,he⟩:=s2 h0
  rw[if_pos h0,if_pos h0,w64 (n:=i+1) (by omega)]
  have hx:IsWord (s.mem.above w up).1:=by
   unfold Mem.above;split
   ·decide
   ·exact ok.aboveW _ _ hw
  refine HC.mono (ref10_Get_c (h.ext e1) ok hx ⟨by omega,by omega⟩) ?_
  rintro _ H2 ⟨rfl,e2⟩
  rw[he]at hR
  exact⟨_,_,rfl,hR _ _ ⟨rfl,e1.trans e2⟩⟩
 ·rw[if_neg h0]
  rw[s1 h0,if_neg h0]at hR
  exact hR _ _ ⟨rfl,e1⟩
theorem ref20_Put_c{H:Array Obj}{q:RB}{r:RM}{b:Blk}{x:Hp}{ep w up i v:Int}(h:RHAt H q r x.sp ep)(ok:SpOK x.sp)(hw:IsWord w)(hi:I64 i)(hv:IsWord v):
  moraineref20_Put.C (some ⟨q.h,0,none⟩) w up i v H (λu H'=>u=.int .i64 (eputE (some (b,x)) w up i v)/\RHAt H' q r (spo (eputO (some (b,x)) w up i v)) ep/\Fr (q.all r) H H'):=by
 refine HC.via λR hR=>moraineref20_Put.link ?_
 unfold moraineref20_Put.pt
 refine HC.mono (ref20_slot_c h ok.mem hw hi) ?_
 rintro _ H1 ⟨rfl,e1⟩
 refine⟨_,_,rfl,?_⟩
 obtain⟨s1,s2⟩:=Mem.slot_env (m:=x.sp.mem) (w:=w) (up:=up) (i:=i)
 have eM:mof (some (b,x))=x.sp.mem:=rfl
 by_cases h0:x.sp.mem.slotE w up i=0
 ·obtain⟨ha,hb,hi0,hi62,he⟩:=s2 h0
  rw[if_pos h0,if_pos h0,w64 (n:=i+1) (by omega)]
  have hx:IsWord (x.sp.mem.above w up).1:=by
   unfold Mem.above;split
   ·decide
   ·exact ok.mem.aboveW _ _ hw
  refine HC.mono (ref10_Set_c (b:=b) (h.ext e1) ok hx ⟨by omega,by omega⟩ hv) ?_
  rintro _ H2 ⟨rfl,h2,f2⟩
  have eE:eputE (some (b,x)) w up i v=setE (some (b,x)) (x.sp.mem.above w up).1 7 (i+1) v:=by unfold eputE;rw[eM,if_neg (by omega),if_neg hb]
  have eO:eputO (some (b,x)) w up i v=setO (some (b,x)) (x.sp.mem.above w up).1 7 (i+1) v:=by unfold eputO;rw[eM,if_neg (by omega),if_neg hb]
  rw[eE,eO]at hR
  exact⟨_,rfl,hR _ _ ⟨rfl,h2,e1.fr.trans f2⟩⟩
 ·rw[if_neg h0]
  have hsl:x.sp.mem.slotE w up i=eputE (some (b,x)) w up i v/\eputO (some (b,x)) w up i v=some (b,x):=by
   unfold Mem.slotE at h0⊢
   unfold eputE eputO
   rw[eM]
   by_cases c1:(x.sp.mem.above w up).2≠0
   ·rw[if_pos c1,if_pos c1,if_pos c1];exact⟨rfl,rfl⟩
   rw[if_neg c1]at h0
   rw[if_neg c1,if_neg c1,if_neg c1]
   by_cases c2:i<0\/x.sp.mem.count' (x.sp.mem.above w up).1<=i
   ·rw[if_pos c2,if_pos c2,if_pos c2];exact⟨rfl,rfl⟩
   ·rw[if_neg c2]at h0;exact absurd rfl h0
  rw[<-hsl.1,hsl.2]at hR
  exact hR _ _ ⟨rfl,h.ext e1,e1.fr⟩

theorem ahead'{H:Array Obj}{lB:Option Addr}{lN:Nat}{us ws:List Int}{b k:Nat}{H0:Array Obj}{K:Option Addr->Nat->Array Obj->Prop}(e:Ext H0 H)(hb:H[b]?=some (.cells (wvs us).toArray 35 (0,0)))(hbn:H0.size<=b)
  (hsrc:SrcAt H lB (wvs ws)) (hlen:lN=ws.length) (hk:us.length=k) (hle:us.length+ws.length<=1000000)
  (hK: ∀p c H',Ext H0 H'->SrcAt H' p (wvs (us++ws))->(∀i,i∈blks p->H0.size<=i)->K p c H'):appendK 1 35 8 [.int .u64 0] (some ⟨b,0,none⟩) k k lB lN H K:=by
 subst hlen
 subst hk
 refine own_append (ys:=wvs ws) (xs:=wvs us) ⟨rfl,_,hb,by simp[wvs],Nat.le_refl _,by simp[wvs],λj hj=>by simp⟩ hsrc (by simp[wvs]) (allOne_wvs ws) rfl (by omega) ?_
 intro p c H' ho f hn
 refine hK p c H' (e.fr_trans f (λi hi=>by simp at hi;omega)) (by have:=ho.src;simpa[wvs]using this) (λi hi=>?_)
 have:=e.size
 rcases hn i hi with h | h
 ·simp at h;omega
 ·omega
theorem HStep.ext{H0 H H':Array Obj}{q:RB}{r:RM}{s:Sp}{ep:Int}(e:Ext H0 H)(h:HStep H H' q r s ep):HStep H0 H' q r s ep:=by
 obtain⟨r',h1,h2,h3⟩:=h
 exact⟨r',h1,h2,λb hb=>(h3 b hb).imp id (λh=>by have:=e.size;omega)⟩
theorem ref20_Extend_c{H:Array Obj}{q:RB}{r:RM}{b:Blk}{x:Hp}{ep parent:Int}{lB:Option Addr}{lN lC:Nat}{ws:List Int}(h:RHAt H q r x.sp ep)(ok:SpOK x.sp)(hp:IsWord parent)(hsrc:SrcAt H lB (wvs ws))(hlen:lN=ws.length)(hw: ∀w∈ws,IsWord w)
  (hl:ws.length<=100000):
  moraineref20_Extend.C (some ⟨q.h,0,none⟩) parent lB lN lC H (λv H'=>v=.tuple #[.int .u64 (extR (some (b,x)) parent ws).1,.int .i64 (extR (some (b,x)) parent ws).2]/\HStep H H' q r (spo (extO (some (b,x)) parent ws)) ep/\Fr (q.all r) H H'):=by
 refine HC.via λR hR=>moraineref20_Extend.link ?_
 unfold moraineref20_Extend.pt
 refine HC.mono (ref20_is_c h ok.mem hp (by decide)) ?_
 rintro _ H1 ⟨rfl,e1⟩
 refine⟨_,_,rfl,?_⟩
 have hl0:=Mem.len_bd' x.sp.mem parent
 have his:x.sp.mem.is parent 7 0 ↔ x.sp.mem.typ parent=7:=⟨λh=>h.1,λh=>⟨h,hl0.1⟩⟩
 have eM:mof (some (b,x))=x.sp.mem:=rfl
 by_cases hc:parent≠20/\x.sp.mem.typ parent≠7
 ·rw[if_pos (by simp only[Bool.and_eq_true,Bool.not_eq_true',decide_eq_false_iff_not,bne_iff_ne];exact⟨λhh=>hc.2 (his.1 hh),hc.1⟩)]
  have e:extR (some (b,x)) parent ws=(0,3):=by unfold extR;rw[eM,if_pos hc]
  have e2:extO (some (b,x)) parent ws=some (b,x):=by unfold extO;rw[eM,if_pos hc]
  rw[e,e2]at hR
  exact hR _ _ ⟨rfl,.same (h.ext e1),e1.fr⟩
 rw[if_neg (by simp only[Bool.and_eq_true,Bool.not_eq_true',decide_eq_false_iff_not,bne_iff_ne];exact λhh=>hc ⟨hh.2,λh=>hh.1 (his.2 h)⟩)]
 have e:extR (some (b,x)) parent ws=makeR (some (b,x)) 7 0 (parent::ws):=by unfold extR;rw[eM,if_neg hc]
 have eo:extO (some (b,x)) parent ws=makeO (some (b,x)) 7 0 (parent::ws):=by unfold extO;rw[eM,if_neg hc]
 rw[e,eo]at hR
 intro b2 H2 hb2 hH2
 have e12:Ext H H2:=e1.trans (Ext.push' hH2)
 refine ahead' (us:=[parent]) e12 (push_get hb2 hH2) (by have:=e1.size;omega) (hsrc.ext e12) hlen rfl (by simp;omega) ?_
 intro p c H3 e3 hs3 hd3
 refine HC.mono (ref10_Make_c (b:=b) (ws:=parent::ws) (h.ext e3) ok hs3 (by simp;omega) (λw hw'=>?_) (by decide) (by simp;omega)) ?_
 ·rcases List.mem_cons.1 hw' with rfl | hw'
  ·exact hp
  ·exact hw w hw'
 rintro _ H4 ⟨rfl,st,f4⟩
 exact⟨_,_,rfl,hR _ _ ⟨rfl,st.ext e3,e3.fr.trans f4⟩⟩
theorem ref20_Push_c{H:Array Obj}{q:RB}{r:RM}{b:Blk}{x:Hp}{ep kind next:Int}{lB:Option Addr}{lN lC:Nat}{ws:List Int}(h:RHAt H q r x.sp ep)(ok:SpOK x.sp)(hp:IsWord next)(hsrc:SrcAt H lB (wvs ws))(hlen:lN=ws.length)(hw: ∀w∈ws,IsWord w)
  (hl:ws.length<=100000):
  moraineref20_Push.C (some ⟨q.h,0,none⟩) kind next lB lN lC H (λv H'=>v=.tuple #[.int .u64 (pushR (some (b,x)) kind next ws).1,.int .i64 (pushR (some (b,x)) kind next ws).2]/\HStep H H' q r (spo (pushO (some (b,x)) kind next ws)) ep/\Fr (q.all r) H H'):=by
 refine HC.via λR hR=>moraineref20_Push.link ?_
 unfold moraineref20_Push.pt
 by_cases hk:kind<0\/2147483647<kind
 ·rw[if_pos (by simp only[Bool.or_eq_true,decide_eq_true_eq];omega)]
  have e:pushR (some (b,x)) kind next ws=(0,1):=by unfold pushR;rw[if_pos hk]
  have e2:pushO (some (b,x)) kind next ws=some (b,x):=by unfold pushO;rw[if_pos hk]
  rw[e,e2]at hR
  exact hR _ _ ⟨rfl,.same h,Fr.refl _ _⟩
 rw[if_neg (by simp only[Bool.or_eq_true,decide_eq_true_eq];omega)]
 refine HC.mono (ref20_is_c h ok.mem hp (by decide)) ?_
 rintro _ H1 ⟨rfl,e1⟩
 refine⟨_,_,rfl,?_⟩
 have hl0:=Mem.len_bd' x.sp.mem next
 have his:x.sp.mem.is next 8 0 ↔ x.sp.mem.typ next=8:=⟨λh=>h.1,λh=>⟨h,hl0.1⟩⟩
 have eM:mof (some (b,x))=x.sp.mem:=rfl
 by_cases hc:next≠20/\x.sp.mem.typ next≠8
 ·rw[if_pos (by simp only[Bool.and_eq_true,Bool.not_eq_true',decide_eq_false_iff_not,bne_iff_ne];exact⟨λhh=>hc.2 (his.1 hh),hc.1⟩)]
  have e:pushR (some (b,x)) kind next ws=(0,3):=by unfold pushR;rw[if_neg hk,eM,if_pos hc]
  have e2:pushO (some (b,x)) kind next ws=some (b,x):=by unfold pushO;rw[if_neg hk,eM,if_pos hc]
  rw[e,e2]at hR
  exact hR _ _ ⟨rfl,.same (h.ext e1),e1.fr⟩
 rw[if_neg (by simp only[Bool.and_eq_true,Bool.not_eq_true',decide_eq_false_iff_not,bne_iff_ne];exact λhh=>hc ⟨hh.2,λh=>hh.1 (his.2 h)⟩)]
 have e:pushR (some (b,x)) kind next ws=makeR (some (b,x)) 8 0 (kind*8::next::ws):=by unfold pushR;rw[if_neg hk,eM,if_neg hc]
 have eo:pushO (some (b,x)) kind next ws=makeO (some (b,x)) 8 0 (kind*8::next::ws):=by unfold pushO;rw[if_neg hk,eM,if_neg hc]
 rw[e,eo]at hR
 refine HC.mono (ref01_Word_c (kind:=1) (tag:=0) (a:=0) (x:=kind) (more:=0) (by unfold RefThing;rw[if_pos rfl];omega)) ?_
 rintro _ H2 ⟨rfl,e2⟩
 have er:refWord 1 0 0 kind 0=kind*8:=by unfold refWord;rw[if_pos rfl];omega
 rw[er]
 refine⟨_,rfl,?_⟩
 intro b3 H3 hb3 hH3
 have e2':=e1.trans e2
 have e13:Ext H H3:=e2'.trans (Ext.push' hH3)
 refine ahead' (us:=[kind*8,next]) e13 (push_get hb3 hH3) (by have:=e2'.size;omega) (hsrc.ext e13) hlen rfl (by simp;omega) ?_
 intro p c H4 e4 hs4 hd4
 refine HC.mono (ref10_Make_c (b:=b) (ws:=kind*8::next::ws) (h.ext e4) ok hs4 (by simp;omega) (λw hw'=>?_) (by decide) (by simp;omega)) ?_
 ·rcases List.mem_cons.1 hw' with rfl | hw'
  ·exact⟨by omega,by omega⟩
  rcases List.mem_cons.1 hw' with rfl | hw'
  ·exact hp
  ·exact hw w hw'
 rintro _ H5 ⟨rfl,st,f5⟩
 exact⟨_,_,rfl,hR _ _ ⟨rfl,st.ext e4,e4.fr.trans f5⟩⟩
end Go.Proofs.YtibpklpgmgakcaaGreat
