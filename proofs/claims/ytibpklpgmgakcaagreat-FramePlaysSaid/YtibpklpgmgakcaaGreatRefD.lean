/-
 The document's objects (moraineref10): fields, what is made. Proves nothing of any one statement.
-/
import Derived.Test.YtibpklpgmgakcaaGreatRefC
set_option linter.unusedVariables false
set_option linter.unusedSimpArgs false
namespace Go.Proofs.YtibpklpgmgakcaaGreat
open Go

def spo:Option (Blk×Hp)->Sp
 | none=>⟨Mem.fresh 0,λ_ _=>0⟩
 | some (_,x)=>x.sp
theorem ref10_Field_c{H:Array Obj}{q:RB}{r:RM}{s:Sp}{ep w kind i:Int}(h:RHAt H q r s ep)(ok:MemOK s.mem)(hw:IsWord w)(hi:I64 i):
  moraineref10_Heap_Field.C (some ⟨q.h,0,none⟩) w kind i H (λv H'=>v=.tuple #[.int .i64 (if s.mem.fieldE w kind i=0 then w / 8+1+i else 0),.int .i64 (s.mem.fieldE w kind i)]/\Ext H H'):=by
 refine HC.via λR hR=>moraineref10_Heap_Field.link ?_
 unfold moraineref10_Heap_Field.pt
 refine HC.mono (ref10_Object_c h ok hw) ?_
 rintro v H1 ⟨⟨a,k,t,l,x,m,rfl,ho⟩,e1⟩
 refine⟨a,k,t,l,x,m,rfl,?_⟩
 intro b H2 hb hH2
 obtain⟨p1,p2⟩:=box_new (vs:=[.int .i64 k,.int .i64 t,.int .i64 l,.int .i64 x,.int .u64 m]) hb hH2 rfl rfl
 refine⟨p1,λH3 hH3=>?_⟩
 obtain⟨g3,e3⟩:=p2 H3 hH3
 have e13:=e1.trans e3
 have hw0:=hw.1
 rcases ho with⟨hO,rfl,rfl,rfl,rfl⟩ | ⟨hO,rfl,rfl,rfl,rfl⟩
 case inr=>
  rw[if_pos (by omega)]
  rw[nothing hO,if_neg (by decide)]at hR
  exact hR _ _ ⟨rfl,e13⟩
 have hl:=hO.len_lt
 have hle:s.mem.len w=hn (s.mem.get (w / 8)):=by unfold Mem.len;rw[if_pos hO]
 have hty:s.mem.typ w=hk (s.mem.get (w / 8)):=by unfold Mem.typ;rw[if_pos hO]
 have hw8:w / 8<65536:=hO.1.1.2
 rw[if_neg (by omega)]
 refine⟨_,by rw[box_get g3];rfl,?_⟩
 by_cases hk':hk (s.mem.get (w / 8))=kind
 case neg=>
  rw[if_neg hk']
  have e:s.mem.fieldE w kind i=3:=by unfold Mem.fieldE;rw[if_pos (.inr (by rw[hty];exact hk'))]
  rw[e,if_neg (by decide)]at hR
  exact hR _ _ ⟨rfl,e13⟩
 rw[if_pos hk']
 have n1: ¬(¬s.mem.isObj w\/s.mem.typ w≠kind):=by rw[hty];simp[hO,hk']
 by_cases h0:i<0
 ·rw[if_pos h0]
  have e:s.mem.fieldE w kind i=4:=by unfold Mem.fieldE;rw[if_neg n1,if_pos (.inl h0)]
  rw[e,if_neg (by decide)]at hR
  exact hR _ _ ⟨rfl,e13⟩
 rw[if_neg h0]
 refine⟨_,by rw[box_get g3];rfl,?_⟩
 by_cases h1:i>=hn (s.mem.get (w / 8))
 ·rw[if_pos h1]
  have e:s.mem.fieldE w kind i=4:=by unfold Mem.fieldE;rw[if_neg n1,if_pos (.inr (by omega))]
  rw[e,if_neg (by decide)]at hR
  exact hR _ _ ⟨rfl,e13⟩
 rw[if_neg h1,w64 (n:=w / 8+1) (by omega),w64 (by omega)]
 have e:s.mem.fieldE w kind i=0:=by unfold Mem.fieldE;rw[if_neg n1,if_neg (by omega)]
 rw[e,if_pos rfl]at hR
 exact hR _ _ ⟨rfl,e13⟩
theorem Mem.field_used{m:Mem}{w kind i:Int}(ok:MemOK m)(hw:IsWord w)(h:m.fieldE w kind i=0):m.used (w / 8+1+i)/\I64 (w / 8+1+i):=by
 unfold Mem.fieldE at h
 by_cases h1: ¬m.isObj w\/m.typ w≠kind
 ·rw[if_pos h1]at h;exact absurd h (by decide)
 rw[if_neg h1]at h
 by_cases h2:i<0\/m.len w<=i
 ·rw[if_pos h2]at h;exact absurd h (by decide)
 have hO:m.isObj w:=Classical.byContradiction λhh=>h1 (.inl hh)
 have hl:=hO.len_lt
 have hle:m.len w=hn (m.get (w / 8)):=by unfold Mem.len;rw[if_pos hO]
 have hw8:w / 8<65536:=hO.1.1.2
 have hw0:=hw.1
 exact⟨hO.used hw (ok.seg _).n.2 ⟨by omega,by omega⟩,by constructor<;>omega⟩
theorem ref10_Get_c{H:Array Obj}{q:RB}{r:RM}{s:Sp}{ep w kind i:Int}(h:RHAt H q r s ep)(ok:MemOK s.mem)(hw:IsWord w)(hi:I64 i):
  moraineref10_Heap_Get.C (some ⟨q.h,0,none⟩) w kind i H (λv H'=>v=.tuple #[.int .u64 (if s.mem.fieldE w kind i=0 then s.mem.get (w / 8+1+i)else 0),.int .i64 (s.mem.fieldE w kind i)]/\Ext H H'):=by
 refine HC.via λR hR=>moraineref10_Heap_Get.link ?_
 unfold moraineref10_Heap_Get.pt
 refine HC.mono (ref10_Field_c h ok hw hi) ?_
 rintro v H1 ⟨rfl,e1⟩
 refine⟨_,_,rfl,?_⟩
 by_cases h0:s.mem.fieldE w kind i=0
 case neg=>rw[if_neg h0];rw[if_neg h0]at hR;exact hR _ _ ⟨rfl,e1⟩
 rw[if_pos h0,if_pos h0]
 rw[if_pos h0]at hR
 have h1:=h.ext e1
 obtain⟨hu,hb⟩:=Mem.field_used ok hw h0
 refine⟨_,rfl,_,h1.hPtr,_,rfl,_,h1.cd.cPtr,_,rfl,_,h1.cd.sp.mPtr,?_⟩
 refine HC.mono (ref07_Read_c h1.cd.sp.mem ok hb) ?_
 rintro v H2 ⟨rfl,rfl⟩
 rw[if_pos hu,if_pos hu]
 rw[h0]at hR
 exact⟨_,_,rfl,hR _ _ ⟨rfl,e1⟩⟩
theorem ref10_Set_c{H:Array Obj}{q:RB}{r:RM}{b:Blk}{x:Hp}{ep w kind i v:Int}(h:RHAt H q r x.sp ep)(ok:SpOK x.sp)(hw:IsWord w)(hi:I64 i)(hv:IsWord v):
  moraineref10_Heap_Set.C (some ⟨q.h,0,none⟩) w kind i v H (λu H'=>u=.int .i64 (setE (some (b,x)) w kind i v)/\RHAt H' q r (spo (setO (some (b,x)) w kind i v)) ep/\Fr (q.all r) H H'):=by
 refine HC.via λR hR=>moraineref10_Heap_Set.link ?_
 unfold moraineref10_Heap_Set.pt
 refine HC.mono (ref10_Field_c h ok.mem hw hi) ?_
 rintro _ H1 ⟨rfl,e1⟩
 refine⟨_,_,rfl,?_⟩
 have eE:setE (some (b,x)) w kind i v=if x.sp.mem.fieldE w kind i=0 then(x.sp.mem.store (w / 8+1+i) v).2 else x.sp.mem.fieldE w kind i:=rfl
 have eO:spo (setO (some (b,x)) w kind i v)={x.sp with mem:=if x.sp.mem.fieldE w kind i=0 then(x.sp.mem.store (w / 8+1+i) v).1 else x.sp.mem}:=rfl
 rw[eE,eO]at hR
 have h1:=h.ext e1
 by_cases h0:x.sp.mem.fieldE w kind i=0
 case neg=>
  rw[if_neg h0]
  rw[if_neg h0,if_neg h0]at hR
  exact hR _ _ ⟨rfl,h1,e1.fr⟩
 rw[if_pos h0,if_pos h0]
 rw[if_pos h0,if_pos h0]at hR
 obtain⟨hu,hb⟩:=Mem.field_used ok.mem hw h0
 refine⟨_,rfl,_,h1.hPtr,?_⟩
 refine HC.mono (ref09_Store_c h1.cd ok.mem hb hv) ?_
 rintro _ H2 ⟨rfl,c2,f2⟩
 have hlt:=h1.lt
 refine⟨_,rfl,hR _ _ ⟨rfl,⟨c2,f2.get h1.ne.2.2 h1.h,h1.ne⟩,e1.fr.trans (f2.mono λb hb _=>by simp[RB.all,hb])⟩⟩

theorem ref10_put_c{H:Array Obj}{q:RB}{r:RM}{s:Sp}{ep kind tag:Int}{lB:Option Addr}{lN lC:Nat}{ws:List Int}(h:RHAt H q r s ep)(ok:SpOK s)(hsrc:SrcAt H lB (wvs ws))(hlen:lN=ws.length)(hw: ∀w∈ws,IsWord w)
  (hd: ∀i,i∈blks lB->i ∉ q.all r) (ht:tag=1\/tag=2\/tag=3) (hl:ws.length<=1000):
  moraineref10_Heap_put.C (some ⟨q.h,0,none⟩) kind tag lB lN lC H (λv H'=>v=.tuple #[.int .u64 (s.put kind tag ws).2.1,.int .i64 (s.put kind tag ws).2.2]/\HStep H H' q r (s.put kind tag ws).1 ep/\Fr (q.all r) H H'):=by
 subst hlen
 refine HC.via λR hR=>moraineref10_Heap_put.link ?_
 unfold moraineref10_Heap_put.pt
 refine⟨_,rfl,_,h.hPtr,_,rfl,_,h.cd.cPtr,?_⟩
 refine HC.mono (ref08_Alloc_c h.cd.sp ok) ?_
 rintro _ H1 ⟨rfl,st,f1⟩
 refine⟨_,_,rfl,?_⟩
 obtain⟨r1,h1,hbm1,hbs1⟩:=h.step st f1
 have f1':Fr (q.all r) H H1:=f1.mono (λb hb _=>List.mem_cons_of_mem _ (List.mem_cons_of_mem _ hb))
 by_cases ha:(s.alloc 0 kind ws.length).2.2=0
 case neg=>
  rw[if_neg ha]
  have e:s.put kind tag ws=(s,0,(s.alloc 0 kind ws.length).2.2):=by unfold Sp.put;rw[if_neg ha]
  rw[e]at hR
  rw[Sp.alloc_fail ok ha]at h1
  exact hR _ _ ⟨rfl,⟨r1,h1,hbm1,hbs1⟩,f1'⟩
 rw[if_pos ha]
 obtain⟨ok2,gr⟩:=Sp.alloc_ok ok ha
 have e:s.put kind tag ws=({(s.alloc 0 kind ws.length).1 with mem:=(s.alloc 0 kind ws.length).1.mem.sets (s.alloc 0 kind ws.length).2.1 ws},atWord tag (s.alloc 0 kind ws.length).2.1):=by unfold Sp.put;rw[if_pos ha]
 rw[e]at hR
 generalize hs':(s.alloc 0 kind ws.length).1=s' at*
 generalize ha':(s.alloc 0 kind ws.length).2.1=a at*
 have hlim:=ok.mem.lim
 obtain⟨a0,a1,a2⟩:=gr.addr
 have hsz:=f1.size
 have all1: ∀b∈q.all r1,b∈q.all r\/H.size<=b:=λb hb=>by
  have hb':b=q.h\/b=q.c\/b=q.sp\/b∈r1.bs:=by simpa[RB.all]using hb
  rcases hb' with rfl | rfl | rfl | hb
  ·exact .inl (by simp[RB.all])
  ·exact .inl (by simp[RB.all])
  ·exact .inl (by simp[RB.all])
  ·exact(hbs1 b hb).imp (λh=>by simp[RB.all,h]) id
 refine⟨λi H'=>(0<=i/\i<=ws.length)/\RHAt H' q r1 {s' with mem:=s'.mem.sets a (ws.take i.toNat)} ep/\Fr (q.all r) H H',λi _=>(ws.length-i).toNat,⟨by omega,by simpa[Mem.sets]using h1,f1'⟩,?_⟩
 rintro i H3 ⟨hi,h3,f3⟩
 by_cases hlt:i< (ws.length:Int)
 ·rw[if_pos hlt]
  have hiN:i.toNat<ws.length:=by omega
  cases lB with
  | none=>
   exfalso
   have e:wvs ws=[]:=hsrc
   have:ws.length=0:=by simpa[wvs]using congrArg List.length e
   omega
  | some la=>
   have hsrc3:RowAt H3 la 0 (wvs ws):=f3.rowAt (hd _ (by simp)) hsrc
   refine⟨_,h3.hPtr,_,rfl,_,h3.cd.cPtr,_,rfl,_,h3.cd.sp.mPtr,la,rfl,⟨hi.1,hlt⟩,ws[i.toNat],?_,?_⟩
   ·have:=rowAt_hat hsrc3 i.toNat (.int .u64 (ws[i.toNat])) (by simp[wvs,hiN])
    rw[Nat.mul_one];rw[Nat.zero_add]at this;exact this
   have hok3:MemOK (s'.mem.sets a (ws.take i.toNat)):=MemOK.sets _ ok2.mem a (λw hw'=>hw w (List.mem_of_mem_take hw'))
   rw[w64 (n:=a+i) (by omega),w64 (n:=i+1) (by omega)]
   refine HC.mono (ref07_Write_c h3.cd.sp.mem hok3 ⟨by omega,by omega⟩) ?_
   rintro _ H4 ⟨rfl,hm4,f4⟩
   have hsz3:=f3.size
   refine⟨_,rfl,⟨by omega,?_,f3.trans' f4 (λb hb _=>hb) (λb hb hlt=>(hbs1 b hb).elim (λh=>by simp[RB.all,h]) (λh=>by omega))⟩,by show((ws.length:Int)-(i+1)).toNat< ((ws.length:Int)-i).toNat;omega⟩
   have h4:=h3.withMem f4 (λb hb _=>hb) hm4
   have et:ws.take (i+1).toNat=ws.take i.toNat++[ws[i.toNat]]:=by
    rw[show(i+1).toNat=i.toNat+1 by omega,List.take_succ_eq_append_getElem hiN]
   have el:((ws.take i.toNat).length:Int)=i:=by rw[List.length_take];omega
   rw[et,Mem.sets_snoc,el]
   exact h4
 ·rw[if_neg hlt]
  have hie:i.toNat=ws.length:=by omega
  rw[hie,List.take_length]at h3
  refine HC.mono (ref01_Word_c (kind:=2) (tag:=tag) (a:=a) (x:=0) (more:=0) (by unfold RefThing;rw[if_neg (by decide),if_pos rfl];omega)) ?_
  rintro _ H5 ⟨rfl,e5⟩
  have ea:atWord tag a=(a*8+tag,0):=by unfold atWord;rw[if_neg (by omega),if_pos (by omega)]
  have er:refWord 2 tag a 0 0=a*8+tag:=by unfold refWord;rw[if_neg (by decide),if_pos rfl]
  rw[ea]at hR
  rw[er]
  exact⟨_,rfl,hR _ _ ⟨rfl,⟨r1,h3.ext e5,hbm1,hbs1⟩,f3.trans e5.fr⟩⟩
theorem ref10_Make_c{H:Array Obj}{q:RB}{r:RM}{b:Blk}{x:Hp}{ep kind more:Int}{lB:Option Addr}{lN lC:Nat}{ws:List Int}(h:RHAt H q r x.sp ep)(ok:SpOK x.sp)(hsrc:SrcAt H lB (wvs ws))(hlen:lN=ws.length)(hw: ∀w∈ws,IsWord w)
  (hmo:IsWord more) (hl:ws.length<=1000000):
  moraineref10_Heap_Make.C (some ⟨q.h,0,none⟩) kind more lB lN lC H (λv H'=>v=.tuple #[.int .u64 (makeR (some (b,x)) kind more ws).1,.int .i64 (makeR (some (b,x)) kind more ws).2]/\HStep H H' q r (spo (makeO (some (b,x)) kind more ws)) ep/\Fr (q.all r) H H'):=by
 subst hlen
 refine HC.via λR hR=>moraineref10_Heap_Make.link ?_
 unfold moraineref10_Heap_Make.pt
 by_cases h1:(1<=kind/\kind<=13)/\more<281474976710656
 case neg=>
  rw[if_pos (by simp only[Bool.or_eq_true,decide_eq_true_eq];omega)]
  have e:makeR (some (b,x)) kind more ws=(0,1):=by unfold makeR;rw[if_pos h1]
  have e2:makeO (some (b,x)) kind more ws=some (b,x):=by unfold makeO;rw[if_pos h1]
  rw[e,e2]at hR
  exact hR _ _ ⟨rfl,.same h,Fr.refl _ _⟩
 rw[if_neg (by simp only[Bool.or_eq_true,decide_eq_true_eq];omega)]
 by_cases h2:62<ws.length
 ·rw[if_pos (by omega)]
  have e:makeR (some (b,x)) kind more ws=(0,6):=by unfold makeR;rw[if_neg (λhh=>hh h1),if_pos h2]
  have e2:makeO (some (b,x)) kind more ws=some (b,x):=by unfold makeO;rw[if_neg (λhh=>hh h1),if_pos h2]
  rw[e,e2]at hR
  exact hR _ _ ⟨rfl,.same h,Fr.refl _ _⟩
 rw[if_neg (by omega)]
 have hm0:=hmo.1
 refine HC.mono (ref01_Word_c (kind:=5) (tag:=kind) (a:=(ws.length:Int)) (x:=0) (more:=more) (by unfold RefThing;rw[if_neg (by decide),if_neg (by decide),if_neg (by decide),if_neg (by decide)];omega)) ?_
 rintro _ H1 ⟨rfl,e1⟩
 have er:refWord 5 kind (ws.length:Int) 0 more=more*65536+ws.length*256+kind*8+5:=by unfold refWord;rw[if_neg (by decide),if_neg (by decide),if_neg (by decide),if_neg (by decide)]
 rw[er]
 refine⟨_,rfl,?_⟩
 intro b4 H4 hb4 hH4
 have e14:=e1.trans (Ext.push' hH4)
 have g4:=push_get hb4 hH4
 refine own_append (ys:=wvs ws) (xs:=[.int .u64 (more*65536+ws.length*256+kind*8+5)]) ⟨rfl,_,g4,rfl,Nat.le_refl _,rfl,λj hj=>?_⟩ (hsrc.ext e14) (by simp[wvs]) (allOne_wvs ws) rfl (by omega) ?_
 ·have:j=0:=by omega
  subst this;rfl
 intro p5 c5 H5 o5 f5 hb5
 have hs1:=e1.size
 have f5':Ext H H5:=e14.fr_trans f5 (λi hi=>by simp at hi;omega)
 have h5:=h.ext f5'
 have hlt:=h.lt
 have hkk: ∀kk,kk=rawK kind->moraineref10_Heap_put.C (some ⟨q.h,0,none⟩) kk 3 p5 (1+ws.length) c5 H5 (λv_2 H4=> ∃ra:Int,∃rb:Int,v_2=.tuple #[.int .u64 ra,.int .i64 rb]/\R (.tuple #[.int .u64 ra,.int .i64 rb]) H4):=by
  rintro kk rfl
  refine HC.mono (ref10_put_c (ws:=(more*65536+ws.length*256+kind*8+5)::ws) h5 ok o5.src (by simp;omega) (λw hw'=>?_) (λi hi hio=>?_) (by decide) (by simp;omega)) ?_
  ·rcases List.mem_cons.1 hw' with rfl | hw'
   ·exact⟨by omega,by omega⟩
   ·exact hw w hw'
  ·have h1':=hlt i hio
   rcases hb5 i hi with h | h
   ·simp at h;omega
   ·have:=(Ext.push' hH4).size;omega
  rintro _ H6 ⟨rfl,⟨r6,h6,hbm6,hbs6⟩,f6⟩
  refine⟨_,_,rfl,hR _ _ ⟨?_,⟨r6,?_,hbm6,λb hb=>(hbs6 b hb).imp id (λh=>by have:=f5'.size;omega)⟩,f5'.fr.trans f6⟩⟩
  ·unfold makeR;rw[if_neg (λhh=>hh h1),if_neg h2];rfl
  ·have e2:makeO (some (b,x)) kind more ws=putO (some (b,x)) (rawK kind) 3 ((more*65536+ws.length*256+kind*8+5)::ws):=by unfold makeO;rw[if_neg (λhh=>hh h1),if_neg h2]
   rw[e2];exact h6
 by_cases hk2:kind=2\/kind=3
 ·rw[if_pos (by simpa using hk2)]
  exact hkk 3 (by unfold rawK;rw[if_pos hk2])
 ·rw[if_neg (by simpa using hk2)]
  exact hkk 2 (by unfold rawK;rw[if_neg hk2])
end Go.Proofs.YtibpklpgmgakcaaGreat
