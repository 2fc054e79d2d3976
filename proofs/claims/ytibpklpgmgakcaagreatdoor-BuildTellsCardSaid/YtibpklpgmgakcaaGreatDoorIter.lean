/-
 A string that is ranged over, runes that become a string, said of heaps. Proves nothing of any one program.
-/
import Derived.Laws.Externs
import Derived.Test.YtibpklpgmgakcaaGreatDoorOwn
import Derived.Laws.IdiomStrings
set_option linter.unusedVariables false
set_option linter.unusedSimpArgs false
namespace Go.Proofs.YtibpklpgmgakcaaGreatDoor
open Go

def nextN(it:Value)(st:Bool)(ty:TypeId):Sem Next:=do pure (.value (<-Instr.next it st ty))
theorem getObj_iter{P:Program}{w:World}{r pos:Nat}{s:ByteArray}(h:w.heap[r]?=some (.stringIter s pos)):(getObj r).run P w=.ok (.stringIter s pos) w:=by
 show Sem.run P (Sem.getObj r Sem.pure) w=_
 simp only[Sem.run,h]
theorem setObj_iter{P:Program}{w:World}{r pos:Nat}{s:ByteArray}{o:Obj}(h:w.heap[r]?=some (.stringIter s pos)):(setObj r o).run P w=.ok () {w with heap:=w.heap.setIfInBounds r o}:=by
 show Sem.run P (Sem.setObj r o (Sem.pure ())) w=_
 simp only[Sem.run,h]
theorem next_go{P:Program}{H:Array Obj}{b:Nat}{s:ByteArray}{pos:Nat}{ty:TypeId}(hb:H[b]?=some (.stringIter s pos))(hp:pos<s.size):
  SS P (nextN (.pointer (some ⟨b,0,none⟩)) true ty) H (λv H'=>v=.tuple #[.bool true,.int .i64 pos,.int .i32 (Utf8.decode s pos).1]/\H'=setBlk H b (.stringIter s (pos+(Utf8.decode s pos).2))):=λw hw=>by
 have hb':w.heap[b]?=some (.stringIter s pos):=by rw[hw];exact hb
 refine⟨_,{w with heap:=w.heap.setIfInBounds b (.stringIter s (pos+(Utf8.decode s pos).2))},?_,⟨rfl,rfl,rfl,Nat.le_refl _⟩,rfl,by rw[<-hw];rfl⟩
 unfold nextN Instr.next
 simp only[bind_assoc]
 rw[run_bind_ok (getObj_iter hb')]
 simp only[hp,if_true]
 rw[bind_assoc,run_bind_ok (setObj_iter hb')]
 rfl
theorem next_end{P:Program}{H:Array Obj}{b:Nat}{s:ByteArray}{pos:Nat}{ty:TypeId}(hb:H[b]?=some (.stringIter s pos))(hp: ¬pos<s.size):
  SS P (nextN (.pointer (some ⟨b,0,none⟩)) true ty) H (λv H'=>v=.tuple #[.bool false]/\H'=H):=λw hw=>by
 have hb':w.heap[b]?=some (.stringIter s pos):=by rw[hw];exact hb
 refine⟨_,w,?_,Same.refl w,rfl,hw⟩
 unfold nextN Instr.next
 simp only[bind_assoc]
 rw[run_bind_ok (getObj_iter hb')]
 simp only[hp,if_false]
 rfl

def runesStr(rs:List Int):ByteArray:=rs.foldl (λs n=>s++Utf8.encode n) ByteArray.empty
def convertN(src dst:TypeId)(x:Value):Sem Next:=do pure (.value (<-convert src dst x))
theorem runes_loop{P:Program}{w:World}(f:Value->ByteArray->Sem (ForInStep ByteArray))(hf: ∀n s,f (.int .i32 n) s=pure (ForInStep.yield (s++Utf8.encode n))): ∀(rs:List Int) (s:ByteArray),
  (forIn (rs.map (Value.int .i32)) s f).run P w=.ok (rs.foldl (λs n=>s++Utf8.encode n) s) w
 | [],s=>rfl
 | r::rs,s=>by
  simp only[List.map_cons,List.forIn_cons,List.foldl_cons]
  rw[hf]
  exact runes_loop f hf rs (s++Utf8.encode r)
theorem runesToString_run{P:Program}{w:World}{b:Option Addr}{n c:Nat}{rs:List Int}(h:SrcAt w.heap b (rs.map (Value.int .i32)))(hl:b≠none->rs.length=n):(Conv.runesToString (.slice b n c)).run P w=.ok (.string (runesStr rs)) w:=by
 cases b with
 | none=>
  have:rs.map (Value.int .i32)=[]:=h
  simp at this
  subst this
  rfl
 | some a=>
  have hn:=hl (by simp)
  unfold Conv.runesToString
  simp only
  have h1:(loadCells a n).run P w=.ok (rs.map (Value.int .i32)).toArray w:=by
   unfold loadCells
   have:=loadCells_run (P:=P) (rs.map (Value.int .i32)) 0 #[] h
   rw[List.length_map,hn]at this
   simpa using this
  rw[run_bind_ok h1]
  rw[List.forIn_toArray]
  refine(run_bind_ok (runes_loop _ (λn s=>rfl) rs ByteArray.empty)).trans ?_
  rfl
theorem convert_runes{P:Program}{w:World}{sT dT e:TypeId}{b:Option Addr}{n c:Nat}{rs:List Int}(hs:P.underlying sT=some (.slice e))(hd:P.underlying dT=some .string)(he:P.underlying e=some (.int .i32))(h:SrcAt w.heap b (rs.map (Value.int .i32)))(hl:b≠none->rs.length=n):
  (convertN sT dT (.slice b n c)).run P w=.ok (.value (.string (runesStr rs))) w:=by
 have us: ∀w,(underlying sT).run P w=.ok (.slice e) w:=λw=>by simp[underlying,program,Sem.run,hs,Sem.run_bind,pure,Result.andThen]
 have ud: ∀w,(underlying dT).run P w=.ok .string w:=λw=>by simp[underlying,program,Sem.run,hd,Sem.run_bind,pure,Result.andThen]
 have ue: ∀w,(underlying e).run P w=.ok (.int .i32) w:=λw=>by simp[underlying,program,Sem.run,he,Sem.run_bind,pure,Result.andThen]
 unfold convertN convert
 simp only[bind_assoc]
 rw[run_bind_ok (us w),run_bind_ok (ud w)]
 simp only[bind_assoc]
 rw[run_bind_ok (ue w)]
 simp only[]
 rw[run_bind_ok (runesToString_run h hl)]
 rfl

end Go.Proofs.YtibpklpgmgakcaaGreatDoor
