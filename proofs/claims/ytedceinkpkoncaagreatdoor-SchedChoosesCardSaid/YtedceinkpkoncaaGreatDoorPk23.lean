/- A part of the proof: walks through the program's functions, and what they compute. -/
import Derived.Test.YtedceinkpkoncaaGreatDoorPk5
set_option linter.unusedSimpArgs false
set_option linter.unusedVariables false
namespace Go.Eng.Tryz
open Go.RowKit Go.Eng
theorem QMz:tab.zero 45=z45:=rfl
set_option maxRecDepth 20000
end Go.Eng.Tryz
namespace Go.Eng
theorem QHM (s:Stt) (g:Int):ZE s g=(decide (0≤g)&&decide (g<s.count)&&(decide ((s.gos.getD g.toNat default).status=1)||decide ((s.gos.getD g.toNat default).status=2))):=rfl
theorem QFZ (p:Prg) (s:Stt) (c:Cas):(bif (bif c.send then XF p s c.chan else false) then true else (bif !c.send then WU s c.chan else false))=XX p s c:=by
 unfold XX
 cases c.send
 · cases WU s c.chan<;>rfl
 · cases XF p s c.chan<;>rfl
end Go.Eng
namespace Go.Eng
def VL (k n:Int) (w:Bool) (st:List Access × Bool) (x:Access):List Access × Bool :=
 if (st.2=false∧x.kind=k)∧x.num=n then (st.1++[⟨x.kind,x.num,x.write||w⟩],true)
 else if st.2=false∧(k<x.kind∨x.kind=k∧n<x.num) then (st.1++[⟨k,n,w⟩,x],true)
 else (st.1++[x],st.2)
def Wb (k n:Int) (w:Bool) (l:List Access) (i:Nat):List Access × Bool:=(l.take i).foldl (VL k n w) ([],false)
theorem qI (k n:Int) (w:Bool) (l:List Access) {i:Nat} (h:i<l.length):Wb k n w l (i+1)=VL k n w (Wb k n w l i) (l.getD i default):=by
 unfold Wb
 rw [List.take_succ_eq_append_getElem h,List.foldl_append]
 simp [List.getD_eq_getElem?_getD,h]
theorem QAZ (k n:Int) (w:Bool):∀ (l:List Access) (Yz:List Access),l.foldl (VL k n w) (Yz,true)=(Yz++l,true)
 | [],Yz=>by simp
 | x::l,Yz=>by
   rw [List.foldl_cons,show VL k n w (Yz,true) x=(Yz++[x],true) from (if_neg (by simp)).trans (if_neg (by simp)),QAZ k n w l]
   simp
def yP (k n:Int) (w:Bool) (r:List Access × Bool):List Access:=if r.2=true then r.1 else r.1++[⟨k,n,w⟩]
theorem QEj (k n:Int) (w:Bool):∀ (l:List Access) (Yz:List Access),yP k n w (l.foldl (VL k n w) (Yz,false))=Yz++add k n w l
 | [],Yz=>by simp [add,yP]
 | x::l,Yz=>by
   rw [List.foldl_cons]
   unfold add
   by_cases h1:x.kind=k∧x.num=n
   · rw [show VL k n w (Yz,false) x=(Yz++[⟨x.kind,x.num,x.write||w⟩],true) from if_pos ⟨⟨rfl,h1.1⟩,h1.2⟩,QAZ,if_pos h1]
     simp [yP]
   · by_cases h2:k<x.kind∨x.kind=k∧n<x.num
     · rw [show VL k n w (Yz,false) x=(Yz++[⟨k,n,w⟩,x],true) from (if_neg (fun q=>h1 ⟨q.1.2,q.2⟩)).trans (if_pos ⟨rfl,h2⟩),QAZ,if_neg h1,if_pos h2]
       simp [yP]
     · rw [show VL k n w (Yz,false) x=(Yz++[x],false) from (if_neg (fun q=>h1 ⟨q.1.2,q.2⟩)).trans (if_neg (fun q=>h2 q.2)),if_neg h1,if_neg h2,QEj k n w l (Yz++[x])]
       simp
theorem QGZ (k n:Int) (w:Bool) (l:List Access):add k n w l=yP k n w (Wb k n w l l.length):=by
 have:=QEj k n w l []
 rw [List.nil_append] at this
 unfold Wb
 rw [List.take_length,← this]
theorem QCC (k n:Int) (w:Bool) (l:List Access):∀ i:Nat,(Wb k n w l i).1.length≤i+(if (Wb k n w l i).2=true then 1 else 0)
 | 0=>by simp [Wb]
 | i+1=>by
   have ih:=QCC k n w l i
   by_cases h:i<l.length
   · rw [qI k n w l h]
     unfold VL
     split
     · rename_i h1
       rw [h1.1.1] at ih
       simp at ih ⊢
       omega
     · split
       · rename_i h1
         rw [h1.1] at ih
         simp at ih ⊢
         omega
       · simp only [List.length_append,List.length_cons,List.length_nil]
         split<;>rename_i h2<;>simp only [h2,if_true,Bool.false_eq_true,if_false] at ih ⊢<;>omega
   · have e:Wb k n w l (i+1)=Wb k n w l i:=by
      unfold Wb
      rw [List.take_of_length_le (by omega),List.take_of_length_le (by omega)]
     rw [e];omega
theorem QAa (k n:Int) (w:Bool) (l:List Access) (i:Nat):(Wb k n w l i).1.length≤i+1:=by
 have:=QCC k n w l i
 split at this<;>omega
end Go.Eng
