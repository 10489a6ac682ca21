/- Calm, in plain Lean. No program in sight. What a town's statements ask, in plain Lean. No program in sight. -/
import Derived.Test.YtmakdilmibjpbaaGreatDoorTinv
namespace Go.Proofs.YtmakdilmibjpbaaGreatDoor
open Go Go.RowKit
set_option linter.unusedVariables false
set_option linter.unusedSimpArgs false
theorem dueL_len:∀ {l:List Deal} {n:Int},(∀ d∈l,DOk d)→(dueL n l).length≤4*l.length
  | [],_,_=>by simp[dueL]
  | d::l,n,h=>by
    have ih:=dueL_len (l:=l) (n:=n+1) (fun x hx=>h x (by simp[hx]))
    have hd:=h d (by simp)
    have h4:=((checkL_ok _).1 hd.w).2.1
    simp only[dueL,List.length_append,List.length_cons]
    have:(dueD n d).length≤4:=by
      unfold dueD
      split
      · rw[List.length_map]
        have h1:=List.length_filter_le (fun s=>!d.over.contains s) (shopsL d.wants)
        have h2:(shopsL d.wants).length≤3:=List.length_filter_le _ _
        omega
      · have:=dueW_len (n:=n) d.wants d.yes;omega
    omega
theorem BInv.due_len{b:BrokS}(h:BInv b):(dueB b).length≤32:=by
  have:=dueL_len (n:=0) h.d
  have:=h.len
  unfold dueB;omega
end Go.Proofs.YtmakdilmibjpbaaGreatDoor
namespace Go.Proofs.YtmakdilmibjpbaaGreatDoor
open Go Go.RowKit
set_option linter.unusedVariables false
set_option linter.unusedSimpArgs false
end Go.Proofs.YtmakdilmibjpbaaGreatDoor
