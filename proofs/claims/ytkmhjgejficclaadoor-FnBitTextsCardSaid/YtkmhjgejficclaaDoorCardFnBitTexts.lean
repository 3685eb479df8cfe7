/- A vector is read back from its text, and is made of one whose bits are off by turning on the bits that the text tells; for every code (longer ones than 2^20 bytes are not asked); the two listed variables of unicode/utf8 are tied to the program's text. The conditions: those of the row and of its card, none besides. -/
import Derived.Test.YtkmhjgejficclaaDoorRowFnBitTexts
import Derived.Test.YtkmhjgejficclaaDoorTie
import Derived.Test.YtkmhjgejficclaaDoorCards
import Derived.SevenTiedAt
namespace Go.Proofs.YtkmhjgejficclaaDoor
open Go
theorem fnBitTexts_card : Rows.FnBitTextsCardSaid :=
  Claim7.holds_tied_plain_at .later [] [.data, .pinned] true (true, "166b71874a162eb4ff4a6cfadeadd6f7a56bebf98a166c33c6b3a17c63c3db58") false
    fnBitTexts_holds (fun _ h => by cases h) (by kernel_rfl) (fun _ h => by cases h) fnBitTexts_row_tie rfl ⟨rfl, rfl⟩ (by kernel_rfl) rfl
    (fun f fn hf hfn => by
      obtain rfl : f = 4 := Option.some.inj ((show Tryd.prog.funcNamed "loop.example/g01097/laws.FnBitTexts" = some 4 by kernel_rfl).symm.trans hf) |>.symm
      obtain rfl : fn = Tryd.f4 := (Option.some.inj (Tryd.func4.symm.trans hfn)).symm
      exact ⟨by kernel_rfl, fun j t ht => by
        rw [Tryd.params4] at ht
        have hm : t = 30 := by
          rcases j with _ | _ | j <;> first | (simpa using ht.symm; done) | (simp at ht; done)
        subst hm
        exact (show Tryd.prog.wantsStandIn 30 = false by kernel_rfl)⟩)
    (by kernel_rfl)
end Go.Proofs.YtkmhjgejficclaaDoor
