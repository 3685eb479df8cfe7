/- ParseBits of the program and of the reference answer the same, and two answers share no memory, for every text; the two listed variables of unicode/utf8 are tied to the program's text. The conditions: those of the row and of its card, none besides. -/
import Derived.Test.YtkmhjgejficclaaDoorLawFnExactParseBits
import Derived.Test.YtkmhjgejficclaaDoorTie
import Derived.Test.YtkmhjgejficclaaDoorCards
import Derived.SevenTiedAt
namespace Go.Proofs.YtkmhjgejficclaaDoor
open Go
theorem fnExactParseBits_card : Rows.FnExactParseBitsCardSaid :=
  Claim7.holds_tied_plain_at .later [] [.data, .pinned] true (true, "166b71874a162eb4ff4a6cfadeadd6f7a56bebf98a166c33c6b3a17c63c3db58") false
    fnExactParseBits_holds (fun _ h => by cases h) (by kernel_rfl) (fun _ h => by cases h) fnExactParseBits_row_tie rfl ⟨rfl, rfl⟩ (by kernel_rfl) rfl
    (fun f fn hf hfn => by
      obtain rfl : f = 3 := Option.some.inj ((show Tryd.prog.funcNamed "loop.example/g01097/laws.FnExactParseBits" = some 3 by kernel_rfl).symm.trans hf) |>.symm
      obtain rfl : fn = Tryd.f3 := (Option.some.inj (Tryd.func3.symm.trans hfn)).symm
      exact ⟨by kernel_rfl, fun j t ht => by
        rw [Tryd.params3] at ht
        have h3 : t = 9 := by
          rcases j with _ | j
          · simpa using ht.symm
          · simp at ht
        subst h3
        exact (show Tryd.prog.wantsStandIn 9 = false by kernel_rfl)⟩)
    (by kernel_rfl)
end Go.Proofs.YtkmhjgejficclaaDoor
