/- The walk of the statement ShapeSizes. -/
import Derived.Test.YtlnpkoggnikkbaaOpen
import Derived.Test.YtlnpkoggnikkbaaLaw03Awake
namespace Go.Proofs.Ytlnpkoggnikkbaa
open Go.RowKit

set_option maxHeartbeats 2000000 in
theorem shapeSizes_calls (A : Option Addr) (c : Nat) (zs : List Int) (w : World) (h : IntsIn w A c zs) : Calls Try.prog 3 #[.slice A zs.length c] w (LawTrue w) := by
  obtain ⟨h, hc, hm, hwf⟩ := h
  have HM : Hid _ := hm
  have HW := Lib.hid hwf
  clear hwf hm
  by_cases h50 : 50 < zs.length
  · go_enter Try.func3, Try.ntmps3
    go_wp2_with fail
    refine (l03_awake w).mono ?_
    rintro e w1 ⟨rfl, hb⟩
    go_wp2_with fail
    go_ret
    exact ⟨rfl, hb⟩
  · have hs : zs.length ≤ 1000000 := by omega
    rcases hr : rightB zs with _ | _
    · have HR := Lib.hid hr
      have HS : Hid (sizeV zs = 0 ∧ sizeE zs = 20) := Lib.hid (by simp [sizeV, sizeE, hr])
      clear hr
      go_enter Try.func3, Try.ntmps3
      go_wp2_with fail
      refine (sh_size A c zs w hs h).mono ?_
      rintro e w1 ⟨rfl, hb1⟩
      rw [HS.out.1, HS.out.2]
      go_wp2_with fail
      refine (ref_right A c zs w1 hs (h.below hb1)).mono ?_
      rintro e w2 ⟨rfl, rfl⟩
      rw [HR.out]
      go_wp2_with fail
      refine (sh_copy A c zs w1 hs (h.below hb1)).mono ?_
      rintro e w2 ⟨g, rfl, hg, ho, hb2⟩
      have b2 := hb1.trans (hb2.mono hb1.size)
      go_wp2_with fail
      refine (sh_right A c zs w2 hs (h.below b2)).mono ?_
      rintro e w3 ⟨rfl, hb3⟩
      rw [HR.out]
      have b3 := b2.trans (hb3.mono b2.size)
      have o3 := ho.keep hb3
      go_wp2_with fail
      refine (sh_equal (some ⟨g, 0, none⟩) A zs.length c zs zs w3 hs hs o3.rd (h.below b3)).mono ?_
      rintro e w4 ⟨rfl, n, rfl⟩
      go_wp2_with fail
      refine (l03_awake _).mono ?_
      rintro e w5 ⟨rfl, hb5⟩
      have b4 := below_drewN b3 n
      have b5 := b4.trans (hb5.mono b4.size)
      go_wp2_with fail
      go_ret
      exact ⟨rfl, b5⟩
    · have HR := Lib.hid hr
      have HS : Hid (sizeV zs = prodL zs ∧ sizeE zs = 0) := Lib.hid (by simp [sizeV, sizeE, hr])
      obtain ⟨r1, r4, rin, rpr⟩ := (rightB_iff zs).1 hr
      have RIN := Lib.hid rin
      clear hr rin
      go_enter Try.func3, Try.ntmps3
      go_wp2_with fail
      refine (sh_size A c zs w hs h).mono ?_
      rintro e w1 ⟨rfl, hb1⟩
      rw [HS.out.1, HS.out.2]
      go_wp2_with fail
      refine (ref_right A c zs w1 hs (h.below hb1)).mono ?_
      rintro e w2 ⟨rfl, rfl⟩
      rw [HR.out]
      go_wp2_with fail
      refine (sh_copy A c zs w1 hs (h.below hb1)).mono ?_
      rintro e w2 ⟨g, rfl, hg, ho, hb2⟩
      have b2 := hb1.trans (hb2.mono hb1.size)
      go_wp2_with fail
      refine (sh_right A c zs w2 hs (h.below b2)).mono ?_
      rintro e w3 ⟨rfl, hb3⟩
      rw [HR.out]
      have b3 := b2.trans (hb3.mono b2.size)
      have o3 := ho.keep hb3
      go_wp2_with fail
      refine (sh_equal (some ⟨g, 0, none⟩) A zs.length c zs zs w3 hs hs o3.rd (h.below b3)).mono ?_
      rintro e w4 ⟨rfl, n, rfl⟩
      go_wp2_with fail
      refine (ref_size A c zs _ r4 RIN ((h.below b3).drewN n)).mono ?_
      rintro e w5 ⟨rfl, rfl⟩
      go_wp2_with fail
      refine (l03_awake _).mono ?_
      rintro e w5 ⟨rfl, hb5⟩
      have b4 := below_drewN b3 n
      have b5 := b4.trans (hb5.mono b4.size)
      go_wp2_with fail
      go_ret
      exact ⟨rfl, b5⟩
end Go.Proofs.Ytlnpkoggnikkbaa
