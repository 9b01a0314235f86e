/- Printed walks; conditions: those in each statement. -/
import Derived.Test.YtncdadcmghglkaaGreatDoorVFnPartSameQt
import Derived.Test.YtncdadcmghglkaaGreatDoorVFnPartSameYt
import Derived.Test.YtncdadcmghglkaaGreatDoorPFnPartSamex0
import Derived.Test.YtncdadcmghglkaaGreatDoorPFnPartSamex2
import Derived.Test.YtncdadcmghglkaaGreatDoorPFnPartSamex4
-- short
-- dense
-- sq
-- sq2
namespace Go.Proofs.YtncdadcmghglkaaGreatDoor.PFnPartSame
open Go.RowKit Go.Proofs.YtncdadcmghglkaaGreatDoor.X Go.Proofs.YtncdadcmghglkaaGreatDoorW.PrintWords Go.Proofs.YtncdadcmghglkaaGreatDoorW.PrintLast Go.Proofs.YtncdadcmghglkaaGreatDoorW.PrintMore
attribute [local go_sem] max2_int min2_int max_two min_two max_three min_three max_four min_four   -- for this text's walks alone
set_option linter.unusedVariables false
set_option maxHeartbeats 8000000
set_option maxRecDepth 100000
set_option linter.unusedSimpArgs false
def impl_splitOutside.l0 : Nat → ByteArray → Int → List ByteArray → Option (List ByteArray)
 | 0, _, _, _ => none
 | k + 1, x0, x1, x5 => (impl_outside.f k x0 x1).bind fun t175 => (if t175 < 0 then (if x5.length < 8796093022208 then (some (x5 ++ [x0])) else (none)) else (if 0 ≤ t175 then (if t175 ≤ (x0.size : Int) then (if x5.length < 8796093022208 then (if 0 ≤ (wrap64 (t175 + 1)) then (if (wrap64 (t175 + 1)) ≤ (x0.size : Int) then (impl_splitOutside.l0 k (x0.extract ((wrap64 (t175 + 1)) : Int).toNat x0.size) x1 (x5 ++ [x0.extract 0 (t175 : Int).toNat])) else (none)) else (none)) else (none)) else (none)) else (none)))
def impl_splitOutside.f (k : Nat) (a0 : ByteArray) (a1 : Int) : Option (List ByteArray) := impl_splitOutside.l0 k a0 a1 (([] : List ByteArray))
def impl_splitOutside.T5 : Bool × List (List Nat × List Nat) := (true, [([], []), ([], []), ([], []), ([1, 2], [1, 2]), ([3], [3]), ([0, 4], [0, 4]), ([], []), ([], []), ([7], [7]), ([6, 8], [6, 8]), ([5, 5, 0, 1, 2, 3, 4, 5], [0, 5]), ([9, 10, 0, 1, 2, 3, 4, 5, 6, 7, 8, 9, 10], [1, 6, 9])])
def impl_splitOutside.B5 : List Nat := [0, 0, 0, 6, 14, 31, 0, 0, 128, 448, 63, 2047]
theorem impl_splitOutside.tab5 : rtab .any (opsOf Tryz.f90 5) = impl_splitOutside.T5 := by kernel_rfl
theorem impl_splitOutside.bits5 : waitsOk impl_splitOutside.T5.2 impl_splitOutside.B5 = true := by kernel_rfl
theorem impl_splitOutside.calls {k : Nat} {a0 : ByteArray} {a1 : Int} {r : List ByteArray} {w : World} (h : impl_splitOutside.f k a0 a1 = some r) :
  Calls Tryz.prog 90 #[.string a0, .int .u8 a1] w fun e w' => ∃ v0_ : Value, e = .returned (v0_) ∧ Kd.R Kd.string 9 w' w.heap.size (fun _ => True) v0_ r ∧ Below w.heap.size w w' := by
 have HB := ak (Below.refl w.heap.size w)
 have H : (impl_splitOutside.l0 k a0 a1 (([] : List ByteArray))) = some r := h
 clear h
 obtain ⟨y172, Ny172⟩ := nm ([] : List ByteArray)
 rw [← Ny172.out] at H
 have H' := ak H; clear H
 go_enter Tryz.func90, Tryz.ntmps90
 go_wp2_with (refine lRN 7 Kd.string 9 Ny172 ?_; intro v173 w3 ho4 hb; have HO174 := ak (Kd.R_lower ho4 (below_size (ul HB.out))); replace HB := bs HB hb; clear hb ho4)
 go_loopg [0, 5] k (fun kq v0 v5 w' => ∃ (x0_1 : ByteArray) (x5_1 : List ByteArray), v0 = .string x0_1 ∧ Aside0 (impl_splitOutside.l0 kq x0_1 a1 x5_1 = some r) ∧ Aside0 (kq ≤ k) ∧ Aside0 (Kd.R Kd.string 9 w' w.heap.size (fun _ => True) v5 x5_1) ∧ Aside0 (Below w.heap.size w w'))
 case atStart => exact ⟨_, _, rs, H', ⟨Nat.le_refl _⟩, ⟨ur HO174.out⟩, ⟨ul HB.out⟩⟩
 case round =>
  clear H'
  obtain ⟨x0_1, x5_1, rfl, HA, HK1, HO_5, HB⟩ := hrel
  cases gk with
  | zero => exact zz HA.out
  | succ k1 =>
   obtain ⟨H⟩ := HA
   simp only [impl_splitOutside.l0] at H
   replace H := bd H; obtain ⟨t175, A5, H⟩ := H; replace H := sd H
   rcases H with ⟨c6b0, H⟩ | ⟨c6b0, H⟩
   ·
    replace H := nl H; obtain ⟨LMc7, H⟩ := H
    obtain ⟨y176, Ny176⟩ := nm (x5_1 ++ [x0_1])
    rw [← Ny176.out] at H
    obtain rfl := s1 H
    go_wp2_with (first | (refine gB Tryz.func125 (impl_outside.calls A5.out) ?_; intro w8 hb; replace HO_5 := rb HO_5 hb; replace HB := bs HB hb; clear hb) | (at_builtin; refine aP 13 15 Kd.string 23 9 (.string ⟨#[]⟩) 16 Tryz.underlying23 info9 HB (ur HO_5.out) Ny176 (by have := LMc7.out; omega) ?_; intro v177 w9 ho hb hg hat; have HO178 := ak (ho); replace HB := ak (hb); clear ho hb hg hat HO_5))
    go_ret
    exact ⟨_, er, ur HO178.out, ul HB.out⟩
   ·
    replace H := ne_ H; obtain ⟨c10b0, c10b1, H⟩ := H; replace H := ne_ H; obtain ⟨c11b0, c11b1, H⟩ := H; replace H := nl H; obtain ⟨LMc12, H⟩ := H
    obtain ⟨y179, Ny179⟩ := nm (x5_1 ++ [x0_1.extract 0 (t175 : Int).toNat])
    rw [← Ny179.out] at H
    obtain ⟨ji13, hji13⟩ : ∃ j_ : Int, (wrap64 (t175 + 1)) = j_ := ⟨_, rfl⟩
    replace H : (if 0 ≤ (ji13) then (if (ji13) ≤ (x0_1.size : Int) then (impl_splitOutside.l0 k1 (x0_1.extract ((ji13) : Int).toNat x0_1.size) a1 y179) else (none)) else (none)) = some r := by first | (rw [hji13] at H; exact H) | (simp only [hji13] at H ⊢; exact H)
    (try rw [hji13] at A5)
    have hji13w : (IntKind.i64.wrap (t175 + 1)) = ji13 := (i64_w _).trans hji13
    replace H := ne_ H; obtain ⟨c14b0, c14b1, H⟩ := H; replace H := ne_ H; obtain ⟨c15b0, c15b1, H⟩ := H
    have H' := ak H; clear H
    try go_wp2_with (refine gB Tryz.func125 (impl_outside.calls A5.out) ?_; intro w16 hb; replace HO_5 := rb HO_5 hb; replace HB := bs HB hb; clear hb)
    replace HO_5 := ak (Kd.R_drew HO_5.out)
    replace HB := ak (below_drew1 HB.out)
    refine ro [4, 5] [0, 1, 2, 3, 6, 7, 8, 9, 4, 5, 10, 11] (fun w' => True) trivial ?_
    generalize w16.drew = w17 at HO_5 HB ⊢
    repeat refine lo_ ?_
    refine ld (N := some 21) (gk.trans rfl) rfl rfl (fun K hK => ?_)
    refine value_ (w1 := ?_) (v := ?_) (by rfl) rfl ?_ ?_
    rotate_left 2
    ·
     go_simp
     constructor
     ·
      rfl
     ·
      rfl
    refine hK.out _ _ trivial ?_
    clear hK K
    refine no (a' := ?_) ?_ ?_
    rotate_left
    ·
     show Act.put _ (some 21) _ = _
     simp only [Act.put, l_a, l_b, l_c, i64_w, i32_w]
     rfl
    refine ld (N := some 22) (gk.trans rfl) rfl rfl (fun K hK => ?_)
    refine Kd.R_append_step Kd.string (w0 := w) w.heap.size (by rfl) (.tmp 17) (.tmp 21) 23 9 (.string ⟨#[]⟩) 16 rfl Tryz.underlying23 info9 rfl (by decide) (by omega) u5 x5_1 (x0_1.extract 0 (t175 : Int).toNat) [.string (x0_1.extract 0 (t175 : Int).toNat)] (fun _ => True) (fun _ => False) rfl rfl ?aP (fun _ hk => hk.elim) ?aF ?aO ?aB ?aS ?aL ?_
    (case aP => exact rfl)
    (case aB => exact (ul HB.out))
    (case aF => exact (fun _ _ => trivial))
    (case aO => exact (ur HO_5.out))
    (case aS => exact (below_size (ul HB.out)))
    (case aL => have := LMc12.out; omega)
    intro v180 w18 ho hb hg hat
    rw [← Ny179.out] at ho
    have n0_ := ak (hb)
    have n1_ := ak (ho)
    clear HB HO_5
    have HB := n0_
    have HO181 := n1_
    clear n0_ n1_ ho hb hg hat
    refine hK.out _ _ trivial ?_
    clear hK K
    refine no (a' := ?_) ?_ ?_
    rotate_left
    ·
     show Act.put _ (some 22) _ = _
     simp only [Act.put, l_a, l_b, l_c, i64_w, i32_w]
     rfl
    repeat refine lo_ ?_
    refine on ?_
    try go_wp2
    go_roundg k1
    case measure => exact kl
    case rel => exact ⟨_, _, (by first | rfl | (simp; done) | (simp only [← hji13] <;> (first | rfl | simp)) | (simp [*]; done)), H', ⟨kl⟩, ⟨ur HO181.out⟩, ⟨ul HB.out⟩⟩
def strings_Cut.f (a0 : ByteArray) (a1 : ByteArray) : Option (ByteArray × ByteArray × Bool) := if a0.size < 4294967281 then some (⟨(Lib.cut a0.data.toList a1.data.toList).1.toArray⟩, ⟨(Lib.cut a0.data.toList a1.data.toList).2.1.toArray⟩, (Lib.cut a0.data.toList a1.data.toList).2.2) else none
theorem strings_Cut.calls {a0 a1 r1 r2 : ByteArray} {r3 : Bool} {w : World} (hg_ : MaxOk w) (h : strings_Cut.f a0 a1 = some (r1, r2, r3)) :
  Calls Tryz.prog 91 #[.string a0, .string a1] w fun e w' => e = .returned (.tuple #[.string r1, .string r2, .bool r3]) ∧ Drawn0 w w' := by
 unfold strings_Cut.f at h
 split at h
 ·
  rename_i hs
  injection h with h
  injection h with h1 h
  injection h with h2 h3
  subst h1; subst h2; subst h3
  obtain ⟨m, hm⟩ := hg_
  exact (Tryz.strings_Cut a0 a1 m w hs hm).mono fun e w' ⟨he, n, hn⟩ => ⟨he, ⟨⟨n, hn⟩⟩⟩
 ·
  cases h
def impl_isAtomByte.f (a0 : Int) : Option (Bool) := (impl_isLetter.f a0).bind fun t182 => (if t182 = true then (some true) else ((impl_isDigit.f a0).bind fun t183 => (if t183 = true then (some true) else (if a0 = 33 then (some true) else (if a0 ≥ 35 then (if a0 ≤ 39 then (some true) else (if a0 = 42 then (some true) else (if a0 = 43 then (some true) else (if a0 = 45 then (some true) else (if a0 = 47 then (some true) else (if a0 = 61 then (some true) else (if a0 = 63 then (some true) else (if a0 ≥ 94 then (if a0 ≤ 96 then (some true) else (if a0 ≥ 123 then (some (decide (a0 ≤ 126))) else (some false))) else (if a0 ≥ 123 then (some (decide (a0 ≤ 126))) else (some false)))))))))) else (if a0 = 42 then (some true) else (if a0 = 43 then (some true) else (if a0 = 45 then (some true) else (if a0 = 47 then (some true) else (if a0 = 61 then (some true) else (if a0 = 63 then (some true) else (if a0 ≥ 94 then (if a0 ≤ 96 then (some true) else (if a0 ≥ 123 then (some (decide (a0 ≤ 126))) else (some false))) else (if a0 ≥ 123 then (some (decide (a0 ≤ 126))) else (some false))))))))))))))
theorem impl_isAtomByte.calls {a0 : Int} {r : Bool} {w : World} (h : impl_isAtomByte.f a0 = some r) :
  Calls Tryz.prog 135 #[.int .u8 a0] w fun e w' => e = .returned (.bool r) ∧ Drawn0 w w' := by
 have H : ((impl_isLetter.f a0).bind fun t182 => (if t182 = true then (some true) else ((impl_isDigit.f a0).bind fun t183 => (if t183 = true then (some true) else (if a0 = 33 then (some true) else (if a0 ≥ 35 then (if a0 ≤ 39 then (some true) else (if a0 = 42 then (some true) else (if a0 = 43 then (some true) else (if a0 = 45 then (some true) else (if a0 = 47 then (some true) else (if a0 = 61 then (some true) else (if a0 = 63 then (some true) else (if a0 ≥ 94 then (if a0 ≤ 96 then (some true) else (if a0 ≥ 123 then (some (decide (a0 ≤ 126))) else (some false))) else (if a0 ≥ 123 then (some (decide (a0 ≤ 126))) else (some false)))))))))) else (if a0 = 42 then (some true) else (if a0 = 43 then (some true) else (if a0 = 45 then (some true) else (if a0 = 47 then (some true) else (if a0 = 61 then (some true) else (if a0 = 63 then (some true) else (if a0 ≥ 94 then (if a0 ≤ 96 then (some true) else (if a0 ≥ 123 then (some (decide (a0 ≤ 126))) else (some false))) else (if a0 ≥ 123 then (some (decide (a0 ≤ 126))) else (some false))))))))))))))) = some r := h
 clear h
 replace H := bd H; obtain ⟨t182, A2, H⟩ := H; replace H := sb H
 rcases H with ⟨rfl, H⟩ | ⟨rfl, H⟩
 ·
  obtain rfl := s1 H
  go_enter Tryz.func135, Tryz.ntmps135
  go_wp2_with (refine gA Tryz.func140 (impl_isLetter.calls A2.out) ?_; intro nd)
  go_ret
  exact ⟨rs, dn⟩
 ·
  replace H := bd H; obtain ⟨t183, A4, H⟩ := H; replace H := sb H
  rcases H with ⟨rfl, H⟩ | ⟨rfl, H⟩
  ·
   obtain rfl := s1 H
   go_enter Tryz.func135, Tryz.ntmps135
   go_wp2_with (first | (refine gA Tryz.func140 (impl_isLetter.calls A2.out) ?_; intro nd) | (go_at_call 141; refine mA (impl_isDigit.calls A4.out) ?_; intro nd))
   go_ret
   exact ⟨rs, dn⟩
  ·
   replace H := sq H
   rcases H with ⟨c6b0, c6b1, H⟩ | ⟨c6, c6b0, c6b1, H⟩
   ·
    obtain rfl := s1 H
    go_enter Tryz.func135, Tryz.ntmps135
    go_wp2_with (first | (refine gA Tryz.func140 (impl_isLetter.calls A2.out) ?_; intro nd) | (go_at_call 141; refine mA (impl_isDigit.calls A4.out) ?_; intro nd))
    go_ret
    exact ⟨rs, dn⟩
   ·
    replace H := sp H
    rcases H with ⟨c7, H⟩ | ⟨c7, H⟩
    ·
     have c7b0 : decide (35 ≤ a0) = true := decide_eq_true c7
     clear c7
     replace H := sd H
     rcases H with ⟨c8b0, H⟩ | ⟨c8b0, H⟩
     ·
      obtain rfl := s1 H
      go_enter Tryz.func135, Tryz.ntmps135
      go_wp2_with (first | (refine gA Tryz.func140 (impl_isLetter.calls A2.out) ?_; intro nd) | (go_at_call 141; refine mA (impl_isDigit.calls A4.out) ?_; intro nd))
      go_ret
      exact ⟨rs, dn⟩
     ·
      replace H := sq H
      rcases H with ⟨c9b0, c9b1, H⟩ | ⟨c9, c9b0, c9b1, H⟩
      ·
       obtain rfl := s1 H
       go_enter Tryz.func135, Tryz.ntmps135
       go_wp2_with (first | (refine gA Tryz.func140 (impl_isLetter.calls A2.out) ?_; intro nd) | (go_at_call 141; refine mA (impl_isDigit.calls A4.out) ?_; intro nd))
       go_ret
       exact ⟨rs, dn⟩
      ·
       replace H := sq H
       rcases H with ⟨c10b0, c10b1, H⟩ | ⟨c10, c10b0, c10b1, H⟩
       ·
        obtain rfl := s1 H
        go_enter Tryz.func135, Tryz.ntmps135
        go_wp2_with (first | (refine gA Tryz.func140 (impl_isLetter.calls A2.out) ?_; intro nd) | (go_at_call 141; refine mA (impl_isDigit.calls A4.out) ?_; intro nd))
        go_ret
        exact ⟨rs, dn⟩
       ·
        replace H := sq H
        rcases H with ⟨c11b0, c11b1, H⟩ | ⟨c11, c11b0, c11b1, H⟩
        ·
         obtain rfl := s1 H
         go_enter Tryz.func135, Tryz.ntmps135
         go_wp2_with (first | (refine gA Tryz.func140 (impl_isLetter.calls A2.out) ?_; intro nd) | (go_at_call 141; refine mA (impl_isDigit.calls A4.out) ?_; intro nd))
         go_ret
         exact ⟨rs, dn⟩
        ·
         replace H := sq H
         rcases H with ⟨c12b0, c12b1, H⟩ | ⟨c12, c12b0, c12b1, H⟩
         ·
          obtain rfl := s1 H
          go_enter Tryz.func135, Tryz.ntmps135
          go_wp2_with (first | (refine gA Tryz.func140 (impl_isLetter.calls A2.out) ?_; intro nd) | (go_at_call 141; refine mA (impl_isDigit.calls A4.out) ?_; intro nd))
          go_ret
          exact ⟨rs, dn⟩
         ·
          replace H := sq H
          rcases H with ⟨c13b0, c13b1, H⟩ | ⟨c13, c13b0, c13b1, H⟩
          ·
           obtain rfl := s1 H
           go_enter Tryz.func135, Tryz.ntmps135
           go_wp2_with (first | (refine gA Tryz.func140 (impl_isLetter.calls A2.out) ?_; intro nd) | (go_at_call 141; refine mA (impl_isDigit.calls A4.out) ?_; intro nd))
           go_ret
           exact ⟨rs, dn⟩
          ·
           replace H := sq H
           rcases H with ⟨c14b0, c14b1, H⟩ | ⟨c14, c14b0, c14b1, H⟩
           ·
            obtain rfl := s1 H
            go_enter Tryz.func135, Tryz.ntmps135
            go_wp2_with (first | (refine gA Tryz.func140 (impl_isLetter.calls A2.out) ?_; intro nd) | (go_at_call 141; refine mA (impl_isDigit.calls A4.out) ?_; intro nd))
            go_ret
            exact ⟨rs, dn⟩
           ·
            replace H := sp H
            rcases H with ⟨c15, H⟩ | ⟨c15, H⟩
            ·
             have c15b0 : decide (94 ≤ a0) = true := decide_eq_true c15
             clear c15
             replace H := sd H
             rcases H with ⟨c16b0, H⟩ | ⟨c16b0, H⟩
             ·
              obtain rfl := s1 H
              go_enter Tryz.func135, Tryz.ntmps135
              go_wp2_with (first | (refine gA Tryz.func140 (impl_isLetter.calls A2.out) ?_; intro nd) | (go_at_call 141; refine mA (impl_isDigit.calls A4.out) ?_; intro nd))
              go_ret
              exact ⟨rs, dn⟩
             ·
              replace H := sp H
              rcases H with ⟨c17, H⟩ | ⟨c17, H⟩
              ·
               have c17b0 : decide (123 ≤ a0) = true := decide_eq_true c17
               clear c17
               obtain rfl := s1 H
               go_enter Tryz.func135, Tryz.ntmps135
               go_wp2_with (first | (refine gA Tryz.func140 (impl_isLetter.calls A2.out) ?_; intro nd) | (go_at_call 141; refine mA (impl_isDigit.calls A4.out) ?_; intro nd))
               go_ret
               exact ⟨rs, dn⟩
              ·
               have c17b0 : decide (123 ≤ a0) = false := decide_eq_false c17
               clear c17
               obtain rfl := s1 H
               go_enter Tryz.func135, Tryz.ntmps135
               go_wp2_with (first | (refine gA Tryz.func140 (impl_isLetter.calls A2.out) ?_; intro nd) | (go_at_call 141; refine mA (impl_isDigit.calls A4.out) ?_; intro nd))
               go_ret
               exact ⟨rs, dn⟩
            ·
             have c15b0 : decide (94 ≤ a0) = false := decide_eq_false c15
             clear c15
             replace H := sp H
             rcases H with ⟨c18, H⟩ | ⟨c18, H⟩
             ·
              have c18b0 : decide (123 ≤ a0) = true := decide_eq_true c18
              clear c18
              obtain rfl := s1 H
              go_enter Tryz.func135, Tryz.ntmps135
              go_wp2_with (first | (refine gA Tryz.func140 (impl_isLetter.calls A2.out) ?_; intro nd) | (go_at_call 141; refine mA (impl_isDigit.calls A4.out) ?_; intro nd))
              go_ret
              exact ⟨rs, dn⟩
             ·
              have c18b0 : decide (123 ≤ a0) = false := decide_eq_false c18
              clear c18
              obtain rfl := s1 H
              go_enter Tryz.func135, Tryz.ntmps135
              go_wp2_with (first | (refine gA Tryz.func140 (impl_isLetter.calls A2.out) ?_; intro nd) | (go_at_call 141; refine mA (impl_isDigit.calls A4.out) ?_; intro nd))
              go_ret
              exact ⟨rs, dn⟩
    ·
     have c7b0 : decide (35 ≤ a0) = false := decide_eq_false c7
     clear c7
     replace H := sq H
     rcases H with ⟨c19b0, c19b1, H⟩ | ⟨c19, c19b0, c19b1, H⟩
     ·
      obtain rfl := s1 H
      go_enter Tryz.func135, Tryz.ntmps135
      go_wp2_with (first | (refine gA Tryz.func140 (impl_isLetter.calls A2.out) ?_; intro nd) | (go_at_call 141; refine mA (impl_isDigit.calls A4.out) ?_; intro nd))
      go_ret
      exact ⟨rs, dn⟩
     ·
      replace H := sq H
      rcases H with ⟨c20b0, c20b1, H⟩ | ⟨c20, c20b0, c20b1, H⟩
      ·
       obtain rfl := s1 H
       go_enter Tryz.func135, Tryz.ntmps135
       go_wp2_with (first | (refine gA Tryz.func140 (impl_isLetter.calls A2.out) ?_; intro nd) | (go_at_call 141; refine mA (impl_isDigit.calls A4.out) ?_; intro nd))
       go_ret
       exact ⟨rs, dn⟩
      ·
       replace H := sq H
       rcases H with ⟨c21b0, c21b1, H⟩ | ⟨c21, c21b0, c21b1, H⟩
       ·
        obtain rfl := s1 H
        go_enter Tryz.func135, Tryz.ntmps135
        go_wp2_with (first | (refine gA Tryz.func140 (impl_isLetter.calls A2.out) ?_; intro nd) | (go_at_call 141; refine mA (impl_isDigit.calls A4.out) ?_; intro nd))
        go_ret
        exact ⟨rs, dn⟩
       ·
        replace H := sq H
        rcases H with ⟨c22b0, c22b1, H⟩ | ⟨c22, c22b0, c22b1, H⟩
        ·
         obtain rfl := s1 H
         go_enter Tryz.func135, Tryz.ntmps135
         go_wp2_with (first | (refine gA Tryz.func140 (impl_isLetter.calls A2.out) ?_; intro nd) | (go_at_call 141; refine mA (impl_isDigit.calls A4.out) ?_; intro nd))
         go_ret
         exact ⟨rs, dn⟩
        ·
         replace H := sq H
         rcases H with ⟨c23b0, c23b1, H⟩ | ⟨c23, c23b0, c23b1, H⟩
         ·
          obtain rfl := s1 H
          go_enter Tryz.func135, Tryz.ntmps135
          go_wp2_with (first | (refine gA Tryz.func140 (impl_isLetter.calls A2.out) ?_; intro nd) | (go_at_call 141; refine mA (impl_isDigit.calls A4.out) ?_; intro nd))
          go_ret
          exact ⟨rs, dn⟩
         ·
          replace H := sq H
          rcases H with ⟨c24b0, c24b1, H⟩ | ⟨c24, c24b0, c24b1, H⟩
          ·
           obtain rfl := s1 H
           go_enter Tryz.func135, Tryz.ntmps135
           go_wp2_with (first | (refine gA Tryz.func140 (impl_isLetter.calls A2.out) ?_; intro nd) | (go_at_call 141; refine mA (impl_isDigit.calls A4.out) ?_; intro nd))
           go_ret
           exact ⟨rs, dn⟩
          ·
           replace H := sp H
           rcases H with ⟨c25, H⟩ | ⟨c25, H⟩
           ·
            have c25b0 : decide (94 ≤ a0) = true := decide_eq_true c25
            clear c25
            replace H := sd H
            rcases H with ⟨c26b0, H⟩ | ⟨c26b0, H⟩
            ·
             obtain rfl := s1 H
             go_enter Tryz.func135, Tryz.ntmps135
             go_wp2_with (first | (refine gA Tryz.func140 (impl_isLetter.calls A2.out) ?_; intro nd) | (go_at_call 141; refine mA (impl_isDigit.calls A4.out) ?_; intro nd))
             go_ret
             exact ⟨rs, dn⟩
            ·
             replace H := sp H
             rcases H with ⟨c27, H⟩ | ⟨c27, H⟩
             ·
              have c27b0 : decide (123 ≤ a0) = true := decide_eq_true c27
              clear c27
              obtain rfl := s1 H
              go_enter Tryz.func135, Tryz.ntmps135
              go_wp2_with (first | (refine gA Tryz.func140 (impl_isLetter.calls A2.out) ?_; intro nd) | (go_at_call 141; refine mA (impl_isDigit.calls A4.out) ?_; intro nd))
              go_ret
              exact ⟨rs, dn⟩
             ·
              have c27b0 : decide (123 ≤ a0) = false := decide_eq_false c27
              clear c27
              obtain rfl := s1 H
              go_enter Tryz.func135, Tryz.ntmps135
              go_wp2_with (first | (refine gA Tryz.func140 (impl_isLetter.calls A2.out) ?_; intro nd) | (go_at_call 141; refine mA (impl_isDigit.calls A4.out) ?_; intro nd))
              go_ret
              exact ⟨rs, dn⟩
           ·
            have c25b0 : decide (94 ≤ a0) = false := decide_eq_false c25
            clear c25
            replace H := sp H
            rcases H with ⟨c28, H⟩ | ⟨c28, H⟩
            ·
             have c28b0 : decide (123 ≤ a0) = true := decide_eq_true c28
             clear c28
             obtain rfl := s1 H
             go_enter Tryz.func135, Tryz.ntmps135
             go_wp2_with (first | (refine gA Tryz.func140 (impl_isLetter.calls A2.out) ?_; intro nd) | (go_at_call 141; refine mA (impl_isDigit.calls A4.out) ?_; intro nd))
             go_ret
             exact ⟨rs, dn⟩
            ·
             have c28b0 : decide (123 ≤ a0) = false := decide_eq_false c28
             clear c28
             obtain rfl := s1 H
             go_enter Tryz.func135, Tryz.ntmps135
             go_wp2_with (first | (refine gA Tryz.func140 (impl_isLetter.calls A2.out) ?_; intro nd) | (go_at_call 141; refine mA (impl_isDigit.calls A4.out) ?_; intro nd))
             go_ret
             exact ⟨rs, dn⟩
end Go.Proofs.YtncdadcmghglkaaGreatDoor.PFnPartSame
