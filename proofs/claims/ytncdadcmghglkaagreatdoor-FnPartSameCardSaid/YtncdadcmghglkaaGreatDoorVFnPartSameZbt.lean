/- Plain lemmas on strings as lists of bytes and on rounds, for the pure laws of this seat; no condition. -/
import Derived.Test.YtncdadcmghglkaaGreatDoorVFnPartSameWords
import Derived.Test.YtncdadcmghglkaaGreatDoorVFnPartSameLast
-- dense
namespace Go.Proofs.YtncdadcmghglkaaGreatDoor.Z
open Go.RowKit Go.Proofs.YtncdadcmghglkaaGreatDoorW.PrintWords Go.Proofs.YtncdadcmghglkaaGreatDoorW.PrintLast
set_option linter.unusedVariables false
set_option linter.unusedSimpArgs false

/-! Strings as lists of bytes. -/
abbrev Str := List UInt8
def L (s : ByteArray) : Str := s.data.toList
def ofL (l : Str) : ByteArray := ⟨l.toArray⟩
def zn (l : Str) : List Int := l.map fun b => (b.toNat : Int)
theorem L_ofL (l : Str) : L (ofL l) = l := rfl
theorem ofL_L (s : ByteArray) : ofL (L s) = s := rfl
theorem size_L (s : ByteArray) : s.size = (L s).length := by
 unfold L; rw [Array.length_toList]; rfl
theorem L_inj {s t : ByteArray} (h : L s = L t) : s = t := by
 rw [← ofL_L s, ← ofL_L t, h]
theorem L_append (s t : ByteArray) : L (s ++ t) = L s ++ L t := by
 unfold L; rw [ByteArray.data_append, Array.toList_append]
theorem ofL_append (a b : Str) : ofL a ++ ofL b = ofL (a ++ b) := L_inj (by rw [L_append, L_ofL, L_ofL, L_ofL])
theorem size_ofL (l : Str) : (ofL l).size = l.length := by rw [size_L, L_ofL]
theorem toList_loop (s : ByteArray) (n : Nat) : ∀ (i : Nat) (r : Str), s.size - i = n → ByteArray.toList.loop s i r = r.reverse ++ (L s).drop i := by
 induction n with
 | zero =>
  intro i r h
  have hs := size_L s
  unfold ByteArray.toList.loop
  rw [if_neg (by omega), List.drop_eq_nil_of_le (by omega), List.append_nil]
 | succ n ih =>
  intro i r h
  have hs := size_L s
  unfold ByteArray.toList.loop
  have hl : i < (L s).length := by omega
  have h0 : i < s.size := by omega
  rw [if_pos (by omega), ih _ _ (by omega)]
  have : s.get! i = (L s)[i] := by
   cases s with
   | mk d =>
    have hi : i < d.size := h0
    show d[i]! = d.toList[i]
    rw [getElem!_pos d i hi]
    simp
  rw [this, List.reverse_cons, List.append_assoc, List.singleton_append]
  exact congrArg _ (List.drop_eq_getElem_cons hl).symm
theorem toList_L (s : ByteArray) : s.toList = L s := by
 unfold ByteArray.toList; rw [toList_loop s (s.size) 0 [] (by omega)]; rfl
theorem toList_ofL (l : Str) : (ofL l).toList = l := by rw [toList_L, L_ofL]
theorem bytesOf_ofL (l : Str) : bytesOf (ofL l) = zn l := rfl
theorem zn_append (a b : Str) : zn (a ++ b) = zn a ++ zn b := by unfold zn; rw [List.map_append]
theorem zn_length (a : Str) : (zn a).length = a.length := by unfold zn; rw [List.length_map]
theorem strOfNums_zn (l : Str) : strOfNums (zn l) = ofL l := by
 unfold strOfNums zn ofL
 rw [List.map_map]
 congr 2
 have : ∀ l : Str, l.map ((fun n : Int => UInt8.ofNat n.toNat) ∘ fun b : UInt8 => (b.toNat : Int)) = l := by
  intro l; induction l with
  | nil => rfl
  | cons c r ih => rw [List.map_cons, ih]; simp
 exact this l
theorem bt_nat (s : ByteArray) (i : Nat) (h : i < (L s).length) : bt s (i : Int) = (((L s)[i]).toNat : Int) := by
 have hs := size_L s
 have h' : (i : Int).toNat < s.size := by simpa [hs] using h
 rw [← bt_at s i h']
 rfl
theorem bt_at_cons {s : ByteArray} {p r : Str} {c : UInt8} (h : L s = p ++ c :: r) : bt s (p.length : Int) = (c.toNat : Int) := by
 rw [bt_nat s p.length (by rw [h]; simp)]
 simp [h]
theorem wrap_id {x : Int} (h0 : -9223372036854775808 ≤ x) (h1 : x ≤ 9223372036854775807) : wrap64 x = x := by
 unfold wrap64; omega
theorem u8_eq (c : UInt8) (n : Nat) (h : n < 256) : ((c.toNat : Int) = (n : Int)) ↔ c = UInt8.ofNat n := by
 constructor
 ·
  intro e; apply UInt8.toNat_inj.mp; rw [UInt8.toNat_ofNat']; omega
 ·
  intro e; subst e; rw [UInt8.toNat_ofNat']; omega

theorem mk_ofL (a : Array UInt8) : (⟨a⟩ : ByteArray) = ofL a.toList := rfl
theorem lit_list (l : Str) : l.toArray.toList = l := rfl
theorem extract_ofL (l : Str) (i j : Nat) : (ofL l).extract i j = ofL ((l.drop i).take (j - i)) := by
 apply L_inj
 rw [L_ofL]
 unfold L ofL
 rw [ByteArray.data_extract]
 simp [List.extract_eq_take_drop]
theorem bt_zero (c : UInt8) (r : Str) : bt (ofL (c :: r)) 0 = (c.toNat : Int) := bt_at_cons (s := ofL (c :: r)) (p := []) rfl
theorem bt_mid (p r : Str) (c : UInt8) : bt (ofL (p ++ c :: r)) (p.length : Int) = (c.toNat : Int) := bt_at_cons (s := ofL (p ++ c :: r)) rfl
theorem rdOf_mid {α : Type} (d : α) (p r : List α) (c : α) : rdOf d (p ++ c :: r) (p.length : Int) = c := by
 unfold rdOf
 rw [List.getD_eq_getElem?_getD]
 simp
theorem u8_lt (c : UInt8) (n : Nat) (h : n < 256) : ((c.toNat : Int) < (n : Int)) ↔ c < UInt8.ofNat n := by
 rw [UInt8.lt_iff_toNat_lt, UInt8.toNat_ofNat']; omega
theorem len_snoc {α : Type} (p : List α) (c : α) : (((p ++ [c]).length : Nat) : Int) = (p.length : Int) + 1 := by rw [List.length_append]; rfl

/-! Rounds. -/
theorem vs {α : Type} (r : α) : Ev (fun _ => some r) r := Ev.now r
theorem vb {α β : Type} {g : Nat → Option α} {f : Nat → α → Option β} {a : α} {r : β} (h : Ev g a) (k : Ev (fun n => f n a) r) : Ev (fun n => (g n).bind (f n)) r := Ev.bind h k
theorem ev_bind0 {α β : Type} {g : Option α} {f : Nat → α → Option β} {a : α} {r : β} (h : g = some a) (k : Ev (fun n => f n a) r) : Ev (fun n => g.bind (f n)) r := by
 subst h; exact k
theorem vq {α : Type} {g : Nat → Option α} {r r' : α} (h : Ev g r) (e : r = r') : Ev g r' := e ▸ h
theorem vp {α : Type} {c : Prop} [Decidable c] {g f : Nat → Option α} {r : α} (hc : c) (h : Ev g r) : Ev (fun n => if c then g n else f n) r := by
 simp only [if_pos hc]; exact h
theorem vn {α : Type} {c : Prop} [Decidable c] {g f : Nat → Option α} {r : α} (hc : ¬ c) (h : Ev f r) : Ev (fun n => if c then g n else f n) r := by
 simp only [if_neg hc]; exact h
theorem vc {α : Type} {g : Nat → Option α} {r : α} (k : Ev (fun k => g (k + 1)) r) : Ev g r := Ev.step (fun _ => rfl) k
/-! A loop over a list, from its begin: each round ends it (inl) or goes on (inr). -/
def run {σ α R : Type} (st : σ → α → R ⊕ σ) (fin : σ → R) : List α → σ → R
 | [], s => fin s
 | c :: r, s => match st s c with
  | .inl v => v
  | .inr s' => run st fin r s'
theorem run_ev {σ α R : Type} {xs : List α} {F : Nat → σ → Int → Option R} {st : σ → α → R ⊕ σ} {fin : σ → R} (Inv : List α → σ → Prop)
  (hstep : ∀ p c r s, xs = p ++ c :: r → Inv p s → (∀ v, st s c = .inl v → Ev (fun k => F (k + 1) s (p.length : Int)) v) ∧ (∀ s', st s c = .inr s' → Inv (p ++ [c]) s' ∧ ∀ v, Ev (fun k => F k s' ((p.length : Int) + 1)) v → Ev (fun k => F (k + 1) s (p.length : Int)) v))
  (hend : ∀ s, Inv xs s → Ev (fun k => F (k + 1) s (xs.length : Int)) (fin s)) :
  ∀ (r p : List α) (s : σ), xs = p ++ r → Inv p s → Ev (fun k => F k s (p.length : Int)) (run st fin r s) := by
 intro r
 induction r with
 | nil =>
  intro p s h hi
  rw [List.append_nil] at h
  subst h
  exact vc (hend s hi)
 | cons c r ih =>
  intro p s h hi
  obtain ⟨h1, h2⟩ := hstep p c r s h hi
  refine vc ?_
  unfold run
  cases e : st s c with
  | inl v => exact h1 v e
  | inr s' =>
   obtain ⟨h3, h4⟩ := h2 s' e
   refine h4 _ ?_
   have := ih (p ++ [c]) s' (by rw [h]; simp) h3
   rw [len_snoc] at this
   exact this
theorem run_start {σ α R : Type} {xs : List α} {F : Nat → σ → Int → Option R} {st : σ → α → R ⊕ σ} {fin : σ → R} (Inv : List α → σ → Prop) {s : σ} (h0 : Inv [] s)
  (hstep : ∀ p c r s, xs = p ++ c :: r → Inv p s → (∀ v, st s c = .inl v → Ev (fun k => F (k + 1) s (p.length : Int)) v) ∧ (∀ s', st s c = .inr s' → Inv (p ++ [c]) s' ∧ ∀ v, Ev (fun k => F k s' ((p.length : Int) + 1)) v → Ev (fun k => F (k + 1) s (p.length : Int)) v))
  (hend : ∀ s, Inv xs s → Ev (fun k => F (k + 1) s (xs.length : Int)) (fin s)) : Ev (fun k => F k s 0) (run st fin xs s) := run_ev Inv hstep hend xs [] s rfl h0
theorem rdOf_ofL {ls p r : List Str} {c : Str} (h : ls = p ++ c :: r) : rdOf ByteArray.empty (ls.map ofL) (p.length : Int) = ofL c := by
 have := rdOf_mid ByteArray.empty (p.map ofL) (r.map ofL) (ofL c)
 rw [List.length_map] at this
 rw [h, List.map_append, List.map_cons]; exact this
theorem len_mid {α : Type} {ls p r : List α} {c : α} (h : ls = p ++ c :: r) : ls.length = p.length + r.length + 1 := by
 rw [h, List.length_append, List.length_cons]; omega
theorem bt_ofL_mid {l p r : Str} {c : UInt8} (h : l = p ++ c :: r) : bt (ofL l) (p.length : Int) = (c.toNat : Int) := by rw [h]; exact bt_mid p r c
end Go.Proofs.YtncdadcmghglkaaGreatDoor.Z
