/- Short words of this session for the printed walks: a test taken apart, a call's row, a region in a told order; no condition beyond those of each statement. -/
import Derived.Test.YtncdadcmghglkaaGreatDoorVFnExactCountPartsYt
import Derived.Test.YtncdadcmghglkaaGreatDoorVFnExactCountPartsRt
-- dense
namespace Go.Proofs.YtncdadcmghglkaaGreatDoor.X
open Go.RowKit Go.Proofs.YtncdadcmghglkaaGreatDoorW.PrintWords Go.Proofs.YtncdadcmghglkaaGreatDoorW.PrintLast Go.Proofs.YtncdadcmghglkaaGreatDoorW.PrintMore
section
variable {α β : Type} {c : Prop} [Decidable c] {x y : Option α} {r : α}
theorem nn (h : (if c then x else none) = some r) : c ∧ x = some r := by
 by_cases hc : c
 ·
  rw [if_pos hc] at h; exact ⟨hc, h⟩
 ·
  rw [if_neg hc] at h; cases h
theorem nde (h : (if c then x else none) = some r) : decide c = true ∧ x = some r := ⟨decide_eq_true (nn h).1, (nn h).2⟩
theorem ne_ (h : (if c then x else none) = some r) : (c = True) ∧ decide c = true ∧ x = some r := ⟨eq_true (nn h).1, decide_eq_true (nn h).1, (nn h).2⟩
theorem nl (h : (if c then x else none) = some r) : Aside0 c ∧ x = some r := ⟨⟨(nn h).1⟩, (nn h).2⟩
theorem sp (h : (if c then x else y) = some r) : (c ∧ x = some r) ∨ (¬ c ∧ y = some r) := by
 by_cases hc : c
 ·
  rw [if_pos hc] at h; exact .inl ⟨hc, h⟩
 ·
  rw [if_neg hc] at h; exact .inr ⟨hc, h⟩
theorem sd (h : (if c then x else y) = some r) : (decide c = true ∧ x = some r) ∨ (decide c = false ∧ y = some r) := (sp h).imp (fun h => ⟨decide_eq_true h.1, h.2⟩) (fun h => ⟨decide_eq_false h.1, h.2⟩)
theorem sb {b : Bool} (h : (if b = true then x else y) = some r) : (b = true ∧ x = some r) ∨ (b = false ∧ y = some r) := (sp h).imp id (fun h => ⟨Bool.eq_false_iff.mpr h.1, h.2⟩)
theorem sq {γ : Type} [BEq γ] [LawfulBEq γ] {a b : γ} [Decidable (a = b)] (h : (if a = b then x else y) = some r) : ((a == b) = true ∧ (a != b) = false ∧ x = some r) ∨ (a ≠ b ∧ (a == b) = false ∧ (a != b) = true ∧ y = some r) :=
 (sp h).imp (fun h => ⟨beq_iff_eq.mpr h.1, bne_eq_false_iff_eq.mpr h.1, h.2⟩) (fun h => ⟨h.1, beq_eq_false_iff_ne.mpr h.1, bne_iff_ne.mpr h.1, h.2⟩)
theorem nq {γ : Type} [BEq γ] [LawfulBEq γ] {a b : γ} [Decidable (a = b)] (h : (if a = b then x else none) = some r) : (a == b) = true ∧ (a != b) = false ∧ x = some r := ⟨beq_iff_eq.mpr (nn h).1, bne_eq_false_iff_eq.mpr (nn h).1, (nn h).2⟩
theorem bd {z : Option β} {f : β → Option α} (h : z.bind f = some r) : ∃ a, Aside0 (z = some a) ∧ f a = some r := by
 obtain ⟨a, h1, h2⟩ := Option.bind_eq_some_iff.mp h
 exact ⟨a, ⟨h1⟩, h2⟩
theorem nm (e : α) : ∃ y, Aside0 (y = e) := ⟨e, ⟨rfl⟩⟩
end
theorem ak {p : Prop} (h : p) : Aside0 p := ⟨h⟩
theorem dn {p : Prop} (h : p := by repeat (first | exact Drawn0.refl _ | apply Drawn0.step)) : p := h
theorem nx {p : Prop} (h : p := by first | exact Kd.R_nil _ _ _ _ _ | exact Kd.N_nil _ _ _ _ _ | exact Kd.V_nil _ _ _ _ _ | exact Kd.Q_nil _ _ _ _ _ | exact Kd.S_nil _ _ _ _ _) : p := h
theorem dq {p : Prop} (h : p := by first | exact ⟨rfl, _, World.drewN_drewN _ _ _⟩ | exact ⟨rfl, _, Eq.trans (World.drewN_drewN _ _ _) (congrArg (World.drewN _) (Nat.add_assoc _ _ _))⟩) : p := h
theorem le_ {p : Prop} (h : p := by first | omega | exact Nat.le_refl _) : p := h
/-- A place within a text; within a row. -/
theorem zi (i : Int) (h : decide (0 ≤ i) = true := by assumption) : 0 ≤ i := of_decide_eq_true h
theorem zj (i n : Int) (h : decide (i < n) = true := by assumption) : i < n := of_decide_eq_true h
theorem tt {p q : Prop} (h : p) (k : q) : (p = True) ∧ (q = True) := ⟨eq_true h, eq_true k⟩
theorem bx (s : ByteArray) (i : Int) (h : decide (0 ≤ i) = true := by assumption) (k : decide (i < (s.size : Int)) = true := by assumption) : ((0 ≤ i) = True) ∧ ((i < (s.size : Int)) = True) ∧ ∀ h : i.toNat < s.size, ((s[i.toNat]'h).toNat : Int) = bt s i := ⟨eq_true (of_decide_eq_true h), eq_true (of_decide_eq_true k), bt_at s i⟩
theorem cl {w w' : World} {a : Addr} {v : Value} (hb : Below w.heap.size w w') (h : w.cell? a = some v) : w'.cell? a = some v := pw_cell_below hb h
/-- A fact on a row in the world behind. -/
theorem cu {α : Type} {d : Kd α} {a b : World} {A : Option Addr} {n : Nat} {xs : List α} [u : Up a b] (h : Kd.C d a A n xs) : Kd.C d b A n xs := Kd.C_below h u.up
theorem bs {w a b c : World} [u : Up a b] (h : Aside0 (Below w.heap.size w a)) (hb : Below b.heap.size b c) : Aside0 (Below w.heap.size w c) := ⟨below_step (ul h.out) hb⟩
theorem ge_ {w a W : World} {g : Nat} [u : Up a W] (h : Aside0 (Below w.heap.size w a)) (hg : g = W.heap.size) : Aside0 (w.heap.size ≤ g) := ⟨by rw [hg]; exact below_size (ul h.out)⟩
theorem rb {α : Type} {d : Kd α} {e : Nat} {a b c : World} {base : Nat} {ok : Nat → Prop} {v : Value} {xs : List α} [u : Up a b] (h : Aside0 (Kd.R d e a base ok v xs)) (hb : Below b.heap.size b c) : Aside0 (Kd.R d e c base ok v xs) := ⟨Kd.R_below (ur h.out) hb⟩
theorem kb {a b c : World} {g : Nat} {o : Obj} [u : Up a b] (h : Aside0 (a.heap[g]? = some o)) (hb : Below b.heap.size b c) : Aside0 (c.heap[g]? = some o) := ⟨blk_below (ub h.out) hb⟩
section
variable {P : Program} {ops : Array Oper} {o : Oper} {rest : List Oper} {a : Act} {Q : Exit → Act → World → Prop}
/-- A call in a plain region. -/
theorem gL (f N : Nat) {fn : Func} (hf : P.funcs[f]? = some fn) (args : Array Value) {as : Array Operand} {ts : Array TypeId} {w : World} (h : Calls P f args w fun e w' => ∃ v, e = .returned v ∧ wpList P ops Q rest (a.put (some N) v) w')
  (hop : o.op = .call { callee := .value (.func f), args := as, argTypes := ts } := by with_reducible rfl) (hd : o.dst = some N := by with_reducible rfl) (hg : o.guard = none := by with_reducible rfl) (hname : (fn.name == "runtime.NumGoroutine") = false := by kernel_rfl) (hb : fn.body.isSome = true := by rfl)
  (hargs : as.map a.eval = args := by (try simp only [List.map_toArray, List.map_cons, List.map_nil]); first | done | rfl | (simp only [List.length_drop, List.length_take]; rfl)) : wpList P ops Q (o :: rest) a w := goesL_ (some N) hd hg hf hname hb args hop hargs h
/-- A box made. -/
theorem bE (N : Nat) {W : World} (cs : Array Value) (t : TypeId) (h : ∀ g, g = W.heap.size → ∀ w1, w1.heap[g]? = some (.cells cs t (0, 0)) → Below W.heap.size W w1 → wpList P ops Q rest (a.put o.dst (.pointer (some ⟨g, 0, none⟩))) w1)
  (hd : o.dst = some N := by with_reducible rfl) (hg : o.guard = none := by with_reducible rfl) (hr : (execOp a.eval o).run P W = .ok (.value (.pointer (some ⟨W.heap.size, 0, none⟩))) (W.alloc (.cells cs t (0, 0))) := by first | (go_simp; done) | (go_simp; rfl)) : wpList P ops Q (o :: rest) a W := box_event hg hd hr h
end
section
variable {P : Program} {ops : Array Oper} {Q : Exit → Act → World → Prop} {S : World → Prop}
/-- May the operations come in this order, those of ls each alone? -/
def ordL (ops : Array Oper) (ls : List Nat) : Array Bool → List Nat → Bool
 | l, [] => Region.ready .any ops l == []
 | l, i :: is => (match ops[i]? with
  | some _ => if ls.contains i then Region.ready .any ops l == [i] else Region.free .any ops l i && (Region.ready .any ops l).contains i && Region.closedB .any ops l
  | none => false) && ordL ops ls (l.setIfInBounds i true) is
def wpO (P : Program) (ops : Array Oper) (Q : Exit → Act → World → Prop) (S : World → Prop) (ls : List Nat) : List Nat → Act → World → Prop
 | [], a, w => Q .normal a w
 | i :: is, a, w => ∃ o, ops[i]? = some o ∧ ((ls.contains i = false ∧ ∃ v, YieldsIf P ops S o v a ∧ wpO P ops Q S ls is (a.put o.dst v) w) ∨
   (ls.contains i = true ∧ ∀ K : Act → World → Prop, Shut (∀ a' w', S w' → wpO P ops Q S ls is a' w' → K a' w') → if Region.wanted o (yielded ops a.tmps) = true then Oper.wp P o a w K Q else K (a.put o.dst undef) w))
theorem wpO_sound {ls : List Nat} (hs : Region.noSelect ops = true) (hQ : ∀ c a d v w, Q (.panic c) (Act.put a d v) w → Q (.panic c) a w) : ∀ (is : List Nat) (l : Array Bool) (a : Act) (w : World), ordL ops ls l is = true → S w → wpO P ops Q S ls is a w → wpAnyLast P .any ops Q S [] is.length l a w
 | [], l, a, w, hc, _, h => wpAnyLast_done (by simpa [ordL] using hc) h 0
 | i :: is, l, a, w, hc, hS, h => by
  obtain ⟨o, ho, h⟩ := h
  simp only [ordL, ho, Bool.and_eq_true] at hc
  obtain ⟨hc, hr⟩ := hc
  rcases h with ⟨hq, v, hy, h⟩ | ⟨hq, h⟩
  ·
   rw [hq] at hc
   simp only [Bool.false_eq_true, if_false, Bool.and_eq_true] at hc
   obtain ⟨⟨h1, h2⟩, h3⟩ := hc
   exact wpAnyLast_take ho hs h1 h2 h3 (by simp [Region.lastB]) (fun c a' w' h' => hQ c a' _ _ w' h') hy hS (wpO_sound hs hQ is _ _ _ hr hS h)
  ·
   rw [hq] at hc
   simp only [if_true] at hc
   exact wpAnyLast_ready (by simpa using hc) (by simp) (AllReadyL.cons ho (by simp) (fun K hK => h K (fun a' w' hS' h' => hK a' w' hS' (fun hS'' => wpO_sound hs hQ is _ _ _ hr hS'' h'))) AllReadyL.nil)
def regO (ops : Array Oper) (ls is : List Nat) : Bool := Region.noSelect ops && (is.length == ops.size) && ordL ops ls (Array.replicate ops.size false) is
/-- A region whose order is drawn, its operations in the order is; those of ls run alone. -/
theorem ro {id : Nat} {a : Act} {w : World} (ls is : List Nat) (S : World → Prop) (hS : S w.drew) (h : wpO P ops Q S ls is a w.drew) (hm : P.follows .mixedOrders = true := by kernel_rfl) (hc : regO ops ls is = true := by kernel_rfl)
  (hQ : ∀ c a d v w, Q (.panic c) (Act.put a d v) w → Q (.panic c) a w := by exact fun _ _ d _ _ h => by cases d <;> exact h) : (Code.region id ops true).wp P Q a w := by
 simp only [regO, Bool.and_eq_true, beq_iff_eq] at hc
 obtain ⟨⟨h1, h2⟩, h3⟩ := hc
 refine wp_region_last (S := S) (ds := []) hm ?_
 have := wpO_sound h1 hQ is _ a w.drew h3 hS h
 rwa [h2] at this
theorem on {ls : List Nat} {a : Act} {w : World} (h : Q .normal a w) : wpO P ops Q S ls [] a w := h
/-- One that looks. -/
theorem lk {ls : List Nat} {i : Nat} {is : List Nat} {o : Oper} {v : Value} {a : Act} {w : World} (ho : ops[i]? = some o) (hl : ls.contains i = false) (hw : Region.wanted o (yielded ops a.tmps) = true) (hy : ∀ w', S w' → (execOp a.eval o).run P w' = .ok (.value v) w') {a' : Act} (ha : a.put o.dst v = a') (h : wpO P ops Q S ls is a' w) : wpO P ops Q S ls (i :: is) a w := by
 subst ha
 exact ⟨o, ho, .inl ⟨hl, v, .inl ⟨hw, hy⟩, h⟩⟩
theorem lf {ls : List Nat} {i : Nat} {is : List Nat} {o : Oper} {a : Act} {w : World} (ho : ops[i]? = some o) (hl : ls.contains i = false) (hw : Region.wanted o (yielded ops a.tmps) = false) {a' : Act} (ha : a.put o.dst undef = a') (h : wpO P ops Q S ls is a' w) : wpO P ops Q S ls (i :: is) a w := by
 subst ha
 exact ⟨o, ho, .inl ⟨hl, undef, .inr ⟨hw, rfl⟩, h⟩⟩
/-- One that runs alone. -/
theorem ld {ls : List Nat} {i : Nat} {is : List Nat} {o : Oper} {a : Act} {w : World} {N : Option Tmp} (ho : ops[i]? = some o) (hl : ls.contains i = true) (hN : o.dst = N) (h : ∀ K : Act → World → Prop, Shut (∀ a' w', S w' → wpO P ops Q S ls is a' w' → K a' w') → if Region.wanted o (yielded ops a.tmps) = true then Oper.wp P o a w K Q else K (a.put N undef) w) : wpO P ops Q S ls (i :: is) a w := by
 subst hN
 exact ⟨o, ho, .inr ⟨hl, h⟩⟩
/-- The act written out. -/
theorem no {ls is : List Nat} {a a' : Act} {w : World} (ha : a = a') (h : wpO P ops Q S ls is a' w) : wpO P ops Q S ls is a w := by
 subst ha
 exact h
end
theorem gk {α : Type} {l : List α} {i : Nat} : l.toArray[i]? = l[i]? := List.getElem?_toArray
end Go.Proofs.YtncdadcmghglkaaGreatDoor.X
