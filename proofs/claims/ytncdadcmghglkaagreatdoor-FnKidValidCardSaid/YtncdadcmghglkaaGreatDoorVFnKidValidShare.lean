-- PRINTED BY print.sh 35421559b90ae4d0a3588c463048766b98c2df88dd9212a6774a882060cdf62d: not written by this session
import Derived.Test.YtncdadcmghglkaaGreatDoorVFnKidValidKept
/-! ### 46. Values that share: what is only read, with the blocks it lies in (its footprint 'ok'): Foot, F (a row that is read), FK (an element's cells) -/
-- dense
namespace Go.Proofs.YtncdadcmghglkaaGreatDoorW.bI
open Go.RowKit
/-- P holds in W and in every world that has W's blocks of ok. -/
def BR (P : World → Prop) (W : World) (ok : Nat → Prop) : Prop := ∀ W' : World, (∀ k, ok k → k < W.heap.size → W'.heap[k]? = W.heap[k]?) → P W'
theorem ai5 {W W1 : World} {k : Nat} (h : W1.heap[k]? = W.heap[k]?) (hlt : k < W.heap.size) : k < W1.heap.size := by
 rw [Array.getElem?_eq_getElem hlt] at h
 exact (Array.getElem?_eq_some_iff.1 h).1
namespace BR
variable {P Q : World → Prop} {W W1 : World} {ok ok' : Nat → Prop}
theorem now (h : BR P W ok) : P W := h W (fun _ _ _ => rfl)
theorem mono (h : BR P W ok) (hok : ∀ k, ok k → ok' k) : BR P W ok' := fun W' hW => h W' (fun k hk hlt => hW k (hok k hk) hlt)
theorem bound (h : BR P W ok) : BR P W (fun k => ok k ∧ k < W.heap.size) := fun W' hW => h W' (fun k hk hlt => hW k ⟨hk, hlt⟩ hlt)
theorem step (h : BR P W ok) (hm : ∀ k, ok k → k < W.heap.size → W1.heap[k]? = W.heap[k]?) : BR P W1 ok := fun W' hW => h W' (fun k hk hlt => (hW k hk (ai5 (hm k hk hlt) hlt)).trans (hm k hk hlt))
theorem imp (h : BR P W ok) (hi : ∀ W', P W' → Q W') : BR Q W ok := fun W' hW => hi W' (h W' hW)
/-- Moved, and still elder than what is new since W. -/
theorem old (h : BR P W ok) (hb : Below W.heap.size W W1) : BR P W1 (fun k => ok k ∧ k < W.heap.size) := (h.bound).step (fun k _ hlt => hb.block k hlt)
end BR
namespace Kd
/-- A row that is only read: what it leads to lies in ok. -/
def F {α : Type} (d : Kd α) (W : World) (ok : Nat → Prop) (A : Option Addr) (n : Nat) (xs : List α) : Prop := BR (fun W => d.C W A n xs) W ok
/-- An element's cells: what they lead to lies in ok. -/
def FK {α : Type} (d : Kd α) (W : World) (ok : Nat → Prop) (x : α) (c : List Value) : Prop := BR (fun W => d.K W x c) W ok
section
variable {α β : Type} {d : Kd α} {e base n n' cc g N : Nat} {ok ok' wE S : Nat → Prop} {w w0 w1 W W1 : World} {A A' : Option Addr} {u v v1 : Value} {xs : List α} {xs' : List β} {d' : Kd β} {x : α} {c : List Value}
theorem awV (h : F d W ok A n xs) : d.C W A n xs := BR.now h
theorem Y3 (h : F d W ok A n xs) (hok : ∀ k, ok k → ok' k) : F d W ok' A n xs := BR.mono h hok
theorem ai6 (h : F d W ok A n xs) : F d W (fun k => ok k ∧ k < W.heap.size) A n xs := BR.bound h
theorem agI (h : F d W ok A n xs) (hm : ∀ k, ok k → k < W.heap.size → W1.heap[k]? = W.heap[k]?) : F d W1 ok A n xs := BR.step h hm
theorem awZ (h : F d W ok A n xs) (hi : ∀ W', d.C W' A n xs → d'.C W' A' n' xs') : F d' W ok A' n' xs' := BR.imp h hi
theorem PD (h : F d W ok A n xs) (hb : Below W.heap.size W W1) : F d W1 ok A n xs := agI h (fun k _ hlt => hb.block k hlt)
theorem ai0 (h : F d W ok A n xs) (o : Obj) : F d (W.alloc o) ok A n xs := PD h (mO (Below.refl _ _) o)
theorem ao6 (h : F d W ok A n xs) : F d W.drew ok A n xs := PD h (Et (Below.refl _ _))
theorem ai1 (h : F d W ok A n xs) (m : Nat) : F d (W.drewN m) ok A n xs := PD h (pq (Below.refl _ _) m)
theorem awY (h : F d W ok A n xs) {p : Addr} (hok : ∀ k, ok k → k ≠ p.block) (u : Value) : F d (W.setCell p u) ok A n xs := agI h (fun k hk _ => Below.heap_setCell W p u k (hok k hk))
theorem awX (d : Kd α) (W : World) (ok : Nat → Prop) : F d W ok none ([] : List α).length [] := fun W' _ => aw6 d W'
/-- A new row's block is none of an elder one's. -/
theorem agD (h : F d W ok A n xs) (hbase : ∀ k, v.ownBlock = some k → W.heap.size ≤ k) (hb : Below W.heap.size W W1) : F d W1 (fun k => ok k ∧ some k ≠ v.ownBlock) A n xs :=
 Y3 (BR.old h hb) (fun k hk => ⟨hk.1, fun he => by have := hbase k he.symm; have := hk.2; omega⟩)
/-- Behind an append to v (it left v1): what lies apart from v lies apart from v1. -/
theorem ai3 (h : F d W (fun k => ok k ∧ some k ≠ v.ownBlock) A n xs) (hg : W.grownBy W1 v.ownBlock) (hat : v1.ownBlock = v.ownBlock ∨ ∃ b, v1.ownBlock = some b ∧ W.heap.size ≤ b) : F d W1 (fun k => ok k ∧ some k ≠ v1.ownBlock) A n xs := by
 refine Y3 (BR.step (ai6 h) (fun k hk hlt => hg.block k hlt hk.1.2)) (fun k hk => ⟨hk.1.1, ?_⟩)
 rcases hat with hat | ⟨b, hb, hle⟩
 ·
  rw [hat]; exact hk.1.2
 ·
  rw [hb]
  intro he
  injection he with he
  have := hk.2
  omega
theorem R_F (h : d.R e W base ok (.slice A n cc) xs) : F d W ok A n xs := fun W' hW => by
 have h2 := aH (VG h hW)
 rw [h2.1]
 exact h2.2.2
theorem ai4 (h : d.M W base ok x c) : FK d W ok x c := fun _ hW => d.n_ (agJ h hW)
end
end Kd
end Go.Proofs.YtncdadcmghglkaaGreatDoorW.bI
