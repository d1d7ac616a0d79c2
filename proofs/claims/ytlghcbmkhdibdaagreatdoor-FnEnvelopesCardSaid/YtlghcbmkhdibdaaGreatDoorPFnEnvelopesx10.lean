-- weak contracts of the draws
import Derived.Test.YtlghcbmkhdibdaaGreatDoorPFnEnvelopesx9
namespace Go.Proofs.YtlghcbmkhdibdaaGreatDoor.PFnEnvelopes
open Go.RowKit Go.Proofs.YtlghcbmkhdibdaaGreatDoorW.PrintWords Go.Proofs.YtlghcbmkhdibdaaGreatDoorW.PrintLast Go.Proofs.YtlghcbmkhdibdaaGreatDoorW.PrintMore
attribute [local go_sem] max2_int min2_int max_two min_two max_three min_three max_four min_four   -- for this text's walks alone
set_option linter.unusedVariables false
set_option linter.unusedSimpArgs false
set_option maxHeartbeats 8000000
set_option maxRecDepth 100000
inductive Kn | y | t (n : Nat) | e (n : Nat) | g | gl | m | b
 deriving DecidableEq
def Kn.ty : Kn → Nat | .y => 5 | .t _ => 9 | .e _ => 91 | .g => 49 | .gl => 49 | .m => 56 | .b => 53
def Kn.mx : Kn → Nat | .g => 3 | .m => 11 | .b => 6 | _ => 64
def Kn.sz : Kn → Nat | .y => 1 | .t _ => 1 | .e _ => 1 | .g => 2 | .gl => 2 | .m => 2 | .b => 3
abbrev Gh := Nat → Option (Kn × Nat)
def SR (κ : Gh) (e : Kn) (A : Option Addr) (n c : Nat) : Prop := (A = none ∧ n = 0 ∧ c = 0) ∨ ∃ b, A = some ⟨b, 0, none⟩ ∧ κ b = some (e, c) ∧ n ≤ c
def SV (κ : Gh) (e : Kn) (v : Value) : Prop := ∃ A n c, v = .slice A n c ∧ n ≤ e.mx ∧ SR κ e A n c
def trl (s : ByteArray) : Prop := s.data.toList = [77, 83, 84] ∨ s.data.toList = [71, 82, 84] ∨ s.data.toList = [73, 88, 84]
instance (s : ByteArray) : Decidable (trl s) := inferInstanceAs (Decidable (_ ∨ _ ∨ _))
def nb (n : Int) : Prop := 0 ≤ n ∧ n ≤ 10000000
def EL (κ : Gh) : Kn → List Value → Prop
 | .y, cs => ∃ n : Int, cs = [.int .u8 n] ∧ 0 ≤ n ∧ n < 256
 | .t m, cs => ∃ s : ByteArray, cs = [.string s] ∧ s.size ≤ m
 | .e m, cs => ∃ v, cs = [v] ∧ SV κ (.t m) v
 | .g, cs => ∃ (s : ByteArray) (v : Value), cs = [.string s, v] ∧ s.size ≤ 4096 ∧ ¬ trl s ∧ SV κ (.e 4096) v
 | .gl, cs => ∃ (s : ByteArray) (v : Value), cs = [.string s, v] ∧ s.size ≤ 4096 ∧ (SV κ (.e 12) v ∨ SV κ (.e 4096) v ∧ ¬ trl s)
 | .m, cs => ∃ (n : Int) (v : Value), cs = [.int .i64 n, v] ∧ nb n ∧ SV κ .g v
 | .b, cs => ∃ (k n : Int) (v : Value), cs = [.int .i64 k, .int .i64 n, v] ∧ nb k ∧ nb n ∧ SV κ .m v
def Ext (κ κ' : Gh) : Prop := ∀ k x, κ k = some x → κ' k = some x
section
variable {κ κ' κ2 : Gh} {e : Kn} {A : Option Addr} {n c : Nat} {v : Value} {cs : List Value}
theorem Ext.refl (κ : Gh) : Ext κ κ := fun _ _ h => h
theorem Ext.trans (h : Ext κ κ') (h2 : Ext κ' κ2) : Ext κ κ2 := fun k x hk => h2 k x (h k x hk)
theorem SR.ext (h : SR κ e A n c) (hx : Ext κ κ') : SR κ' e A n c := by
 rcases h with h | ⟨b, h1, h2, h3⟩
 ·exact .inl h
 ·exact .inr ⟨b, h1, hx _ _ h2, h3⟩
theorem SV.ext (h : SV κ e v) (hx : Ext κ κ') : SV κ' e v := by
 obtain ⟨A, n, c, h1, h2, h3⟩ := h
 exact ⟨A, n, c, h1, h2, h3.ext hx⟩
theorem SV.nil (κ : Gh) (e : Kn) : SV κ e (.slice none 0 0) := ⟨none, 0, 0, rfl, Nat.zero_le _, .inl ⟨rfl, rfl, rfl⟩⟩
theorem SR.mk (h : SR κ e A n c) (hn : n ≤ e.mx) : SV κ e (.slice A n c) := ⟨A, n, c, rfl, hn, h⟩
theorem SR.cut (h : SR κ e A n c) {m : Nat} (hm : m ≤ n) : SR κ e A m c := by
 rcases h with ⟨h1, h2, h3⟩ | ⟨b, h1, h2, h3⟩
 ·exact .inl ⟨h1, by omega, h3⟩
 ·exact .inr ⟨b, h1, h2, by omega⟩
theorem SR.le (h : SR κ e A n c) : n ≤ c := by
 rcases h with ⟨h1, h2, h3⟩ | ⟨b, h1, h2, h3⟩ <;> omega
theorem EL.ext (h : EL κ e cs) (hx : Ext κ κ') : EL κ' e cs := by
 cases e
 ·exact h
 ·exact h
 ·obtain ⟨v, h1, h2⟩ := h
  exact ⟨v, h1, h2.ext hx⟩
 ·obtain ⟨s, v, h1, h2, h3, h4⟩ := h
  exact ⟨s, v, h1, h2, h3, h4.ext hx⟩
 ·obtain ⟨s, v, h1, h2, h3⟩ := h
  exact ⟨s, v, h1, h2, h3.imp (fun h => h.ext hx) (fun h => ⟨h.1.ext hx, h.2⟩)⟩
 ·obtain ⟨s, v, h1, h2, h3⟩ := h
  exact ⟨s, v, h1, h2, h3.ext hx⟩
 ·obtain ⟨s, t, v, h1, h2, h3, h4⟩ := h
  exact ⟨s, t, v, h1, h2, h3, h4.ext hx⟩
theorem EL.len (h : EL κ e cs) : cs.length = e.sz := by
 cases e
 ·obtain ⟨v, rfl, _⟩ := h; rfl
 ·obtain ⟨v, rfl, _⟩ := h; rfl
 ·obtain ⟨v, rfl, _⟩ := h; rfl
 ·obtain ⟨s, v, rfl, _⟩ := h; rfl
 ·obtain ⟨s, v, rfl, _⟩ := h; rfl
 ·obtain ⟨s, v, rfl, _⟩ := h; rfl
 ·obtain ⟨s, t, v, rfl, _⟩ := h; rfl
theorem EL.one (h : EL κ e cs) : ∀ u ∈ cs, u.oneCell' = true := by
 cases e
 ·obtain ⟨v, rfl, _⟩ := h; simp [Value.oneCell']
 ·obtain ⟨v, rfl, _⟩ := h; simp [Value.oneCell']
 ·obtain ⟨v, rfl, _, _, _, rfl, _⟩ := h; simp [Value.oneCell']
 ·obtain ⟨s, v, rfl, _, _, _, _, _, rfl, _⟩ := h; simp [Value.oneCell']
 ·obtain ⟨s, v, rfl, _, ⟨_, _, _, rfl, _⟩ | ⟨⟨_, _, _, rfl, _⟩, _⟩⟩ := h <;> simp [Value.oneCell']
 ·obtain ⟨s, v, rfl, _, _, _, _, rfl, _⟩ := h; simp [Value.oneCell']
 ·obtain ⟨s, t, v, rfl, _, _, _, _, _, rfl, _⟩ := h; simp [Value.oneCell']
theorem nt_nil : ¬ trl (⟨#[]⟩ : ByteArray) := by decide
end
def Kn.z : Kn → List Value | .y => [.int .u8 0] | .t _ => [.string ⟨#[]⟩] | .e _ => [.slice none 0 0] | .g => [.string ⟨#[]⟩, .slice none 0 0] | .gl => [.string ⟨#[]⟩, .slice none 0 0] | .m => [.int .i64 0, .slice none 0 0] | .b => [.int .i64 0, .int .i64 0, .slice none 0 0]
theorem EL.z (κ : Gh) (e : Kn) : EL κ e e.z := by
 have h0 : nb 0 := ⟨by omega, by omega⟩
 cases e
 ·exact ⟨_, rfl, by decide, by decide⟩
 ·exact ⟨_, rfl, Nat.zero_le _⟩
 ·exact ⟨_, rfl, SV.nil _ _⟩
 ·exact ⟨_, _, rfl, by decide, nt_nil, SV.nil _ _⟩
 ·exact ⟨_, _, rfl, by decide, .inl (SV.nil _ _)⟩
 ·exact ⟨_, _, rfl, h0, SV.nil _ _⟩
 ·exact ⟨_, _, _, rfl, h0, h0, SV.nil _ _⟩
theorem fl_len {s : Nat} : ∀ {xs : List (List Value)}, (∀ x ∈ xs, x.length = s) → xs.flatten.length = xs.length * s
 | [], _ => by simp
 | x :: xs, h => by
  rw [List.flatten_cons, List.length_append, fl_len (fun y hy => h y (List.mem_cons_of_mem _ hy)), h x List.mem_cons_self, List.length_cons, Nat.add_mul, Nat.one_mul, Nat.add_comm]
theorem fl_split {s : Nat} {xs : List (List Value)} (h : ∀ x ∈ xs, x.length = s) {i : Nat} (hi : i < xs.length) : xs.flatten = (xs.take i).flatten ++ (xs[i] ++ (xs.drop (i + 1)).flatten) ∧ (xs.take i).flatten.length = i * s := by
 constructor
 ·rw [← List.flatten_cons, ← List.flatten_append, ← List.drop_eq_getElem_cons hi, List.take_append_drop]
 ·rw [fl_len (fun x hx => h x (List.mem_of_mem_take hx)), List.length_take, Nat.min_eq_left (by omega)]
theorem fl_take {s : Nat} {xs : List (List Value)} (h : ∀ x ∈ xs, x.length = s) {i : Nat} (hi : i ≤ xs.length) : xs.flatten.take (i * s) = (xs.take i).flatten := by
 have h1 : (xs.take i).flatten.length = i * s := by rw [fl_len (fun x hx => h x (List.mem_of_mem_take hx)), List.length_take, Nat.min_eq_left hi]
 have h2 : xs.flatten = (xs.take i).flatten ++ (xs.drop i).flatten := by rw [← List.flatten_append, List.take_append_drop]
 rw [h2, ← h1, List.take_left]
theorem fl_drop {s : Nat} {xs : List (List Value)} (h : ∀ x ∈ xs, x.length = s) {i : Nat} (hi : i ≤ xs.length) : xs.flatten.drop (i * s) = (xs.drop i).flatten := by
 have h1 : (xs.take i).flatten.length = i * s := by rw [fl_len (fun x hx => h x (List.mem_of_mem_take hx)), List.length_take, Nat.min_eq_left hi]
 have h2 : xs.flatten = (xs.take i).flatten ++ (xs.drop i).flatten := by rw [← List.flatten_append, List.take_append_drop]
 rw [h2, ← h1, List.drop_left]
theorem fl_get {s : Nat} {xs : List (List Value)} (h : ∀ x ∈ xs, x.length = s) {i j : Nat} (hi : i < xs.length) (hj : j < s) : xs.flatten[i * s + j]? = xs[i][j]? := by
 obtain ⟨h1, h2⟩ := fl_split h hi
 have h3 := h xs[i] (List.getElem_mem hi)
 rw [h1, List.getElem?_append_right (by omega), h2, Nat.add_sub_cancel_left, List.getElem?_append_left (by omega)]
theorem fl_set {s : Nat} {xs : List (List Value)} (h : ∀ x ∈ xs, x.length = s) {i j : Nat} (hi : i < xs.length) (hj : j < s) (u : Value) : xs.flatten.set (i * s + j) u = (xs.set i (xs[i].set j u)).flatten := by
 obtain ⟨h1, h2⟩ := fl_split h hi
 have h3 := h xs[i] (List.getElem_mem hi)
 rw [show xs.set i (xs[i].set j u) = xs.take i ++ (xs[i].set j u :: xs.drop (i + 1)) by rw [List.set_eq_take_append_cons_drop, if_pos hi], List.flatten_append, List.flatten_cons, h1, List.set_append_right _ _ (by omega), h2, Nat.add_sub_cancel_left, List.set_append_left _ _ (by omega)]
def TB (κ : Gh) (e : Kn) (c : Nat) (cs : Array Value) : Prop := ∃ xs : List (List Value), cs = xs.flatten.toArray ∧ xs.length = c ∧ ∀ x ∈ xs, EL κ e x
def SX (w0 W : World) (g : Nat) (b : List Int) : Prop := ∃ (A : Option Addr) (c : Nat) (p mix size : Int), W.heap[g]? = some (.cells #[.slice A b.length c, .int .i64 p, .int .u64 mix, .int .i64 size] 104 (0, 0)) ∧ w0.heap.size ≤ g ∧ Kd.C (Kd.int .u8) w0 A b.length b ∧ 0 ≤ p ∧ p ≤ (b.length : Int)
def HX (w0 W : World) (g : Nat) (b : List Int) (κ : Gh) (l : List (Nat × List Value × Nat)) : Prop :=
 SX w0 W g b ∧ Below w0.heap.size w0 W ∧ b.length ≤ 1048576 ∧ (∀ k e c, κ k = some (e, c) → k ≠ g ∧ w0.heap.size ≤ k ∧ c ≤ 9223372036854775807 ∧ (∀ p ∈ l, p.1 ≠ k) ∧ ∃ cs, W.heap[k]? = some (.cells cs e.ty (0, 0)) ∧ TB κ e c cs) ∧
  (∀ p ∈ l, p.1 ≠ g ∧ w0.heap.size ≤ p.1 ∧ W.heap[p.1]? = some (.cells p.2.1.toArray p.2.2 (0, 0))) ∧ (l.map (·.1)).Nodup
section
variable {w0 W W1 : World} {g : Nat} {b : List Int} {κ κ' : Gh} {l l' : List (Nat × List Value × Nat)} {e : Kn} {A : Option Addr} {n c : Nat}
theorem SX.move (h : SX w0 W g b) (hb : W1.heap[g]? = W.heap[g]?) : SX w0 W1 g b := by
 obtain ⟨A, c, p, mix, size, h1, h2⟩ := h
 exact ⟨A, c, p, mix, size, hb.trans h1, h2⟩
theorem SX.lt (h : SX w0 W g b) : g < W.heap.size := by
 obtain ⟨A, c, p, mix, size, h1, _⟩ := h
 exact blk_lt h1
theorem HX.step (h : HX w0 W g b κ l) (hs : SX w0 W1 g b) (hB : Below w0.heap.size w0 W1) (hk : ∀ k, k < W.heap.size → k ≠ g → W1.heap[k]? = W.heap[k]?) : HX w0 W1 g b κ l := by
 obtain ⟨h1, h2, h3, h4, h5, h6⟩ := h
 refine ⟨hs, hB, h3, fun k e c hc => ?_, fun p hp => ?_, h6⟩
 ·obtain ⟨a1, a2, a3, a4, cs, a5, a6⟩ := h4 k e c hc
  exact ⟨a1, a2, a3, a4, cs, (hk k (blk_lt a5) a1).trans a5, a6⟩
 ·obtain ⟨a1, a2, a3⟩ := h5 p hp
  exact ⟨a1, a2, (hk p.1 (blk_lt a3) a1).trans a3⟩
theorem HX.call (h : HX w0 W g b κ l) (hs : SX w0 W1 g b) (hB : Below w0.heap.size w0 W1) (hk : KeepBut W W1 g none) : HX w0 W1 g b κ l := h.step hs hB (fun k h1 h2 => hk.2 k h1 h2 (by simp))
theorem HX.below (h : HX w0 W g b κ l) (hb : Below W.heap.size W W1) : HX w0 W1 g b κ l := h.step (h.1.move (hb.block g h.1.lt)) (below_step h.2.1 hb) (fun k h1 _ => hb.block k h1)
theorem HX.alloc (h : HX w0 W g b κ l) (o : Obj) : HX w0 (W.alloc o) g b κ l := h.below (below_alloc (Below.refl _ _) o)
theorem HX.drewN (h : HX w0 W g b κ l) (m : Nat) : HX w0 (W.drewN m) g b κ l := h.below (pw_below_drewN (Below.refl _ _) m)
theorem HX.drew (h : HX w0 W g b κ l) : HX w0 W.drew g b κ l := h.below (below_drew1 (Below.refl _ _))
theorem HX.sub (h : HX w0 W g b κ l) (hl : List.Sublist l' l) : HX w0 W g b κ l' := by
 obtain ⟨h1, h2, h3, h4, h5, h6⟩ := h
 refine ⟨h1, h2, h3, fun k e c hc => ?_, fun p hp => h5 p (hl.subset hp), h6.sublist (hl.map _)⟩
 obtain ⟨a1, a2, a3, a4, a5⟩ := h4 k e c hc
 exact ⟨a1, a2, a3, fun p hp => a4 p (hl.subset hp), a5⟩
theorem HX.tl {p : Nat × List Value × Nat} (h : HX w0 W g b κ (p :: l)) : HX w0 W g b κ l := h.sub (List.sublist_cons_self _ _)
theorem HX.klt (h : HX w0 W g b κ l) {k : Nat} {x : Kn × Nat} (hk : κ k = some x) : k < W.heap.size := by
 obtain ⟨_, _, _, _, cs, h5, _⟩ := h.2.2.2.1 k x.1 x.2 hk
 exact blk_lt h5
theorem HX.box (h : HX w0 W g b κ l) {gb : Nat} (hg : gb = W.heap.size) {cs : List Value} {ty : Nat} (hc : W1.heap[gb]? = some (.cells cs.toArray ty (0, 0))) (hb : Below W.heap.size W W1) : HX w0 W1 g b κ ((gb, cs, ty) :: l) := by
 obtain ⟨h1, h2, h3, h4, h5, h6⟩ := h.below hb
 have hz := h.2.1.size
 refine ⟨h1, h2, h3, fun k e c hc => ?_, fun p hp => ?_, ?_⟩
 ·obtain ⟨a1, a2, a3, a4, a5⟩ := h4 k e c hc
  have := h.klt hc
  exact ⟨a1, a2, a3, fun p hp => (List.mem_cons.1 hp).elim (fun q => by rw [q]; show gb ≠ k; omega) (a4 p), a5⟩
 ·rcases List.mem_cons.1 hp with rfl | hp
  ·have := h.1.lt
   exact ⟨by show gb ≠ g; omega, by show w0.heap.size ≤ gb; omega, hc⟩
  ·exact h5 p hp
 ·rw [List.map_cons, List.nodup_cons]
  refine ⟨fun hm => ?_, h6⟩
  obtain ⟨p, hp, he⟩ := List.mem_map.1 hm
  have := blk_lt (h.2.2.2.2.1 p hp).2.2
  omega
theorem HX.get (h : HX w0 W g b κ l) (i : Nat) {gb : Nat} {cs : List Value} {ty : Nat} (hi : l[i]? = some (gb, cs, ty)) : W.heap[gb]? = some (.cells cs.toArray ty (0, 0)) := (h.2.2.2.2.1 _ (List.mem_of_getElem? hi)).2.2
theorem HX.set (h : HX w0 W g b κ l) (i j : Nat) {gb : Nat} {cs : List Value} {ty : Nat} (hi : l[i]? = some (gb, cs, ty)) (u : Value) : HX w0 (W.setCell ⟨gb, j, none⟩ u) g b κ (l.set i (gb, cs.set j u, ty)) := by
 obtain ⟨h1, h2, h3, h4, h5, h6⟩ := h
 have hm := List.mem_of_getElem? hi
 obtain ⟨q1, q2, q3⟩ := h5 _ hm
 have hmap : (l.set i (gb, cs.set j u, ty)).map (·.1) = l.map (·.1) := by
  apply List.ext_getElem?
  intro a
  by_cases ha : i = a
  ·subst ha
   rw [List.getElem?_map, List.getElem?_map, List.getElem?_set_self (List.getElem?_eq_some_iff.1 hi).1, hi]
   rfl
  ·rw [List.getElem?_map, List.getElem?_map, List.getElem?_set_ne ha]
 have hmem : ∀ p ∈ l.set i (gb, cs.set j u, ty), ∃ q ∈ l, q.1 = p.1 := by
  intro p hp
  have : p.1 ∈ l.map (·.1) := hmap ▸ List.mem_map_of_mem hp
  obtain ⟨q, hq, he⟩ := List.mem_map.1 this
  exact ⟨q, hq, he⟩
 refine ⟨h1.move (Below.heap_setCell W ⟨gb, j, none⟩ u g (fun e => q1 e.symm)), below_set h2 q2, h3, fun k e c hc => ?_, fun p hp => ?_, by rw [hmap]; exact h6⟩
 ·obtain ⟨a1, a2, a3, a4, cs', a5, a6⟩ := h4 k e c hc
  refine ⟨a1, a2, a3, fun p hp => ?_, cs', (Below.heap_setCell W ⟨gb, j, none⟩ u k (fun e => a4 _ hm e.symm)).trans a5, a6⟩
  obtain ⟨q, hq, he⟩ := hmem p hp
  rw [← he]
  exact a4 q hq
 ·obtain ⟨a, ha⟩ := List.mem_iff_getElem?.1 hp
  by_cases hai : i = a
  ·subst hai
   rw [List.getElem?_set_self (List.getElem?_eq_some_iff.1 hi).1] at ha
   injection ha with ha
   subst ha
   refine ⟨q1, q2, ?_⟩
   have := blk_set q3 j u
   simpa using this
  ·rw [List.getElem?_set_ne hai] at ha
   have hp2 := List.mem_of_getElem? ha
   obtain ⟨a1, a2, a3⟩ := h5 p hp2
   refine ⟨a1, a2, (Below.heap_setCell W ⟨gb, j, none⟩ u p.1 (fun e => ?_)).trans a3⟩
   have e : p.1 = gb := e
   have hn := ((List.getElem?_inj (i := a) (j := i) (by simpa using (List.getElem?_eq_some_iff.1 ha).1) h6).1 (by rw [List.getElem?_map, List.getElem?_map, ha, hi]; simp [e]))
   exact hai hn.symm
end
theorem zero_fl (z : Array Value) (n : Nat) : (Builtin.zeroCells z n).toList = (List.replicate n z.toList).flatten := by
 apply List.ext_getElem?
 intro a
 rcases Nat.lt_or_ge a (n * z.size) with h | h
 ·have hz : 0 < z.size := Nat.pos_of_ne_zero fun h0 => by rw [h0] at h; omega
  have hm := Nat.mod_lt a hz
  have hd : a / z.size < (List.replicate n z.toList).length := by rw [List.length_replicate]; exact (Nat.div_lt_iff_lt_mul hz).2 h
  have e : a = a / z.size * z.size + a % z.size := by rw [Nat.mul_comm]; exact (Nat.div_add_mod a z.size).symm
  conv => rhs; rw [e]
  rw [fl_get (s := z.size) (fun x hx => by rw [(List.mem_replicate.1 hx).2]; simp) hd hm]
  simp [Builtin.zeroCells, h, Array.getElem?_eq_getElem hm, List.getElem_replicate, getElem!_pos, hm]
 ·rw [List.getElem?_eq_none (by simpa [Builtin.zeroCells] using h), List.getElem?_eq_none (by rw [fl_len (s := z.size) (fun x hx => by rw [(List.mem_replicate.1 hx).2]; simp), List.length_replicate]; exact h)]
def Gh.up (κ : Gh) (k : Nat) (x : Kn × Nat) : Gh := fun i => if i = k then some x else κ i
theorem TB.ext {κ κ' : Gh} {e : Kn} {c : Nat} {cs : Array Value} (h : TB κ e c cs) (hx : Ext κ κ') : TB κ' e c cs := by
 obtain ⟨xs, h1, h2, h3⟩ := h
 exact ⟨xs, h1, h2, fun x hm => (h3 x hm).ext hx⟩
section
variable {w0 W W1 : World} {g : Nat} {b : List Int} {κ κ' : Gh} {l l' : List (Nat × List Value × Nat)} {e : Kn} {A : Option Addr} {n c : Nat}
theorem HX.mod (h : HX w0 W g b κ l) {k : Nat} (hk : κ k = some (e, c)) {cs : Array Value} (hc : W1.heap[k]? = some (.cells cs e.ty (0, 0))) (ht : TB κ e c cs) (hB : Below w0.heap.size w0 W1) (ho : ∀ i, i < W.heap.size → i ≠ k → W1.heap[i]? = W.heap[i]?) : HX w0 W1 g b κ l := by
 obtain ⟨h1, h2, h3, h4, h5, h6⟩ := h
 obtain ⟨q1, q2, q3, q4, q5⟩ := h4 _ _ _ hk
 refine ⟨h1.move (ho g h1.lt (fun e => q1 e.symm)), hB, h3, fun k' e' c' hc' => ?_, fun p hp => ?_, h6⟩
 ·obtain ⟨a1, a2, a3, a4, cs', a5, a6⟩ := h4 k' e' c' hc'
  by_cases hkk : k' = k
  ·subst hkk
   rw [hk] at hc'
   injection hc' with hc'
   injection hc' with hc1 hc2
   subst hc1 hc2
   exact ⟨a1, a2, a3, a4, cs, hc, ht⟩
  ·exact ⟨a1, a2, a3, a4, cs', (ho k' (blk_lt a5) hkk).trans a5, a6⟩
 ·obtain ⟨a1, a2, a3⟩ := h5 p hp
  exact ⟨a1, a2, (ho p.1 (blk_lt a3) (q4 p hp)).trans a3⟩
theorem HX.up_ext (h : HX w0 W g b κ l) {k : Nat} (hk : W.heap.size ≤ k) (x : Kn × Nat) : Ext κ (κ.up k x) := by
 intro i y hi
 have := h.klt hi
 rw [Gh.up, if_neg (by omega), hi]
theorem HX.row (h : HX w0 W g b κ l) (hb : Below W.heap.size W W1) {k : Nat} (hk : W.heap.size ≤ k) {cs : Array Value} (hc : W1.heap[k]? = some (.cells cs e.ty (0, 0))) (ht : TB κ e c cs) (hm : c ≤ 9223372036854775807) : HX w0 W1 g b (κ.up k (e, c)) l := by
 have hx := h.up_ext hk (e, c)
 have hz := h.2.1.size
 have hg := h.1.lt
 have hv := h.2.2.2.2.1
 obtain ⟨h1, h2, h3, h4, h5, h6⟩ := h.below hb
 refine ⟨h1, h2, h3, fun k' e' c' hc' => ?_, h5, h6⟩
 rw [Gh.up] at hc'
 split at hc'
 ·rename_i hkk
  injection hc' with hc'
  injection hc' with hc1 hc2
  subst hc1 hc2 hkk
  exact ⟨by omega, by omega, hm, fun p hp => by have := blk_lt (hv p hp).2.2; omega, cs, hc, ht.ext hx⟩
 ·obtain ⟨a1, a2, a3, a4, cs', a5, a6⟩ := h4 k' e' c' hc'
  exact ⟨a1, a2, a3, a4, cs', a5, a6.ext hx⟩
theorem SR.up {κ : Gh} {k : Nat} (hn : n ≤ c) : SR (κ.up k (e, c)) e (some ⟨k, 0, none⟩) n c := .inr ⟨k, rfl, by rw [Gh.up, if_pos rfl], hn⟩
theorem HX.read (h : HX w0 W g b κ l) (hr : SR κ e A n c) {i : Nat} (hi : i < n) : ∃ ad x, A = some ad ∧ EL κ e x ∧ ∀ j u, x[j]? = some u → W.cell? (ad.add (i * e.sz + j)) = some u := by
 rcases hr with ⟨_, h2, _⟩ | ⟨k, rfl, hk, hnc⟩
 ·omega
 ·obtain ⟨_, _, _, _, cs, h5, xs, rfl, hxl, hxe⟩ := h.2.2.2.1 _ _ _ hk
  have hl : i < xs.length := by omega
  refine ⟨_, xs[i], rfl, hxe _ (List.getElem_mem hl), fun j u hu => ?_⟩
  have hj : j < e.sz := by rw [← (hxe _ (List.getElem_mem hl)).len]; exact (List.getElem?_eq_some_iff.1 hu).1
  rw [Addr.add_lit, blk_cell h5]
  simpa [fl_get (fun x hx => (hxe x hx).len) hl hj] using hu
theorem HX.put (h : HX w0 W g b κ l) (hr : SR κ e A n c) {i j : Nat} (hi : i < n) (hj : j < e.sz) (u : Value) (hu : ∀ x, EL κ e x → (∀ j u, x[j]? = some u → ∀ ad, A = some ad → W.cell? (ad.add (i * e.sz + j)) = some u) → EL κ e (x.set j u)) : ∃ k, A = some ⟨k, 0, none⟩ ∧ HX w0 (W.setCell ⟨k, i * e.sz + j, none⟩ u) g b κ l ∧ W.frozen? ⟨k, i * e.sz + j, none⟩ = false := by
 obtain ⟨ad, x, hA, hx, hcell⟩ := h.read hr hi
 rcases hr with ⟨_, h2, _⟩ | ⟨k, rfl, hk, hnc⟩
 ·omega
 ·obtain ⟨q1, q2, _, _, cs, h5, xs, rfl, hxl, hxe⟩ := h.2.2.2.1 _ _ _ hk
  have hl : i < xs.length := by omega
  refine ⟨k, rfl, h.mod hk (cs := ((xs.set i (xs[i].set j u)).flatten).toArray) ?_ ⟨_, rfl, by rw [List.length_set]; exact hxl, fun y hy => ?_⟩ (below_set h.2.1 q2) (fun a _ ha => Below.heap_setCell W ⟨k, i * e.sz + j, none⟩ u a ha), blk_frozen h5 _⟩
  ·rw [blk_set h5, ← fl_set (fun x hx => (hxe x hx).len) hl hj]
   simp
  ·rcases List.mem_or_eq_of_mem_set hy with hy | rfl
   ·exact hxe y hy
   ·refine hu _ (hxe _ (List.getElem_mem hl)) (fun j' u' hu' ad had => ?_)
    injection had with had
    have hj' : j' < e.sz := by rw [← (hxe _ (List.getElem_mem hl)).len]; exact (List.getElem?_eq_some_iff.1 hu').1
    rw [← had, Addr.add_lit, blk_cell h5]
    simpa [fl_get (fun x hx => (hxe x hx).len) hl hj'] using hu'
theorem HX.appn {P : Program} {V : World} (h1 : HX w0 V g b κ l) (hr : SR κ e A n c) {ys : List (List Value)} (hy : ∀ y ∈ ys, EL κ e y) {m : Nat} (hm : ys.length = m) (h0 : A = none → 0 < m) {a : Addr} {ca : Nat} (hnews : ∀ j u, ys.flatten[j]? = some u → V.cell? (a.add j) = some u) (t ty : TypeId) (z : Value) (bytes : Nat) (ht : P.underlying t = some (.slice e.ty)) (hinfo : (P.info? e.ty).map (fun i => (i.zero, i.size, i.bytes)) = some (some z, e.sz, bytes)) (hz : z.cells.toList = e.z) (hb0 : 0 < bytes) (hl : (n + m) * bytes ≤ 140737488355328) :
  ∃ A' c' w' κ', (Builtin.append_ #[t, t] ty #[.slice A n c, .slice (some a) m ca]).run P V = .ok (.slice A' (n + m) c') w' ∧ HX w0 w' g b κ' l ∧ Ext κ κ' ∧ SR κ' e A' (n + m) c' ∧ ∀ i, i < V.heap.size → (∀ a, A = some a → i ≠ a.block) → w'.heap[i]? = V.heap[i]? := by
 obtain ⟨i0, hi, hzz⟩ := Option.map_eq_some_iff.1 hinfo
 simp only [Prod.mk.injEq] at hzz
 obtain ⟨hz0, hz1, hz2⟩ := hzz
 have hlen : n + m ≤ 140737488355328 := Nat.le_trans (Nat.le_mul_of_pos_right _ hb0) hl
 have hyl : ∀ y ∈ ys, y.length = e.sz := fun y hm => (hy y hm).len
 have hys : ys.flatten.length = m * i0.size := by rw [hz1, fl_len hyl, hm]
 have hone : ∀ u ∈ ys.flatten, u.oneCell' = true := by
  intro u hu
  obtain ⟨y, h2, h3⟩ := List.mem_flatten.1 hu
  exact (hy y h2).one u h3
 have hzl : z.cells.size = e.sz := by rw [← (EL.z κ e).len, ← hz]; simp
 have hb : Below V.heap.size V V := Below.refl _ _
 -- a new row of so many elements ahead of the new ones
 have fresh : ∀ (xs : List (List Value)) (cap : Nat), (∀ x ∈ xs, EL κ e x) → xs.length = n → n + m ≤ cap → cap ≤ maxLen → HX w0 (V.drew.alloc (.cells (xs.flatten.toArray ++ ys.flatten.toArray ++ Builtin.zeroCells z.cells (cap - (n + m))) e.ty)) g b (κ.up V.heap.size (e, cap)) l := by
  intro xs cap hx hxl hcap hmx
  refine h1.row (below_alloc (below_drew1 (Below.refl _ _)) _) (Nat.le_refl _) (heap_alloc_new V.drew _) ⟨xs ++ ys ++ List.replicate (cap - (n + m)) e.z, ?_, ?_, ?_⟩ hmx
  ·apply Array.toList_inj.1
   simp [zero_fl, hz]
  ·simp [hxl]; omega
  ·intro x hm
   rcases List.mem_append.1 hm with hm | hm
   ·rcases List.mem_append.1 hm with hm | hm
    ·exact hx x hm
    ·exact hy x hm
   ·rw [(List.mem_replicate.1 hm).2]; exact EL.z _ _
 rcases hr with ⟨rfl, rfl, rfl⟩ | ⟨k, rfl, hk, hnc⟩
 ·have hr := run_append_nil (P := P) V t ty e.ty i0 z ht hi hz0 a m ca ys.flatten hys hnews (h0 rfl) (by omega) (by rw [hz2]; have := hl; rw [Nat.zero_add] at this; omega)
  have hc := grownCap_ge V m 0 e.ty
  refine ⟨some ⟨V.heap.size, 0, none⟩, _, _, _, by rw [Nat.zero_add]; exact hr, ?_, h1.up_ext (Nat.le_refl _) _, SR.up (by omega), fun i hi _ => (below_alloc (below_drew1 hb) _).block i hi⟩
  simpa using fresh [] _ (fun _ h => by simp at h) rfl (by omega) (grownCap_le_maxLen V m 0 e.ty (by simp only [maxLen]; omega))
 ·obtain ⟨q1, q2, q3, q4, cs, h5, xs, rfl, hxl, hxe⟩ := h1.2.2.2.1 _ _ _ hk
  have hls : ∀ x ∈ xs, x.length = e.sz := fun x hx => (hxe x hx).len
  by_cases hroom : n + m ≤ c
  ·have e2 : n * i0.size + ys.flatten.length = (n + m) * e.sz := by rw [hys, hz1, Nat.add_mul]
   have e1 : n * i0.size = n * e.sz := by rw [hz1]
   have hfit : n * i0.size + ys.flatten.length ≤ xs.flatten.toArray.size := by
    rw [e2, List.size_toArray, fl_len hls, hxl]
    exact Nat.mul_le_mul_right _ hroom
   have hr := run_append_room (P := P) V t ty e.ty i0 ht hi k n c _ h5 a m ca ys.flatten hys hnews hone hroom hfit
   refine ⟨_, _, _, κ, hr, ?_, Ext.refl _, .inr ⟨k, rfl, hk, hroom⟩, fun i hi hik => setRow_other _ _ _ _ (hik _ rfl)⟩
   refine h1.mod hk (cs := ((xs.take n ++ ys ++ xs.drop (n + m)).flatten).toArray) ?_ ⟨_, rfl, ?_, ?_⟩ ?_ (fun i _ hik => setRow_other _ _ _ _ hik)
   ·rw [setRow_heap _ _ _ _ _ _ h5, e2, e1]
    simp only [fl_take hls (show n ≤ xs.length by omega), fl_drop hls (show n + m ≤ xs.length by omega), List.flatten_append, List.append_assoc]
   ·simp; omega
   ·intro x hm
    rcases List.mem_append.1 hm with hm | hm
    ·rcases List.mem_append.1 hm with hm | hm
     ·exact hxe x (List.mem_of_mem_take hm)
     ·exact hy x hm
    ·exact hxe x (List.mem_of_mem_drop hm)
   ·exact ⟨h1.2.1.os, h1.2.1.tape, h1.2.1.output, by have := h1.2.1.size; simpa [World.setRow] using this, fun i hi => (setRow_other _ _ _ _ (by omega)).trans (h1.2.1.block i hi)⟩
  ·have hr := run_append_grow (P := P) V t ty e.ty i0 z ht hi hz0 ⟨k, 0, none⟩ n c (xs.take n).flatten (by rw [fl_len (fun x hx => hls x (List.mem_of_mem_take hx)), List.length_take, hz1, Nat.min_eq_left (by omega)]) (fun j u hu => by
    rw [Addr.add_lit, blk_cell h5]
    rw [← fl_take hls (show n ≤ xs.length by omega)] at hu
    obtain ⟨hj, hu⟩ := List.getElem?_eq_some_iff.1 hu
    rw [List.getElem_take] at hu
    simp only [List.getElem?_toArray, Nat.zero_add]
    rw [← hu]
    exact List.getElem?_eq_getElem _) a m ca ys.flatten hys hnews (by omega) (by omega) (growslice_fits (by omega) (by rw [hz2]; exact hl))
   have hc := grownCap_ge V (n + m) c e.ty
   exact ⟨_, _, _, _, hr, fresh (xs.take n) _ (fun x hx => hxe x (List.mem_of_mem_take hx)) (by rw [List.length_take]; omega) hc (grownCap_le_maxLen V (n + m) c e.ty (by simp only [maxLen]; omega)), h1.up_ext (Nat.le_refl _) _, SR.up hc, fun i hi _ => (below_alloc (below_drew1 hb) _).block i hi⟩
theorem HX.app {P : Program} (h : HX w0 W g b κ l) (hr : SR κ e A n c) {ys : List Value} (hy : EL κ e ys) (t ty : TypeId) (z : Value) (bytes : Nat) (ht : P.underlying t = some (.slice e.ty)) (hinfo : (P.info? e.ty).map (fun i => (i.zero, i.size, i.bytes)) = some (some z, e.sz, bytes)) (hz : z.cells.toList = e.z) (hb0 : 0 < bytes) (hl : (n + 1) * bytes ≤ 140737488355328) :
  ∃ A' c' w' κ', (Builtin.append_ #[t, t] ty #[.slice A n c, .slice (some ⟨W.heap.size, 0, none⟩) 1 1]).run P (W.alloc (.cells ys.toArray e.ty)) = .ok (.slice A' (n + 1) c') w' ∧ HX w0 w' g b κ' l ∧ Ext κ κ' ∧ SR κ' e A' (n + 1) c' ∧ ∀ i, i < W.heap.size → (∀ a, A = some a → i ≠ a.block) → w'.heap[i]? = W.heap[i]? := by
 obtain ⟨A', c', w', κ', h1, h2, h3, h4, h5⟩ := (h.alloc (.cells ys.toArray e.ty)).appn (P := P) hr (ys := [ys]) (fun y hm => by rw [List.mem_singleton.1 hm]; exact hy) rfl (fun _ => Nat.one_pos) (a := ⟨W.heap.size, 0, none⟩) (ca := 1) (by simpa using World.news_of_block (cs := ys.toArray) (t := e.ty) (fr := (0, 0)) (heap_alloc_new W (.cells ys.toArray e.ty))) t ty z bytes ht hinfo hz hb0 hl
 exact ⟨A', c', w', κ', h1, h2, h3, h4, fun i hi hik => (h5 i (by simp; omega) hik).trans (Below.heap_alloc W _ i hi)⟩
theorem HX.own (h : HX w0 W g b κ l) (hr : SR κ e A n c) : ∃ xs : List (List Value), W.ownsRow w0.heap.size e.ty e.sz (.slice A n c) n xs.flatten ∧ xs.length = n ∧ ∀ x ∈ xs, EL κ e x := by
 rcases hr with ⟨rfl, rfl, rfl⟩ | ⟨k, rfl, hk, hnc⟩
 ·exact ⟨[], World.ownsRow_nil W _ _ _, rfl, fun _ h => by simp at h⟩
 ·obtain ⟨_, q2, hm, _, cs, h5, xs, rfl, hxl, hxe⟩ := h.2.2.2.1 _ _ _ hk
  have hls : ∀ x ∈ xs, x.length = e.sz := fun x hx => (hxe x hx).len
  refine ⟨xs.take n, ⟨?_, .inr ⟨k, c, _, rfl, q2, h5, hnc, by simp only [maxLen]; omega, ?_, ?_⟩⟩, by rw [List.length_take]; omega, fun x hx => hxe x (List.mem_of_mem_take hx)⟩
  ·rw [fl_len (fun x hx => hls x (List.mem_of_mem_take hx)), List.length_take, Nat.min_eq_left (by omega)]
  ·rw [List.size_toArray, fl_len hls, hxl]
  ·rw [fl_take hls (by omega)]
theorem HX.elems (h : HX w0 W g b κ l) (hr : SR κ e A n c) : ∃ ys : List (List Value), ys.length = n ∧ (∀ y ∈ ys, EL κ e y) ∧ ((A = none ∧ n = 0 ∧ c = 0) ∨ ∃ a, A = some a ∧ ∀ i u, ys.flatten[i]? = some u → W.cell? (a.add i) = some u) := by
 rcases hr with ⟨rfl, rfl, rfl⟩ | ⟨k, rfl, hk, hnc⟩
 ·exact ⟨[], rfl, fun _ h => by simp at h, .inl ⟨rfl, rfl, rfl⟩⟩
 ·obtain ⟨_, _, _, _, cs, h5, xs, rfl, hxl, hxe⟩ := h.2.2.2.1 _ _ _ hk
  have hls : ∀ x ∈ xs, x.length = e.sz := fun x hx => (hxe x hx).len
  refine ⟨xs.take n, by rw [List.length_take]; omega, fun x hx => hxe x (List.mem_of_mem_take hx), .inr ⟨_, rfl, fun i u hu => ?_⟩⟩
  rw [Addr.add_lit, blk_cell h5]
  rw [← fl_take hls (show n ≤ xs.length by omega)] at hu
  obtain ⟨hj, hu⟩ := List.getElem?_eq_some_iff.1 hu
  rw [List.getElem_take] at hu
  simp only [List.getElem?_toArray, Nat.zero_add]
  rw [← hu]
  exact List.getElem?_eq_getElem _
theorem HX.apps {P : Program} {V : World} (h1 : HX w0 V g b κ l) {k : Nat} (hr : SR κ e (some ⟨k, 0, none⟩) n c) {ys : List (List Value)} (hy : ∀ y ∈ ys, EL κ e y) {m ca : Nat} {B : Option Addr} (hm : ys.length = m) (hB : (B = none ∧ m = 0 ∧ ca = 0) ∨ ∃ a, B = some a ∧ ∀ i u, ys.flatten[i]? = some u → V.cell? (a.add i) = some u) (t ty : TypeId) (z : Value) (bytes : Nat) (ht : P.underlying t = some (.slice e.ty)) (hinfo : (P.info? e.ty).map (fun i => (i.zero, i.size, i.bytes)) = some (some z, e.sz, bytes)) (hz : z.cells.toList = e.z) (hb0 : 0 < bytes) (hl : (n + m) * bytes ≤ 140737488355328) :
  ∃ A' c' w' κ', (Builtin.append_ #[t, t] ty #[.slice (some ⟨k, 0, none⟩) n c, .slice B m ca]).run P V = .ok (.slice A' (n + m) c') w' ∧ HX w0 w' g b κ' l ∧ Ext κ κ' ∧ SR κ' e A' (n + m) c' ∧ ∀ i, i < V.heap.size → i ≠ k → w'.heap[i]? = V.heap[i]? := by
 rcases hB with ⟨rfl, rfl, rfl⟩ | ⟨a, rfl, hc⟩
 ·obtain ⟨i0, hi, hzz⟩ := Option.map_eq_some_iff.1 hinfo
  obtain ⟨xs, ho, _⟩ := h1.own hr
  exact ⟨_, _, _, κ, run_append_owned_none (P := P) (w := V) _ t ty e.ty i0 e.sz ht hi _ n _ ho, h1, Ext.refl _, hr, fun _ _ _ => rfl⟩
 ·obtain ⟨A', c', w', κ', q1, q2, q3, q4, q5⟩ := h1.appn (P := P) hr hy hm (fun h => by cases h) hc t ty z bytes ht hinfo hz hb0 hl
  exact ⟨A', c', w', κ', q1, q2, q3, q4, fun i hi hk => q5 i hi (fun a ha => by injection ha with ha; rw [← ha]; exact hk)⟩
end
def Kn.tt : Kn → Nat | .y => 37 | .t _ => 59 | .e _ => 47 | .g => 26 | .gl => 26 | .m => 51 | .b => 28
def Kn.zv : Kn → Value | .y => .int .u8 0 | .t _ => .string ⟨#[]⟩ | .e _ => .agg #[.slice none 0 0] | .g => .agg #[.string ⟨#[]⟩, .slice none 0 0] | .gl => .agg #[.string ⟨#[]⟩, .slice none 0 0] | .m => .agg #[.int .i64 0, .slice none 0 0] | .b => .agg #[.int .i64 0, .int .i64 0, .slice none 0 0]
def Kn.by : Kn → Nat | .y => 1 | .t _ => 16 | .e _ => 24 | .g => 40 | .gl => 40 | .m => 32 | .b => 40
theorem kn_info (e : Kn) : Tryz.prog.underlying e.tt = some (.slice e.ty) ∧ (Tryz.prog.info? e.ty).map (fun i => (i.zero, i.size, i.bytes)) = some (some e.zv, e.sz, e.by) ∧ e.zv.cells.toList = e.z ∧ 0 < e.by ∧ e.by ≤ 40 := by
 cases e <;> exact ⟨by kernel_rfl, by kernel_rfl, rfl, by simp [Kn.by], by simp [Kn.by]⟩
theorem hx_ {w0 W W1 : World} {g : Nat} {b : List Int} {κ : Gh} {l : List (Nat × List Value × Nat)} (X : Aside0 (HX w0 W g b κ l)) (h : HX w0 W g b κ l → HX w0 W1 g b κ l := by intro hq_; (with_reducible repeat (first | exact hq_ | apply HX.drewN | apply HX.drew | apply HX.alloc))) : HX w0 W1 g b κ l := h X.out
def sets (W : World) (gb : Nat) : Nat → List Value → World
 | _, [] => W
 | j, u :: us => sets (W.setCell ⟨gb, j, none⟩ u) gb (j + 1) us
def spl (cs : List Value) : Nat → List Value → List Value
 | _, [] => cs
 | j, u :: us => spl (cs.set j u) (j + 1) us
section
variable {w0 W W1 : World} {g : Nat} {b : List Int} {κ κ' : Gh} {l l' : List (Nat × List Value × Nat)} {e : Kn} {A : Option Addr} {n c : Nat}
theorem HX.sets {i gb ty : Nat} : ∀ {us : List Value} {W : World} {j : Nat} {cs : List Value} {l : List (Nat × List Value × Nat)}, HX w0 W g b κ l → l[i]? = some (gb, cs, ty) → HX w0 (sets W gb j us) g b κ (l.set i (gb, spl cs j us, ty))
 | [], _, j, cs, l, h, hi => by
  obtain ⟨h1, h2⟩ := List.getElem?_eq_some_iff.1 hi
  have : l.set i (gb, spl cs j [], ty) = l := by
   rw [spl, ← h2]
   exact List.set_getElem_self h1
  rw [this]
  exact h
 | u :: us, W, j, cs, l, h, hi => by
  have h1 := h.set i j hi u
  have h2 := (h1.sets (us := us) (j := j + 1) (List.getElem?_set_self (List.getElem?_eq_some_iff.1 hi).1))
  rw [List.set_set] at h2
  exact h2
theorem HX.rd (h : HX w0 W g b κ l) (i : Nat) {gb : Nat} {cs : List Value} {ty : Nat} (hi : l[i]? = some (gb, cs, ty)) : (∀ j, W.cell? ⟨gb, j, none⟩ = cs[j]?) ∧ ∀ j, W.frozen? ⟨gb, j, none⟩ = false :=
 ⟨fun j => (blk_cell (h.get i hi) j).trans (by simp), fun j => blk_frozen (h.get i hi) j⟩
section
variable {P : Program} {ops : Array Oper} {rest : List Oper} {o : Oper} {a : Act} {Q : Exit → Act → World → Prop} {K : Act → World → Prop}
theorem hb_ (X : Aside0 (HX w0 W g b κ l)) (N : Tmp) (cs : List Value) (t : TypeId) (h : ∀ gb w1, Aside0 (HX w0 w1 g b κ ((gb, cs, t) :: l)) → wpList P ops Q rest (a.put o.dst (.pointer (some ⟨gb, 0, none⟩))) w1)
  (hX : HX w0 W g b κ l → HX w0 W1 g b κ l := by intro hq_; (with_reducible repeat (first | exact hq_ | apply HX.drewN | apply HX.drew | apply HX.alloc))) (hd : o.dst = some N := by rfl) (hgd : o.guard = none := by rfl)
  (hrun : (execOp a.eval o).run P W1 = .ok (.value (.pointer (some ⟨W1.heap.size, 0, none⟩))) (W1.alloc (.cells cs.toArray t (0, 0))) := by first | (go_simp; done) | (go_simp; rfl)) : wpList P ops Q (o :: rest) a W1 :=
 box_event hgd hd hrun (fun gb hg w1 hc hb => h gb w1 ⟨(hX X.out).box hg hc hb⟩)
theorem hbs_ (X : Aside0 (HX w0 W g b κ l)) (N : Tmp) (n : Nat) (cs : List Value) (t : TypeId) (h : ∀ gb w1, Aside0 (HX w0 w1 g b κ ((gb, cs, t) :: l)) → wpList P ops Q rest (a.put o.dst (.slice (some ⟨gb, 0, none⟩) n n)) w1)
  (hX : HX w0 W g b κ l → HX w0 W1 g b κ l := by intro hq_; (with_reducible repeat (first | exact hq_ | apply HX.drewN | apply HX.drew | apply HX.alloc))) (hd : o.dst = some N := by rfl) (hgd : o.guard = none := by rfl)
  (hrun : (execOp a.eval o).run P W1 = .ok (.value (.slice (some ⟨W1.heap.size, 0, none⟩) n n)) (W1.alloc (.cells cs.toArray t (0, 0))) := by first | (go_simp; done) | (go_simp; rfl)) : wpList P ops Q (o :: rest) a W1 :=
 Kd.event_run hgd hrun (h _ _ ⟨(hX X.out).box rfl (heap_alloc_new W1 _) (below_alloc (Below.refl _ _) _)⟩)
theorem hv_ (X : Aside0 (HX w0 W g b κ l)) (i j : Nat) {gb ty : Nat} {cs : List Value} (us : List Value) {t : TypeId} {p : Tmp} {v : Operand} (hi : l[i]? = some (gb, cs, ty)) (_ho : o.op = .store t (.tmp p) v) (h : ∀ w1, Aside0 (HX w0 w1 g b κ l') → wpList P ops Q rest a w1)
  (hX : HX w0 W g b κ l → HX w0 W1 g b κ l := by intro hq_; (with_reducible repeat (first | exact hq_ | apply HX.drewN | apply HX.drew | apply HX.alloc))) (hN : o.dst = none := by rfl) (hgd : o.guard = none := by rfl)
  (hrun : (∀ j, W1.cell? ⟨gb, j, none⟩ = cs[j]?) ∧ (∀ j, W1.frozen? ⟨gb, j, none⟩ = false) → (execOp a.eval o).run P W1 = .ok .skip (sets W1 gb j us) := by intro ⟨hc_, hf_⟩; first | (go_simp; done) | (go_simp; rfl))
  (hl : l.set i (gb, spl cs j us, ty) = l' := by simp only [List.set_cons_zero, List.set_cons_succ, spl]; rfl) : wpList P ops Q (o :: rest) a W1 :=
 store_event hgd _ho hN (hrun ((hX X.out).rd i hi)) (fun w1 hw => h w1 ⟨by rw [hw, ← hl]; exact (hX X.out).sets hi⟩)
theorem rv_ (X : Aside0 (HX w0 W g b κ l)) (i j : Nat) {gb ty : Nat} {cs : List Value} (us : List Value) (hi : l[i]? = some (gb, cs, ty)) (h : ∀ w1, Aside0 (HX w0 w1 g b κ l') → K a w1)
  (hX : HX w0 W g b κ l → HX w0 W1 g b κ l := by intro hq_; (with_reducible repeat (first | exact hq_ | apply HX.drewN | apply HX.drew | apply HX.alloc))) (hw : Region.wanted o (yielded ops a.tmps) = true := by rfl) (hN : o.dst = none := by rfl)
  (hrun : (∀ j, W1.cell? ⟨gb, j, none⟩ = cs[j]?) ∧ (∀ j, W1.frozen? ⟨gb, j, none⟩ = false) → (execOp a.eval o).run P W1 = .ok .skip (sets W1 gb j us) := by intro ⟨hc_, hf_⟩; first | (go_simp; done) | (go_simp; rfl))
  (hl : l.set i (gb, spl cs j us, ty) = l' := by simp only [List.set_cons_zero, List.set_cons_succ, spl]; rfl) : if Region.wanted o (yielded ops a.tmps) = true then Oper.wp P o a W1 K Q else K (a.put none undef) W1 :=
 skip_ hw hN (hrun ((hX X.out).rd i hi)) (h _ ⟨by rw [← hl]; exact (hX X.out).sets hi⟩)
theorem cell_set {w : World} {p : Addr} {old : Value} (h : w.cell? p = some old) (u : Value) : (w.setCell p u).cell? p = some u := by
 have := h
 go_simp
theorem rp_ (X : Aside0 (HX w0 W g b κ l)) {k : Nat} (hr : SR κ e (some ⟨k, 0, none⟩) n c) (i j m : Nat) (hi : i < n) (hj : j < e.sz) (u : Value) (hu : ∀ x, EL κ e x → EL κ e (x.set j u)) (h : ∀ w1, Aside0 (HX w0 w1 g b κ l) → w1.cell? ⟨k, m, none⟩ = .some u → K a w1) (hm : i * e.sz + j = m := by rfl) (hw : Region.wanted o (yielded ops a.tmps) = true := by rfl) (hN : o.dst = none := by rfl)
  (hrun : ∀ old, W.cell? ⟨k, m, none⟩ = some old → W.frozen? ⟨k, m, none⟩ = false → (execOp a.eval o).run P W = .ok .skip (W.setCell ⟨k, m, none⟩ u) := by intro old_ hc_ hf_; first | (go_simp; done) | (go_simp; rfl)) : if Region.wanted o (yielded ops a.tmps) = true then Oper.wp P o a W K Q else K (a.put none undef) W := by
 obtain ⟨k', hk, X1, hf⟩ := X.out.put hr hi hj u (fun x hx _ => hu x hx)
 injection hk with hk
 injection hk with hk _ _
 subst hk
 obtain ⟨ad, x, had, hx, hc⟩ := X.out.read hr hi
 injection had with had
 subst had
 have hlt : j < x.length := by rw [hx.len]; exact hj
 have hc1 := hc j _ (List.getElem?_eq_getElem hlt)
 rw [Addr.add_lit, Nat.zero_add] at hc1
 rw [hm] at hc1 hf X1
 exact skip_ hw hN (hrun _ hc1 hf) (h _ ⟨X1⟩ (cell_set hc1 u))
theorem rb_ (N : Tmp) (n : Nat) (cs : List Value) (ty : Nat) (h : K (a.put (some N) (.slice (some ⟨W.heap.size, 0, none⟩) n n)) (W.alloc (.cells cs.toArray ty))) (hw : Region.wanted o (yielded ops a.tmps) = true := by rfl) (hN : o.dst = some N := by rfl)
  (hrun : (execOp a.eval o).run P W = .ok (.value (.slice (some ⟨W.heap.size, 0, none⟩) n n)) (W.alloc (.cells cs.toArray ty)) := by first | (go_simp; done) | (go_simp; rfl)) : if Region.wanted o (yielded ops a.tmps) = true then Oper.wp P o a W K Q else K (a.put (some N) undef) W := value_ hw hN hrun h
theorem rtk_ (X : Aside0 (HX w0 W g b κ l)) (N : Tmp) (n : Nat) (L : List ByteArray) (h : ∀ k w1, Aside0 (HX w0 w1 g b κ ((k, L.map .string, 9) :: l)) → Below W.heap.size W w1 → K (a.put (some N) (.slice (some ⟨k, 0, none⟩) n n)) w1) (hw : Region.wanted o (yielded ops a.tmps) = true := by rfl) (hN : o.dst = some N := by rfl)
  (hrun : (execOp a.eval o).run P W = .ok (.value (.slice (some ⟨W.heap.size, 0, none⟩) n n)) (W.alloc (.cells (L.map Value.string).toArray 9)) := by first | (go_simp; done) | (go_simp; rfl)) : if Region.wanted o (yielded ops a.tmps) = true then Oper.wp P o a W K Q else K (a.put (some N) undef) W :=
 value_ hw hN hrun (h _ _ ⟨X.out.box rfl (heap_alloc_new W (.cells (L.map Value.string).toArray 9)) (below_alloc (Below.refl _ _) _)⟩ (below_alloc (Below.refl _ _) _))
theorem rt_ (X : Aside0 (HX w0 W g b κ l)) (N : Tmp) (n : Nat) (L : List ByteArray) (h : ∀ k w1, Aside0 (HX w0 w1 g b κ ((k, L.map .string, 9) :: l)) → HX w0 w1 g b κ l → K (a.put (some N) (.slice (some ⟨k, 0, none⟩) n n)) w1) (hw : Region.wanted o (yielded ops a.tmps) = true := by rfl) (hN : o.dst = some N := by rfl)
  (hrun : (execOp a.eval o).run P W = .ok (.value (.slice (some ⟨W.heap.size, 0, none⟩) n n)) (W.alloc (.cells (L.map Value.string).toArray 9)) := by first | (go_simp; done) | (go_simp; rfl)) : if Region.wanted o (yielded ops a.tmps) = true then Oper.wp P o a W K Q else K (a.put (some N) undef) W :=
 have X1 := X.out.box rfl (heap_alloc_new W (.cells (L.map Value.string).toArray 9)) (below_alloc (Below.refl _ _) _)
 value_ hw hN hrun (h _ _ ⟨X1⟩ X1.tl)
theorem rlk_ (X : Aside0 (HX w0 W g b κ l)) (N : Tmp) (e : Kn) (xs : List (List Value)) (hx : ∀ x ∈ xs, EL κ e x) (h : ∀ k κ' w1, Aside0 (HX w0 w1 g b κ' l) → Ext κ κ' → SR κ' e (some ⟨k, 0, none⟩) xs.length xs.length → Below W.heap.size W w1 → K (a.put (some N) (.slice (some ⟨k, 0, none⟩) xs.length xs.length)) w1) (hm : xs.length ≤ 9223372036854775807 := by simp) (hw : Region.wanted o (yielded ops a.tmps) = true := by rfl) (hN : o.dst = some N := by rfl)
  (hrun : (execOp a.eval o).run P W = .ok (.value (.slice (some ⟨W.heap.size, 0, none⟩) xs.length xs.length)) (W.alloc (.cells xs.flatten.toArray e.ty)) := by first | (go_simp; done) | (go_simp; rfl)) : if Region.wanted o (yielded ops a.tmps) = true then Oper.wp P o a W K Q else K (a.put (some N) undef) W :=
 value_ hw hN hrun (h _ _ _ ⟨X.out.row (below_alloc (Below.refl _ _) _) (Nat.le_refl _) (heap_alloc_new W _) ⟨xs, rfl, rfl, hx⟩ hm⟩ (X.out.up_ext (Nat.le_refl _) _) (SR.up (Nat.le_refl _)) (below_alloc (Below.refl _ _) _))
theorem rl_ (X : Aside0 (HX w0 W g b κ l)) (N : Tmp) (e : Kn) (xs : List (List Value)) (hx : ∀ x ∈ xs, EL κ e x) (h : ∀ A κ' w1, Aside0 (HX w0 w1 g b κ' l) → Ext κ κ' → SR κ' e A xs.length xs.length → K (a.put (some N) (.slice A xs.length xs.length)) w1) (hm : xs.length ≤ 9223372036854775807 := by simp) (hw : Region.wanted o (yielded ops a.tmps) = true := by rfl) (hN : o.dst = some N := by rfl)
  (hrun : (execOp a.eval o).run P W = .ok (.value (.slice (some ⟨W.heap.size, 0, none⟩) xs.length xs.length)) (W.alloc (.cells xs.flatten.toArray e.ty)) := by first | (go_simp; done) | (go_simp; rfl)) : if Region.wanted o (yielded ops a.tmps) = true then Oper.wp P o a W K Q else K (a.put (some N) undef) W :=
 value_ hw hN hrun (h _ _ _ ⟨X.out.row (below_alloc (Below.refl _ _) _) (Nat.le_refl _) (heap_alloc_new W _) ⟨xs, rfl, rfl, hx⟩ hm⟩ (X.out.up_ext (Nat.le_refl _) _) (SR.up (Nat.le_refl _)))
theorem ha0 (e : Kn) {s x : Operand} (ho : o.op = .call { callee := .builtin .append, args := #[s, x], argTypes := #[e.tt, e.tt] }) (hs : a.eval s = .slice A n c) (hx : a.eval x = .slice (some ⟨W.heap.size, 0, none⟩) 1 1) (h : HX w0 W g b κ l) (hr : SR κ e A n c) {ys : List Value} (hy : EL κ e ys) (hn : n < 1099511627776)
  (k : ∀ A' c' κ' w', Aside0 (HX w0 w' g b κ' l) → Ext κ κ' → SR κ' e A' (n + 1) c' → (∀ i, i < W.heap.size → (∀ a, A = some a → i ≠ a.block) → w'.heap[i]? = W.heap[i]?) → K (a.put o.dst (.slice A' (n + 1) c')) w') : Oper.wp Tryz.prog o a (W.alloc (.cells ys.toArray e.ty)) K Q := by
 obtain ⟨i1, i2, i3, i4, i5⟩ := kn_info e
 have hl : (n + 1) * e.by ≤ (n + 1) * 40 := Nat.mul_le_mul_left _ i5
 obtain ⟨A', c', w', κ', h1, h2, h3, h4, h5⟩ := h.app hr hy e.tt o.type e.zv e.by i1 i2 i3 i4 (by omega)
 unfold Oper.wp execOp
 simp only [ho, resolve, invoke, builtin, Sem.run_bind, Sem.run_pure, Result.andThen_ok, List.map_toArray, List.map_cons, List.map_nil, hs, hx, h1]
 exact k A' c' κ' w' ⟨h2⟩ h3 h4 h5
theorem ha_ (e : Kn) {s x : Operand} (ho : o.op = .call { callee := .builtin .append, args := #[s, x], argTypes := #[e.tt, e.tt] }) (hgd : o.guard = none) (hs : a.eval s = .slice A n c) (hx : a.eval x = .slice (some ⟨W.heap.size, 0, none⟩) 1 1) (h : HX w0 W g b κ l) (hr : SR κ e A n c) {ys : List Value} (hy : EL κ e ys) (hn : n < 1099511627776)
  (k : ∀ A' c' κ' w', Aside0 (HX w0 w' g b κ' l) → Ext κ κ' → SR κ' e A' (n + 1) c' → wpList Tryz.prog ops Q rest (a.put o.dst (.slice A' (n + 1) c')) w') : wpList Tryz.prog ops Q (o :: rest) a (W.alloc (.cells ys.toArray e.ty)) :=
 wpList_plain hgd fun _ hK => ha0 e ho hs hx h hr hy hn fun A' c' κ' w' h1 h2 h3 _ => hK _ _ (k A' c' κ' w' h1 h2 h3)
theorem hask_ (e : Kn) {s x : Operand} (ho : o.op = .call { callee := .builtin .append, args := #[s, x], argTypes := #[e.tt, e.tt] }) (hw : Region.wanted o (yielded ops a.tmps) = true) (hs : a.eval s = .slice A n c) (hx : a.eval x = .slice (some ⟨W.heap.size, 0, none⟩) 1 1) (h : HX w0 W g b κ l) (hr : SR κ e A n c) {ys : List Value} (hy : EL κ e ys) (hn : n < 1099511627776)
  (k : ∀ A' c' κ' w', Aside0 (HX w0 w' g b κ' l) → Ext κ κ' → SR κ' e A' (n + 1) c' → (∀ i, i < W.heap.size → (∀ a, A = some a → i ≠ a.block) → w'.heap[i]? = W.heap[i]?) → K (a.put o.dst (.slice A' (n + 1) c')) w') : if Region.wanted o (yielded ops a.tmps) = true then Oper.wp Tryz.prog o a (W.alloc (.cells ys.toArray e.ty)) K Q else K (a.put o.dst undef) (W.alloc (.cells ys.toArray e.ty)) := by
 rw [if_pos hw]
 exact ha0 e ho hs hx h hr hy hn k
theorem hlk_ (X : Aside0 (HX w0 W g b κ l)) (e : Kn) (xs : List (List Value)) (hx : ∀ x ∈ xs, EL κ e x) (h : ∀ k κ' w1, Aside0 (HX w0 w1 g b κ' l) → Ext κ κ' → SR κ' e (some ⟨k, 0, none⟩) xs.length xs.length → wpList P ops Q rest (a.put o.dst (.slice (some ⟨k, 0, none⟩) xs.length xs.length)) w1)
  (hX : HX w0 W g b κ l → HX w0 W1 g b κ l := by intro hq_; (with_reducible repeat (first | exact hq_ | apply HX.drewN | apply HX.drew | apply HX.alloc))) (hm : xs.length ≤ 9223372036854775807 := by simp) (hgd : o.guard = none := by rfl)
  (hrun : (execOp a.eval o).run P W1 = .ok (.value (.slice (some ⟨W1.heap.size, 0, none⟩) xs.length xs.length)) (W1.alloc (.cells xs.flatten.toArray e.ty)) := by first | (go_simp; done) | (go_simp; rfl)) : wpList P ops Q (o :: rest) a W1 := by
 have X1 := hX X.out
 exact Kd.event_run hgd hrun (h _ _ _ ⟨X1.row (below_alloc (Below.refl _ _) _) (Nat.le_refl _) (heap_alloc_new W1 _) ⟨xs, rfl, rfl, hx⟩ hm⟩ (X1.up_ext (Nat.le_refl _) _) (SR.up (Nat.le_refl _)))
theorem hl_ (X : Aside0 (HX w0 W g b κ l)) (e : Kn) (xs : List (List Value)) (hx : ∀ x ∈ xs, EL κ e x) (h : ∀ A κ' w1, Aside0 (HX w0 w1 g b κ' l) → Ext κ κ' → SR κ' e A xs.length xs.length → wpList P ops Q rest (a.put o.dst (.slice A xs.length xs.length)) w1)
  (hX : HX w0 W g b κ l → HX w0 W1 g b κ l := by intro hq_; (with_reducible repeat (first | exact hq_ | apply HX.drewN | apply HX.drew | apply HX.alloc))) (hm : xs.length ≤ 9223372036854775807 := by simp) (hgd : o.guard = none := by rfl)
  (hrun : (execOp a.eval o).run P W1 = .ok (.value (.slice (some ⟨W1.heap.size, 0, none⟩) xs.length xs.length)) (W1.alloc (.cells xs.flatten.toArray e.ty)) := by first | (go_simp; done) | (go_simp; rfl)) : wpList P ops Q (o :: rest) a W1 := hlk_ X e xs hx (fun k => h _) hX hm hgd hrun
theorem has_ (e : Kn) {s x : Operand} (ho : o.op = .call { callee := .builtin .append, args := #[s, x], argTypes := #[e.tt, e.tt] }) (hw : Region.wanted o (yielded ops a.tmps) = true) (hs : a.eval s = .slice A n c) (hx : a.eval x = .slice (some ⟨W.heap.size, 0, none⟩) 1 1) (h : HX w0 W g b κ l) (hr : SR κ e A n c) {ys : List Value} (hy : EL κ e ys) (hn : n < 1099511627776)
  (k : ∀ A' c' κ' w', Aside0 (HX w0 w' g b κ' l) → Ext κ κ' → SR κ' e A' (n + 1) c' → K (a.put o.dst (.slice A' (n + 1) c')) w') : if Region.wanted o (yielded ops a.tmps) = true then Oper.wp Tryz.prog o a (W.alloc (.cells ys.toArray e.ty)) K Q else K (a.put o.dst undef) (W.alloc (.cells ys.toArray e.ty)) := hask_ e ho hw hs hx h hr hy hn fun A' c' κ' w' h1 h2 h3 _ => k A' c' κ' w' h1 h2 h3
theorem hap0 (e : Kn) {s x : Operand} (ho : o.op = .call { callee := .builtin .append, args := #[s, x], argTypes := #[e.tt, e.tt] }) {k m ca : Nat} {B : Option Addr} (hs : a.eval s = .slice (some ⟨k, 0, none⟩) n c) (hx : a.eval x = .slice B m ca) (h : HX w0 W g b κ l) (hr : SR κ e (some ⟨k, 0, none⟩) n c) {ys : List (List Value)} (hy : ys.length = m ∧ (∀ y ∈ ys, EL κ e y) ∧ ((B = none ∧ m = 0 ∧ ca = 0) ∨ ∃ a, B = some a ∧ ∀ i u, ys.flatten[i]? = some u → W.cell? (a.add i) = some u)) (hn : n + m < 1099511627776)
  (q : ∀ A' c' κ' w', Aside0 (HX w0 w' g b κ' l) → Ext κ κ' → SR κ' e A' (n + m) c' → (∀ i, i < W.heap.size → i ≠ k → w'.heap[i]? = W.heap[i]?) → K (a.put o.dst (.slice A' (n + m) c')) w') : Oper.wp Tryz.prog o a W K Q := by
 obtain ⟨i1, i2, i3, i4, i5⟩ := kn_info e
 have hl : (n + m) * e.by ≤ (n + m) * 40 := Nat.mul_le_mul_left _ i5
 obtain ⟨A', c', w', κ', h1, h2, h3, h4, h5⟩ := h.apps hr hy.2.1 hy.1 hy.2.2 e.tt o.type e.zv e.by i1 i2 i3 i4 (by omega)
 unfold Oper.wp execOp
 simp only [ho, resolve, invoke, builtin, Sem.run_bind, Sem.run_pure, Result.andThen_ok, List.map_toArray, List.map_cons, List.map_nil, hs, hx, h1]
 exact q A' c' κ' w' ⟨h2⟩ h3 h4 h5
theorem hap_ (e : Kn) {s x : Operand} (ho : o.op = .call { callee := .builtin .append, args := #[s, x], argTypes := #[e.tt, e.tt] }) (hgd : o.guard = none) {k m ca : Nat} {B : Option Addr} (hs : a.eval s = .slice (some ⟨k, 0, none⟩) n c) (hx : a.eval x = .slice B m ca) (h : HX w0 W g b κ l) (hr : SR κ e (some ⟨k, 0, none⟩) n c) {ys : List (List Value)} (hy : ys.length = m ∧ (∀ y ∈ ys, EL κ e y) ∧ ((B = none ∧ m = 0 ∧ ca = 0) ∨ ∃ a, B = some a ∧ ∀ i u, ys.flatten[i]? = some u → W.cell? (a.add i) = some u)) (hn : n + m < 1099511627776)
  (q : ∀ A' c' κ' w', Aside0 (HX w0 w' g b κ' l) → Ext κ κ' → SR κ' e A' (n + m) c' → wpList Tryz.prog ops Q rest (a.put o.dst (.slice A' (n + m) c')) w') : wpList Tryz.prog ops Q (o :: rest) a W :=
 wpList_plain hgd fun _ hK => hap0 e ho hs hx h hr hy hn fun A' c' κ' w' h1 h2 h3 _ => hK _ _ (q A' c' κ' w' h1 h2 h3)
theorem haps_ (e : Kn) {s x : Operand} (ho : o.op = .call { callee := .builtin .append, args := #[s, x], argTypes := #[e.tt, e.tt] }) (hw : Region.wanted o (yielded ops a.tmps) = true) {k m ca : Nat} {B : Option Addr} (hs : a.eval s = .slice (some ⟨k, 0, none⟩) n c) (hx : a.eval x = .slice B m ca) (h : HX w0 W g b κ l) (hr : SR κ e (some ⟨k, 0, none⟩) n c) {ys : List (List Value)} (hy : ys.length = m ∧ (∀ y ∈ ys, EL κ e y) ∧ ((B = none ∧ m = 0 ∧ ca = 0) ∨ ∃ a, B = some a ∧ ∀ i u, ys.flatten[i]? = some u → W.cell? (a.add i) = some u)) (hn : n + m < 1099511627776)
  (q : ∀ A' c' κ' w', Aside0 (HX w0 w' g b κ' l) → Ext κ κ' → SR κ' e A' (n + m) c' → (∀ i, i < W.heap.size → i ≠ k → w'.heap[i]? = W.heap[i]?) → K (a.put o.dst (.slice A' (n + m) c')) w') : if Region.wanted o (yielded ops a.tmps) = true then Oper.wp Tryz.prog o a W K Q else K (a.put o.dst undef) W := by
 rw [if_pos hw]
 exact hap0 e ho hs hx h hr hy hn q
end
theorem SR.some (h : SR κ e A n c) (h0 : 0 < n) : ∃ k, A = .some ⟨k, 0, none⟩ := by
 rcases h with ⟨_, h2, _⟩ | ⟨k, h, _⟩
 ·omega
 ·exact ⟨k, h⟩
def HS (w0 : World) (g : Nat) (b : List Int) (κ : Gh) (l : List (Nat × List Value × Nat)) (w' : World) : Prop := ∃ κ', Ext κ κ' ∧ HX w0 w' g b κ' l
theorem hs_ (hx : Ext κ κ') (X : Aside0 (HX w0 W g b κ' l)) (h : HX w0 W g b κ' l → HX w0 W1 g b κ' l := by intro hq_; (with_reducible repeat (first | exact hq_ | apply HX.drewN | apply HX.drew | apply HX.alloc))) : HS w0 g b κ l W1 := ⟨κ', hx, h X.out⟩
theorem hs_w (X : Aside0 (HX w0 W g b κ l)) (h : HX w0 W g b κ l → HX w0 W1 g b κ l := by intro hq_; (with_reducible repeat (first | exact hq_ | apply HX.drewN | apply HX.drew | apply HX.alloc))) : HS w0 g b κ l W1.drew := ⟨κ, Ext.refl _, (h X.out).drew⟩
theorem drw_ (X : Aside0 (HX w0 W g b κ l)) (h : HX w0 W g b κ l → HX w0 W1 g b κ l := by intro hq_; (with_reducible repeat (first | exact hq_ | apply HX.drewN | apply HX.drew | apply HX.alloc))) : ∃ w1, w1 = W1.drew ∧ Aside0 (HX w0 w1 g b κ l) := ⟨_, rfl, ⟨(h X.out).drew⟩⟩
theorem ld_ {P : Program} {a : Act} {o : Oper} {v : Value} (i : Nat) {gb ty : Nat} {cs : List Value} (hi : l[i]? = some (gb, cs, ty)) (h : ∀ w, (∀ j, w.cell? ⟨gb, j, none⟩ = cs[j]?) → (execOp a.eval o).run P w = .ok (.value v) w := by intro w' hc_; go_simp; with_reducible rfl) : ∀ w, HS w0 g b κ l w → (execOp a.eval o).run P w = .ok (.value v) w := fun w hS => h w (hS.elim fun _ q => (q.2.rd i hi).1)
def HEl (w0 : World) (g : Nat) (b : List Int) (κ : Gh) (l : List (Nat × List Value × Nat)) (k q : Nat) (x : List Value) (w' : World) : Prop := HS w0 g b κ l w' ∧ ∀ j u, x[j]? = some u → w'.cell? ⟨k, q + j, none⟩ = some u
section
variable {k q : Nat} {x : List Value} {P : Program} {a : Act} {o : Oper} {v x0 x1 x2 : Value}
theorem he_w (X : Aside0 (HX w0 W g b κ l)) (hc : ∀ j u, x[j]? = some u → W.cell? ⟨k, q + j, none⟩ = some u) : HEl w0 g b κ l k q x W.drew := ⟨hs_w X, hc⟩
theorem he_0 (X : Aside0 (HX w0 W g b κ l)) (hc : ∀ j u, x[j]? = some u → W.cell? ⟨k, j, none⟩ = some u) : HEl w0 g b κ l k 0 x W.drew := ⟨hs_w X, fun j u h => by rw [Nat.zero_add]; exact hc j u h⟩
theorem he_1 (X : Aside0 (HX w0 W g b κ l)) (hc : W.cell? ⟨k, q, none⟩ = some v) : HEl w0 g b κ l k q [v] W.drew := ⟨hs_w X, fun j u h => by
 cases j with
 | zero => injection h with h; rw [← h]; exact hc
 | succ j => simp at h⟩
theorem HEl.step (h : HEl w0 g b κ l k q x W) (hS : HS w0 g b κ l W1) (hk : W.heap[k]? = W1.heap[k]?) : HEl w0 g b κ l k q x W1 := ⟨hS, fun j u hj => (World.cell?_of_block (w := W) hk.symm).trans (h.2 j u hj)⟩
theorem HEl.alloc (h : HEl w0 g b κ l k q x W) (hk : k < W.heap.size) (o : Obj) : HEl w0 g b κ l k q x (W.alloc o) := h.step (h.1.elim fun κ' q => ⟨κ', q.1, q.2.alloc o⟩) (Below.heap_alloc W o k hk).symm
theorem lde_ (i : Nat) {gb ty : Nat} {cs : List Value} (hi : l[i]? = some (gb, cs, ty)) (h : ∀ w, (∀ j, w.cell? ⟨gb, j, none⟩ = cs[j]?) → (execOp a.eval o).run P w = .ok (.value v) w := by intro w' hc_; go_simp; with_reducible rfl) : ∀ w, HEl w0 g b κ l k q x w → (execOp a.eval o).run P w = .ok (.value v) w := fun w hS => ld_ i hi h w hS.1
theorem ldc_ (h : ∀ w, w.cell? ⟨k, 0, none⟩ = some x0 → w.cell? ⟨k, 1, none⟩ = some x1 → w.cell? ⟨k, 2, none⟩ = some x2 → (execOp a.eval o).run P w = .ok (.value v) w := by intro w' Ij Kw h2_; go_simp; with_reducible rfl) : ∀ w, HEl w0 g b κ l k 0 [x0, x1, x2] w → (execOp a.eval o).run P w = .ok (.value v) w := fun w hS => h w (hS.2 0 _ rfl) (hS.2 1 _ rfl) (hS.2 2 _ rfl)
theorem ld1_ (h : ∀ w, w.cell? ⟨k, q, none⟩ = some x0 → (execOp a.eval o).run P w = .ok (.value v) w := by intro w' Ij; go_simp; with_reducible rfl) : ∀ w, HEl w0 g b κ l k q [x0] w → (execOp a.eval o).run P w = .ok (.value v) w := fun w hS => h w (hS.2 0 _ rfl)
end
def PT (w0 : World) (g : Nat) (b : List Int) (κ : Gh) (l : List (Nat × List Value × Nat)) (R : Gh → Value → Prop) (e : Ending) (w' : World) : Prop := ∃ v κ', e = .returned v ∧ Ext κ κ' ∧ R κ' v ∧ Aside0 (HX w0 w' g b κ' l)
theorem HX.toC {α : Type} {d : Kd α} {P : α → Prop} (h : HX w0 W g b κ l) (hr : SR κ e A n c) (hs : d.sz = e.sz) (hE : ∀ cs, EL κ e cs → ∃ x, d.K W x cs ∧ P x) : ∃ L : List α, L.length = n ∧ d.C W A n L ∧ (∀ x ∈ L, P x) ∧ n ≤ c := by
 rcases hr with ⟨rfl, rfl, rfl⟩ | ⟨k, rfl, hk, hnc⟩
 ·exact ⟨[], rfl, Kd.C_nil d W, fun _ h => by simp at h, Nat.le_refl _⟩
 ·obtain ⟨_, _, hm, _, cs, h5, xs, rfl, hxl, hxe⟩ := h.2.2.2.1 _ _ _ hk
  have pick : ∀ m, m ≤ xs.length → ∃ L : List α, L.length = m ∧ ∀ j p, L[j]? = some p → ∃ hj : j < xs.length, d.K W p xs[j] ∧ P p := by
   intro m
   induction m with
   | zero => exact fun _ => ⟨[], rfl, fun j p h => by simp at h⟩
   | succ m ih =>
    intro hm
    obtain ⟨L, h1, h2⟩ := ih (by omega)
    obtain ⟨x, h3⟩ := hE _ (hxe _ (List.getElem_mem (show m < xs.length by omega)))
    refine ⟨L ++ [x], by simp [h1], fun j p hj => ?_⟩
    rcases Nat.lt_or_ge j L.length with hl | hl
    ·rw [List.getElem?_append_left hl] at hj
     exact h2 j p hj
    ·have hj2 := (List.getElem?_eq_some_iff.1 hj).1
     have : j = m := by simp at hj2; omega
     subst this
     rw [List.getElem?_append_right hl, h1] at hj
     simp at hj
     subst hj
     exact ⟨by omega, h3⟩
  obtain ⟨L, h1, h2⟩ := pick n (by omega)
  refine ⟨L, h1, ⟨h1, by omega, fun _ => ⟨_, rfl, fun j p hj => ?_⟩⟩, fun x hx => ?_, hnc⟩
  ·obtain ⟨hl, h3, _⟩ := h2 j p hj
   refine ⟨xs[j], d.K_len h3, h3, fun i u hu => ?_⟩
   have hi : i < e.sz := by rw [← (hxe _ (List.getElem_mem hl)).len]; exact (List.getElem?_eq_some_iff.1 hu).1
   rw [hs, Addr.add_lit, blk_cell h5]
   simpa [fl_get (fun x hx => (hxe x hx).len) hl hi] using hu
  ·obtain ⟨j, hj⟩ := List.mem_iff_getElem?.1 hx
   exact (h2 j x hj).2.2
theorem HX.el (h : HX w0 W g b κ l) {k i m : Nat} (hr : SR κ (.e m) (some ⟨k, 0, none⟩) n c) (hi : i < n) : ∃ B j d, W.cell? ⟨k, i, none⟩ = some (.slice B j d) ∧ SR κ (.t m) B j d ∧ j ≤ 64 := by
 obtain ⟨ad, x, had, ⟨v, rfl, B, j, d, rfl, hj, hs⟩, hc⟩ := h.read hr hi
 injection had with had
 subst had
 have := hc 0 _ rfl
 rw [Addr.add_lit] at this
 exact ⟨B, j, d, by simpa [Kn.sz] using this, hs, hj⟩
theorem HX.texts {m : Nat} (h : HX w0 W g b κ l) (hr : SR κ (.t m) A n c) : ∃ L : List ByteArray, L.length = n ∧ Kd.C Kd.string W A n L ∧ (∀ x ∈ L, x.size ≤ m) ∧ n ≤ c := h.toC hr rfl (fun _ ⟨s, h1, h2⟩ => ⟨s, h1, h2⟩)
theorem HX.rlt {k : Nat} (h : HX w0 W g b κ l) (hr : SR κ e (some ⟨k, 0, none⟩) n c) : k < W.heap.size := by
 rcases hr with ⟨h1, _⟩ | ⟨k', h1, h2, _⟩
 ·cases h1
 ·injection h1 with h1
  injection h1 with h1
  rw [h1]
  exact h.klt h2
theorem HX.rne {k : Nat} (h : HX w0 W g b κ l) (hr : SR κ e (some ⟨k, 0, none⟩) n c) : k ≠ g := by
 rcases hr with ⟨h1, _⟩ | ⟨k', h1, h2, _⟩
 ·cases h1
 ·injection h1 with h1
  injection h1 with h1
  rw [h1]
  exact (h.2.2.2.1 _ _ _ h2).1
theorem HX.tx (h : HX w0 W g b κ l) {k i m : Nat} (hr : SR κ (.t m) (some ⟨k, 0, none⟩) n c) (hi : i < n) : ∃ s, s.size ≤ m ∧ W.cell? ⟨k, i, none⟩ = some (.string s) := by
 obtain ⟨ad, x, had, ⟨s, rfl, hs⟩, hc⟩ := h.read hr hi
 injection had with had
 subst had
 have := hc 0 _ rfl
 rw [Addr.add_lit] at this
 exact ⟨s, hs, by simpa [Kn.sz] using this⟩
theorem HX.bn (h : HX w0 W g b κ l) {k i : Nat} (hr : SR κ .b (some ⟨k, 0, none⟩) n c) (hi : i < n) : ∃ (x y : Int) (M : Option Addr) (m d : Nat), nb x ∧ nb y ∧ m ≤ 11 ∧ SR κ .m M m d ∧ W.cell? ⟨k, i * 3, none⟩ = some (.int .i64 x) ∧ W.cell? ⟨k, i * 3 + 1, none⟩ = some (.int .i64 y) ∧ W.cell? ⟨k, i * 3 + 2, none⟩ = some (.slice M m d) := by
 obtain ⟨ad, _, had, ⟨x, y, _, rfl, hx, hy, M, m, d, rfl, hm, hs⟩, hc⟩ := h.read hr hi
 injection had with had
 subst had
 have q0 := hc 0 _ rfl
 have q1 := hc 1 _ rfl
 have q2 := hc 2 _ rfl
 rw [Addr.add_lit, Nat.zero_add] at q0 q1 q2
 exact ⟨x, y, M, m, d, hx, hy, hm, hs, q0, q1, q2⟩
theorem HX.ms (h : HX w0 W g b κ l) {k i : Nat} (hr : SR κ .m (some ⟨k, 0, none⟩) n c) (hi : i < n) : ∃ (y : Int) (M : Option Addr) (m d : Nat), nb y ∧ m ≤ 3 ∧ SR κ .g M m d ∧ W.cell? ⟨k, i * 2, none⟩ = some (.int .i64 y) ∧ W.cell? ⟨k, i * 2 + 1, none⟩ = some (.slice M m d) := by
 obtain ⟨ad, _, had, ⟨y, _, rfl, hy, M, m, d, rfl, hm, hs⟩, hc⟩ := h.read hr hi
 injection had with had
 subst had
 have q0 := hc 0 _ rfl
 have q1 := hc 1 _ rfl
 rw [Addr.add_lit, Nat.zero_add] at q0 q1
 exact ⟨y, M, m, d, hy, hm, hs, q0, q1⟩
theorem HX.sg (h : HX w0 W g b κ l) {k i : Nat} (hr : SR κ .g (some ⟨k, 0, none⟩) n c) (hi : i < n) : ∃ (y : ByteArray) (M : Option Addr) (m d : Nat), y.size ≤ 4096 ∧ ¬ trl y ∧ m ≤ 64 ∧ SR κ (.e 4096) M m d ∧ W.cell? ⟨k, i * 2, none⟩ = some (.string y) ∧ W.cell? ⟨k, i * 2 + 1, none⟩ = some (.slice M m d) := by
 obtain ⟨ad, _, had, ⟨y, _, rfl, h1, h2, M, m, d, rfl, hm, hs⟩, hc⟩ := h.read hr hi
 injection had with had
 subst had
 have q0 := hc 0 _ rfl
 have q1 := hc 1 _ rfl
 rw [Addr.add_lit, Nat.zero_add] at q0 q1
 exact ⟨y, M, m, d, h1, h2, hm, hs, q0, q1⟩
theorem HX.bun (h : HX w0 W g b κ l) {k : Nat} (hr : SR κ .b (some ⟨k, 0, none⟩) n c) (hn : 0 < n) : ∃ (x y : Int) (M : Option Addr) (m d : Nat), nb x ∧ nb y ∧ m ≤ 11 ∧ SR κ .m M m d ∧ ∀ j u, [Value.int .i64 x, .int .i64 y, .slice M m d][j]? = some u → W.cell? ⟨k, j, none⟩ = some u := by
 obtain ⟨x, y, M, m, d, h1, h2, h3, h4, q0, q1, q2⟩ := h.bn hr hn
 refine ⟨x, y, M, m, d, h1, h2, h3, h4, fun j u hj => ?_⟩
 match j, hj with
 | 0, hj => injection hj with hj; rw [← hj]; exact q0
 | 1, hj => injection hj with hj; rw [← hj]; exact q1
 | 2, hj => injection hj with hj; rw [← hj]; exact q2
end
theorem wid_ {x : Int} (h0 : -9223372036854775808 ≤ x) (h1 : x ≤ 9223372036854775807) : wrap64 x = x := by
 unfold wrap64
 omega
theorem u64_id {x : Int} (h0 : 0 ≤ x) (h1 : x < 18446744073709551616) : IntKind.u64.wrap x = x := by
 unfold IntKind.wrap
 simp [IntKind.bits, IntKind.signed]
 omega
theorem u64_ge (x : Int) : 0 ≤ IntKind.u64.wrap x := by
 unfold IntKind.wrap
 simp [IntKind.bits, IntKind.signed]
 omega
theorem u64_mod (x : Int) {m : Int} (h0 : 2 ≤ m) (h1 : m ≤ 9223372036854775807) : 0 ≤ wrap64 (Int.tmod (IntKind.u64.wrap x) (IntKind.u64.wrap m)) ∧ wrap64 (Int.tmod (IntKind.u64.wrap x) (IntKind.u64.wrap m)) < m := by
 rw [u64_id (x := m) (by omega) (by omega)]
 have h := u64_ge x
 generalize IntKind.u64.wrap x = y at h
 rw [Int.tmod_eq_emod_of_nonneg h]
 have h2 := Int.emod_nonneg y (show m ≠ 0 by omega)
 have h3 := Int.emod_lt_of_pos y (show 0 < m by omega)
 rw [wid_ (by omega) (by omega)]
 exact ⟨h2, h3⟩
section
variable {w0 W : World} {g : Nat} {b : List Int} {A0 : Option Addr} {c0 : Nat}
def ND (w0 W : World) (g : Nat) (A0 : Option Addr) (n c0 : Nat) (p mix size : Int) (W' : World) : Prop := W'.heap[g]? = some (.cells #[.slice A0 n c0, .int .i64 p, .int .u64 mix, .int .i64 size] 104 (0, 0)) ∧ KeepBut W W' g none ∧ Below w0.heap.size w0 W'
theorem ND.rd {n : Nat} {p mix size : Int} {W' : World} (h : ND w0 W g A0 n c0 p mix size W') : (∀ j, W'.cell? ⟨g, j, none⟩ = [Value.slice A0 n c0, .int .i64 p, .int .u64 mix, .int .i64 size][j]?) ∧ ∀ j, W'.frozen? ⟨g, j, none⟩ = false := ⟨fun j => (blk_cell h.1 j).trans (by simp), fun j => blk_frozen h.1 j⟩
theorem ND.drewN {n : Nat} {p mix size : Int} {W' : World} (h : ND w0 W g A0 n c0 p mix size W') (m : Nat) : ND w0 W g A0 n c0 p mix size (W'.drewN m) := ⟨h.1, ⟨h.2.1.1, h.2.1.2⟩, pw_below_drewN h.2.2 m⟩
theorem ND.mix (hg : w0.heap.size ≤ g) {n : Nat} {p mix size : Int} {W' : World} (h : ND w0 W g A0 n c0 p mix size W') (z : Int) : ND w0 W g A0 n c0 p z size (W'.setCell ⟨g, 2, none⟩ (.int .u64 z)) := ⟨blk_put h.1 2 _ rfl, h.2.1.set_ 2 _, below_set (j := 2) h.2.2 hg⟩
theorem ND.at_ (hg : w0.heap.size ≤ g) {n : Nat} {p mix size : Int} {W' : World} (h : ND w0 W g A0 n c0 p mix size W') (z : Int) : ND w0 W g A0 n c0 z mix size (W'.setCell ⟨g, 1, none⟩ (.int .i64 z)) := ⟨blk_put h.1 1 _ rfl, h.2.1.set_ 1 _, below_set (j := 1) h.2.2 hg⟩
def NP (w0 W : World) (g : Nat) (A0 : Option Addr) (n c0 : Nat) (size m : Int) (e : Ending) (w' : World) : Prop := ∃ r p mix : Int, e = .returned (.int .i64 r) ∧ 0 ≤ r ∧ r < m ∧ Aside0 (0 ≤ p ∧ p ≤ n ∧ ND w0 W g A0 n c0 p mix size w')
theorem n_new (hg : w0.heap.size ≤ g) (hC : Kd.C (Kd.int .u8) w0 A0 b.length b) (hb : b.length ≤ 1048576) {p mix size : Int} (h0 : 0 ≤ p) (h1 : p ≤ b.length) (hW : W.heap[g]? = some (.cells #[.slice A0 b.length c0, .int .i64 p, .int .u64 mix, .int .i64 size] 104 (0, 0))) (hB : Below w0.heap.size w0 W) (m : Int) (hm : 2 ≤ m) (hm2 : m ≤ 9223372036854775807) :
  Calls Tryz.prog 69 #[.pointer (some ⟨g, 0, none⟩), .int .i64 m] W (NP w0 W g A0 b.length c0 size m) := by
 have X : Aside0 (ND w0 W g A0 b.length c0 p mix size W) := ⟨hW, KeepBut.refl _ _ _, hB⟩
 have HC := am_ hC
 clear hW hB hC
 have hmn : ¬ m ≤ 1 := by omega
 have hc := X.out.rd
 go_enter Tryz.func69, Tryz.ntmps69
 go_upto_region 4 with (fail)
 repeat (go_quiet (fail); try go_upto_if 17 with (fail))
 go_cut [5] (fun v5 wc => ∃ v p mix : Int, v5 = .int .u64 v ∧ Aside0 (0 ≤ p ∧ p ≤ b.length ∧ ND w0 W g A0 b.length c0 p mix size wc))
 case first =>
  by_cases hp : p < (b.length : Int)
  ·obtain ⟨q, rfl⟩ : ∃ q : Nat, p = q := ⟨p.toNat, by omega⟩
   obtain ⟨ad, rfl, hcb⟩ := Kd.at_int (Kd.C_below HC.out X.out.2.2) q (by omega) (by omega)
   have hq : q < b.length := by omega
   have QP : W.cell? (ad.add q) = some (.int .u8 (rd b (q : Int))) := hcb
   generalize rd b (q : Int) = y at QP
   clear hcb
   go_upto_region 5 with (fail)
   go_quiet (fail)
   go_wp2
   go_meet
   case rel => exact ⟨_, (q : Int) + 1, mix, rfl, ⟨by omega, by omega, (X.out.drewN _).at_ hg _⟩⟩
  ·go_wp2
   go_meet
   case rel => exact ⟨_, p, mix, rfl, ⟨h0, h1, X.out.drewN _⟩⟩
 case rest =>
  clear X hc h0 h1
  obtain ⟨v, p, mix, rfl, ⟨h0, h1, X⟩⟩ := hcut
  go_upto_region 7 with (fail)
  go_cut [] (fun wc => ∃ mix : Int, Aside0 (ND w0 W g A0 b.length c0 p mix size wc))
  case first => (have hc := X.rd; go_region; go_wp2; go_meet; (case rel => exact ⟨_, ⟨(X.drewN _).mix hg _⟩⟩))
  clear X
  obtain ⟨mix, ⟨X⟩⟩ := hcut
  go_upto_region 8 with (fail)
  go_cut [] (fun wc => ∃ mix : Int, Aside0 (ND w0 W g A0 b.length c0 p mix size wc))
  case first => (have hc := X.rd; go_region; go_wp2; go_meet; (case rel => exact ⟨_, ⟨(X.drewN _).mix hg _⟩⟩))
  clear X
  obtain ⟨mix, ⟨X⟩⟩ := hcut
  go_upto_region 9 with (fail)
  go_cut [] (fun wc => ∃ mix : Int, Aside0 (ND w0 W g A0 b.length c0 p mix size wc))
  case first => (have hc := X.rd; go_region; go_wp2; go_meet; (case rel => exact ⟨_, ⟨(X.drewN _).mix hg _⟩⟩))
  clear X
  obtain ⟨mix, ⟨X⟩⟩ := hcut
  have hc := X.rd
  have hmw : IntKind.u64.wrap m = m := u64_id (by omega) (by omega)
  have YI : (m == 0) = false := beq_eq_false_iff_ne.mpr (by omega)
  have hm1 : ¬ m = 0 := by omega
  go_wp2
  go_ret
  have hz := u64_mod (v + mix / 1048576) hm hm2
  rw [hmw] at hz
  exact ⟨_, p, mix, rfl, hz.1, hz.2, ⟨h0, h1, X⟩⟩
theorem n_one (p : Value) (m : Int) (hm : m ≤ 1) : Calls Tryz.prog 69 #[p, .int .i64 m] W fun e w' => e = .returned (.int .i64 0) ∧ w' = W := by
 go_enter Tryz.func69, Tryz.ntmps69
 go_wp2
 go_ret
 exact ⟨rfl, rfl⟩
end
section
variable {w0 W : World} {g : Nat} {b : List Int} {κ : Gh} {l : List (Nat × List Value × Nat)}
theorem nk_w (X : HX w0 W g b κ l) (m : Int) (hm : 2 ≤ m) (hm2 : m ≤ 9223372036854775807) :
  Calls Tryz.prog 69 #[.pointer (some ⟨g, 0, none⟩), .int .i64 m] W fun e w' => ∃ r, e = .returned (.int .i64 r) ∧ 0 ≤ r ∧ r < m ∧ Aside0 (HX w0 w' g b κ l) ∧ KeepBut W w' g none := by
 obtain ⟨A, c, p, mix, size, h1, h2, h3, h4, h5⟩ := X.1
 refine (n_new h2 h3 X.2.2.1 h4 h5 h1 X.2.1 m hm hm2).mono ?_
 rintro e w' ⟨r, p', mix', rfl, r0, r1, ⟨⟨q0, q1, k1, k2, k3⟩⟩⟩
 exact ⟨r, rfl, r0, r1, ⟨X.call ⟨_, _, _, _, _, k1, h2, h3, q0, q1⟩ k3 k2⟩, k2⟩
theorem n_w (X : HX w0 W g b κ l) (m : Int) (hm : 2 ≤ m) (hm2 : m ≤ 9223372036854775807) :
  Calls Tryz.prog 69 #[.pointer (some ⟨g, 0, none⟩), .int .i64 m] W fun e w' => ∃ r, e = .returned (.int .i64 r) ∧ 0 ≤ r ∧ r < m ∧ Aside0 (HX w0 w' g b κ l) := (nk_w X m hm hm2).mono fun _ _ ⟨r, h1, h2, h3, h4, _⟩ => ⟨r, h1, h2, h3, h4⟩
def PB (w0 : World) (g : Nat) (b : List Int) (κ : Gh) (l : List (Nat × List Value × Nat)) (e : Ending) (w' : World) : Prop := ∃ r, e = .returned (.bool r) ∧ Aside0 (HX w0 w' g b κ l)
theorem one_w (X0 : HX w0 W g b κ l) (m : Int) (hm : 2 ≤ m) (hm2 : m ≤ 9223372036854775807) : Calls Tryz.prog 71 #[.pointer (some ⟨g, 0, none⟩), .int .i64 m] W (PB w0 g b κ l) := by
 have X := am_ X0
 clear X0
 go_enter Tryz.func71, Tryz.ntmps71
 go_wp2_with (go_at_call 69; (with_reducible refine (n_w (hx_ X) m hm hm2).mono ?_); rintro e w1 ⟨r, rfl, r0, r1, X⟩)
 go_ret
 exact ⟨_, rfl, X⟩
def PK (w0 W : World) (g : Nat) (b : List Int) (κ : Gh) (l : List (Nat × List Value × Nat)) (L : List ByteArray) (e : Ending) (w' : World) : Prop := ∃ t, e = .returned (.string t) ∧ t ∈ L ∧ Aside0 (HX w0 w' g b κ l) ∧ KeepBut W w' g none
theorem lit_cell (X : HX w0 W g b κ l) (i : Nat) {k j : Nat} (L : List ByteArray) (hi : l[i]? = some (k, L.map Value.string, 9)) (hj : j < L.length) : ∃ t, Aside0 (t ∈ L ∧ W.cell? ⟨k, j, none⟩ = some (.string t)) :=
 ⟨L[j], ⟨List.getElem_mem _, by rw [(X.rd i hi).1, List.getElem?_map, List.getElem?_eq_getElem hj]; rfl⟩⟩
theorem ptk_w (X0 : HX w0 W g b κ l) (i : Nat) {k n : Nat} (L : List ByteArray) (hi : l[i]? = some (k, L.map Value.string, 9)) (hn : L.length = n) (hl : 2 ≤ n) (hl2 : n ≤ 100) :
  Calls Tryz.prog 68 #[.pointer (some ⟨g, 0, none⟩), .slice (some ⟨k, 0, none⟩) n n] W (PK w0 W g b κ l L) := by
 have X := am_ X0
 have HI := am_ hi
 have HN := am_ hn
 clear X0 hi hn
 go_enter Tryz.func68, Tryz.ntmps68
 go_wp2_with (go_at_call 69; (with_reducible refine (nk_w (hx_ X) (n : Int) (by omega) (by omega)).mono ?_); rintro e w1 ⟨r, rfl, r0, r1, X, hk⟩; obtain ⟨j, rfl⟩ : ∃ j : Nat, r = j := ⟨r.toNat, by omega⟩; have hj : j < n := (by omega); obtain ⟨t, ht⟩ := lit_cell X.out i L HI.out (Nat.lt_of_lt_of_eq hj HN.out.symm); have HK := am_ hk; clear hk; have hct := ht.out.2)
 go_ret
 exact ⟨_, rfl, ht.out.1, X, HK.out⟩
theorem pickt_w (X : HX w0 W g b κ l) (i : Nat) {k n : Nat} (L : List ByteArray) (hi : l[i]? = some (k, L.map Value.string, 9)) (hn : L.length = n) (hl : 2 ≤ n) (hl2 : n ≤ 100) :
  Calls Tryz.prog 68 #[.pointer (some ⟨g, 0, none⟩), .slice (some ⟨k, 0, none⟩) n n] W fun e w' => ∃ t, e = .returned (.string t) ∧ t ∈ L ∧ Aside0 (HX w0 w' g b κ l) := (ptk_w X i L hi hn hl hl2).mono fun _ _ ⟨t, h1, h2, h3, _⟩ => ⟨t, h1, h2, h3⟩
theorem pick_w (X : HX w0 W g b κ l) (L : List ByteArray) (hl : 2 ≤ L.length) (hl2 : L.length ≤ 100) :
  Calls Tryz.prog 68 #[.pointer (some ⟨g, 0, none⟩), .slice (some ⟨W.heap.size, 0, none⟩) L.length L.length] (W.alloc (.cells (L.map Value.string).toArray 9)) fun e w' => ∃ t, e = .returned (.string t) ∧ t ∈ L ∧ Aside0 (HX w0 w' g b κ l) :=
 (pickt_w (X.box rfl (heap_alloc_new W (.cells (L.map Value.string).toArray 9)) (below_alloc (Below.refl _ _) _)) 0 L rfl rfl hl hl2).mono fun _ _ ⟨t, h1, h2, h3⟩ => ⟨t, h1, h2, ⟨h3.out.tl⟩⟩
end
theorem nums_of : ∀ {κ : Gh} (xs : List (List Value)), (∀ x ∈ xs, EL κ .y x) → ∃ ys : List Int, xs.flatten = encs (Value.int .u8) ys ∧ ys.length = xs.length
 | _, [], _ => ⟨[], rfl, rfl⟩
 | κ, x :: xs, h => by
  obtain ⟨n, rfl, _⟩ := h x List.mem_cons_self
  obtain ⟨ys, h1, h2⟩ := nums_of xs (fun y hy => h y (List.mem_cons_of_mem _ hy))
  exact ⟨n :: ys, by simp [encs, h1], by simp [h2]⟩
section
variable {w0 W : World} {g : Nat} {b : List Int} {κ : Gh} {l : List (Nat × List Value × Nat)}
theorem words_w (X0 : HX w0 W g b κ l) (x0 x1 x2 x3 n : Int) (h0 : 0 ≤ n) (h1 : n ≤ 64) :
  Calls Tryz.prog 100 #[.pointer (some ⟨g, 0, none⟩), .agg #[.int .i64 x0, .int .i64 x1, .int .i64 x2, .int .i64 x3], .int .i64 n] W (PT w0 g b κ l fun _ v => ∃ t : ByteArray, v = .string t ∧ t.size ≤ 64) := by
 have X := am_ X0
 clear X0
 go_enter Tryz.func100, Tryz.ntmps100
 go_wp2_with (first | ((with_reducible refine gate_dst (N := 4) rfl ?_); refine hb_ X 4 [.int .i64 x0, .int .i64 x1, .int .i64 x2, .int .i64 x3] 134 ?_; intro gx w1 X) | ((with_reducible refine gate_dst (N := 8) rfl ?_); refine hl_ X .y [] (fun _ h => by simp at h) ?_; intro A κ1 w2 X hx hr))
 go_loopg [2, 7] n.toNat (fun kq v2 v7 w' => ∃ (m : Int) (A : Option Addr) (p c : Nat) (κ' : Gh), v2 = .int .i64 m ∧ v7 = .slice A p c ∧ Aside0 (0 ≤ m ∧ m.toNat ≤ kq ∧ p + m.toNat ≤ 64 ∧ SR κ' .y A p c ∧ Ext κ κ') ∧ Aside0 (HX w0 w' g b κ' ((gx, [.int .i64 x0, .int .i64 x1, .int .i64 x2, .int .i64 x3], 134) :: l)))
 case atStart => exact ⟨n, A, 0, 0, κ1, rfl, rfl, ⟨h0, by omega, by omega, hr, hx⟩, ⟨hx_ X⟩⟩
 case round =>
  clear hr hx X
  obtain ⟨m, A, p, c, κ2, rfl, rfl, ⟨m0, m1, m2, hr, hx⟩, X⟩ := hrel
  by_cases hm : 0 < m
  ·have hmb : decide (0 < m) = true := decide_eq_true hm
   cases gk with
   | zero => omega
   | succ k1 =>
    have HR := am_ hr
    have HE := am_ hx
    clear hr hx
    go_wp2_with (first | (go_at_call 69; (with_reducible refine (n_w (hx_ X) 6 (by omega) (by omega)).mono ?_); rintro e w3 ⟨r, rfl, r0, r1, X⟩; have hc := (X.out).rd 0 rfl; have hb := bt_at (⟨#[65, 66, 99, 32, 49, 45]⟩ : ByteArray) r; have hq := bt_range (⟨#[65, 66, 99, 32, 49, 45]⟩ : ByteArray) r) | (at_builtin; refine ha_ .y rfl rfl rfl rfl (hx_ X) HR.out ⟨_, rfl, by omega, by omega⟩ (by omega) ?_; intro A' c' κ' w4 X hx hr))
    all_goals
     go_roundg k1
     case measure => omega
     case rel => exact ⟨_, _, _, _, _, rfl, rfl, ⟨by omega, by omega, by omega, hr, HE.out.trans hx⟩, ⟨hx_ X⟩⟩
  ·have hmb : decide (0 < m) = false := decide_eq_false hm
   obtain ⟨xs, ho, hl, he⟩ := X.out.own hr
   obtain ⟨ys, hy, hyl⟩ := nums_of xs he
   rw [hy] at ho
   have hcv := own_string (P := Tryz.prog) Tryz.underlying37 Tryz.underlying5 Tryz.underlying9 ho
   clear ho hy he
   go_wp2
   go_ret
   exact ⟨_, κ2, rfl, hx, ⟨_, rfl, by rw [YtlghcbmkhdibdaaGreatDoorW.Pl.size_strOf]; omega⟩, ⟨(hx_ X).tl⟩⟩
end
def W70.T12 : Bool × List (List Nat × List Nat) := (true, [([], []), ([0], [0]), ([], []), ([], []), ([], []), ([4], [4]), ([2, 3, 5, 5], [2, 3, 5]), ([6], [6]), ([1, 7, 6], [1, 7]), ([0, 1, 2, 3, 4, 5, 6, 7, 8], []), ([9, 8, 8, 0, 1, 2, 3, 4, 5, 6, 7, 8], [8, 9])])
def W70.B12 : List Nat := [0, 1, 0, 0, 0, 16, 60, 124, 255, 511, 1023]
theorem W70.tab12 : rtab .any (opsOf Tryz.f70 12) = W70.T12 := by kernel_rfl
theorem W70.bits12 : waitsOk W70.T12.2 W70.B12 = true := by kernel_rfl
def W70.T14 : Bool × List (List Nat × List Nat) := (true, [([], []), ([0], [0]), ([], []), ([], []), ([], []), ([4], [4]), ([5], [5]), ([2, 3, 6, 5], [2, 3, 6]), ([1, 0, 1, 2, 3, 4, 5, 6, 7], [1]), ([8, 7, 7, 0, 1, 2, 3, 4, 5, 6, 7], [7, 8])])
def W70.B14 : List Nat := [0, 1, 0, 0, 0, 16, 48, 124, 255, 511]
theorem W70.tab14 : rtab .any (opsOf Tryz.f70 14) = W70.T14 := by kernel_rfl
theorem W70.bits14 : waitsOk W70.T14.2 W70.B14 = true := by kernel_rfl
def W70.T20 : Bool × List (List Nat × List Nat) := (true, [([], []), ([0], [0]), ([], []), ([], []), ([2, 3], [2, 3]), ([], []), ([], []), ([5, 6, 4], [5, 6]), ([4, 7], [4, 7]), ([8], [8]), ([9], [9]), ([1, 10, 7], [1, 10]), ([0, 1, 2, 3, 4, 5, 6, 7, 8, 9, 10, 11], []), ([12, 11, 11, 0, 1, 2, 3, 4, 5, 6, 7, 8, 9, 10, 11], [11, 12])])
def W70.B20 : List Nat := [0, 1, 0, 0, 12, 0, 0, 124, 252, 508, 1020, 2047, 4095, 8191]
theorem W70.tab20 : rtab .any (opsOf Tryz.f70 20) = W70.T20 := by kernel_rfl
theorem W70.bits20 : waitsOk W70.T20.2 W70.B20 = true := by kernel_rfl
section
variable {w0 W : World} {g : Nat} {b : List Int} {κ : Gh} {l : List (Nat × List Value × Nat)}
theorem plain_w (X : HX w0 W g b κ l) : Calls Tryz.prog 99 #[] W fun e w' => e = .returned (.agg #[.int .i64 39, .int .i64 43, .int .i64 58, .int .i64 63]) ∧ Aside0 (HX w0 w' g b κ l) := by
 refine (F99.calls (r1 := 39) (r2 := 43) (r3 := 58) (r4 := 63) (by rfl)).mono ?_
 rintro e w' ⟨rfl, hb⟩
 exact ⟨rfl, ⟨X.below hb⟩⟩
theorem empty_w (X : HX w0 W g b κ l) {B : Option Addr} {j d m : Nat} (hr : SR κ (.t m) B j d) : Calls Tryz.prog 74 #[.agg #[.slice B j d]] W fun e w' => ∃ r, e = .returned (.bool r) ∧ Aside0 (HX w0 w' g b κ l) := by
 obtain ⟨L, rfl, hc, _, hl⟩ := X.texts hr
 have ht : ∃ r, F74.f L = some r := by
  unfold F74.f
  split
  ·rw [if_pos (by omega)]
   exact ⟨_, rfl⟩
  ·exact ⟨_, rfl⟩
 obtain ⟨r, hr⟩ := ht
 refine (F74.calls hc hl hr).mono ?_
 rintro e w' ⟨rfl, hb⟩
 exact ⟨r, rfl, ⟨X.below hb⟩⟩
def tagL : List ByteArray := [⟨#[68, 79, 67]⟩, ⟨#[76, 73, 78]⟩, ⟨#[78, 79, 84]⟩, ⟨#[65, 66, 67]⟩, ⟨#[73, 88, 72]⟩]
theorem tag_ok : ∀ t ∈ tagL, t.size ≤ 64 ∧ ¬ trl t := by decide
theorem mulk {r s : Int} (r0 : 0 ≤ r) (r1 : r < 2) (s0 : 0 ≤ s) (s1 : s < 4) : 1 ≤ wrap64 (1 + wrap64 (r * s)) ∧ wrap64 (1 + wrap64 (r * s)) ≤ 4 := by
 rcases (show r = 0 ∨ r = 1 by omega) with rfl | rfl
 ·simp [wrap64]
 ·rw [Int.one_mul]
  unfold wrap64
  omega
def tagM : List ByteArray := [⟨#[]⟩, ⟨#[65, 66]⟩, ⟨#[65, 66, 67, 68]⟩, ⟨#[65, 66, 49]⟩, ⟨#[97, 98, 99]⟩]
theorem tag_okM : ∀ t ∈ tagM, t.size ≤ 64 ∧ ¬ trl t := by decide
def partL : List ByteArray := [⟨#[10]⟩, ⟨#[255]⟩, ⟨#[97]⟩]
def partM : List ByteArray := [⟨#[]⟩, ⟨#[98]⟩]
theorem part_ok : ∀ t : ByteArray, (t ∈ partL ∨ t ∈ partM) → t.size ≤ 4096 := by
 intro t h
 rcases h with h | h
 ·exact (by decide : ∀ t ∈ partL, t.size ≤ 4096) t h
 ·exact (by decide : ∀ t ∈ partM, t.size ≤ 4096) t h
theorem seg_w (X0 : HX w0 W g b κ l) : Calls Tryz.prog 70 #[.pointer (some ⟨g, 0, none⟩)] W (PT w0 g b κ l fun κ' v => ∃ (t : ByteArray) (u : Value), v = .agg #[.string t, u] ∧ t.size ≤ 64 ∧ ¬ trl t ∧ SV κ' (.e 4096) u) := by
 have dk := Tryz.underlying49
 have Kx := Tryz.underlying134
 have kX := Tryz.underlying91
 have X := am_ X0
 clear X0
 go_enter Tryz.func70, Tryz.ntmps70
 go_upto_if 16 with (first | ((with_reducible refine gate_dst (N := 2) rfl ?_); refine hb_ X 2 [.string ⟨#[]⟩, .slice none 0 0] 49 ?_; intro gr w1 X) | (go_at_call 99; (with_reducible refine (plain_w (hx_ X)).mono ?_); rintro e w2 ⟨rfl, X⟩) | ((with_reducible refine gate_dst (N := 3) rfl ?_); refine hb_ X 3 [.int .i64 0, .int .i64 0, .int .i64 0, .int .i64 0] 134 ?_; intro gx w1 X) | ((with_reducible refine gate_store (t := 134) (p := 3) rfl ?_); refine hv_ X 0 0 [.int .i64 39, .int .i64 43, .int .i64 58, .int .i64 63] rfl rfl ?_; intro w1 X) | (go_at_call 68; refine (pick_w (hx_ X) tagL (by decide) (by decide)).mono ?_; rintro e w2 ⟨t, rfl, ht, X⟩) | ((with_reducible refine gate_dst (N := 4) rfl ?_); refine hb_ X 4 [.string ⟨#[]⟩, .slice none 0 0] 49 ?_; intro gg w1 X) | ((with_reducible refine gate_store (t := 49) (p := 4) rfl ?_); refine hv_ X 0 0 [.string t, .slice none 0 0] rfl rfl ?_; intro w1 X) | (go_at_call 69; (with_reducible refine (n_w (hx_ X) 5 (by omega) (by omega)).mono ?_); rintro e w3 ⟨r, rfl, r0, r1, X⟩) | (go_at_call 71; (with_reducible refine (one_w (hx_ X) _ (by omega) (by omega)).mono ?_); rintro e w3 ⟨q, rfl, X⟩))
 have HT := am_ (tag_ok t ht)
 clear ht
 go_cut [5] (fun v5 wc => ∃ n : Int, v5 = .int .i64 n ∧ Aside0 (0 ≤ n ∧ n ≤ 11) ∧ Aside0 (HX w0 wc g b κ ((gg, [.string t, .slice none 0 0], 49) :: (gx, [.int .i64 39, .int .i64 43, .int .i64 58, .int .i64 63], 134) :: (gr, [.string ⟨#[]⟩, .slice none 0 0], 49) :: l)))
 case first =>
  cases q
  ·go_wp2
   go_meet
   case rel => exact ⟨_, rfl, ⟨by omega, by omega⟩, ⟨hx_ X⟩⟩
  ·go_wp2_with (go_at_call 69; (with_reducible refine (n_w (hx_ X) 3 (by omega) (by omega)).mono ?_); rintro e w3 ⟨s, rfl, s0, s1, X⟩)
   go_meet
   case rel => exact ⟨_, rfl, ⟨by omega, by omega⟩, ⟨hx_ X⟩⟩
 case rest =>
  clear X r0 r1
  obtain ⟨n, rfl, ⟨n0, n1⟩, X⟩ := hcut
  go_wp2
  go_loopg [5] n.toNat (fun kq v5 w' => ∃ (m : Int) (A : Option Addr) (p c : Nat) (κ' : Gh), v5 = .int .i64 m ∧ Aside0 (0 ≤ m ∧ m.toNat ≤ kq ∧ p + m.toNat ≤ 11 ∧ SR κ' (.e 4096) A p c ∧ Ext κ κ') ∧ Aside0 (HX w0 w' g b κ' ((gg, [.string t, .slice A p c], 49) :: (gx, [.int .i64 39, .int .i64 43, .int .i64 58, .int .i64 63], 134) :: (gr, [.string ⟨#[]⟩, .slice none 0 0], 49) :: l)))
  case atStart => exact ⟨n, none, 0, 0, κ, rfl, ⟨n0, by omega, by omega, .inl ⟨rfl, rfl, rfl⟩, Ext.refl _⟩, ⟨hx_ X⟩⟩
  case round =>
   clear X n0 n1
   obtain ⟨m, A, p, c, κ2, rfl, ⟨m0, m1, m2, hr, hx⟩, X⟩ := hrel
   have HR := am_ hr
   have HE := am_ hx
   clear hr hx
   by_cases hm : 0 < m
   ·have hmb : decide (0 < m) = true := decide_eq_true hm
    cases gk with
    | zero => omega
    | succ k1 =>
     go_wp2_with (first | ((with_reducible refine gate_dst (N := 6) rfl ?_); refine hb_ X 6 [.slice none 0 0] 91 ?_; intro ge w1 X) | ((with_reducible refine gate_store (t := 91) (p := 6) rfl ?_); refine hv_ X 0 0 [.slice none 0 0] rfl rfl ?_; intro w1 X) | (go_at_call 69; (with_reducible refine (n_w (hx_ X) 2 (by omega) (by omega)).mono ?_); rintro e w3 ⟨r, rfl, r0, r1, X⟩) | (go_at_call 69; (with_reducible refine (n_w (hx_ X) 4 (by omega) (by omega)).mono ?_); rintro e w3 ⟨s, rfl, s0, s1, X⟩))
     obtain ⟨k0, k4⟩ := mulk r0 r1 s0 s1
     go_loopg [7] 4 (fun kq v7 w' => ∃ (q : Int) (B : Option Addr) (i d : Nat) (κ' : Gh), v7 = .int .i64 q ∧ Aside0 (0 ≤ q ∧ q.toNat ≤ kq ∧ 1 ≤ i + q.toNat ∧ i + q.toNat ≤ 4 ∧ SR κ' (.t 4096) B i d ∧ Ext κ2 κ') ∧ Aside0 (HX w0 w' g b κ' ((ge, [.slice B i d], 91) :: (gg, [.string t, .slice A p c], 49) :: (gx, [.int .i64 39, .int .i64 43, .int .i64 58, .int .i64 63], 134) :: (gr, [.string ⟨#[]⟩, .slice none 0 0], 49) :: l)))
     case atStart => exact ⟨_, none, 0, 0, κ2, rfl, ⟨by omega, by omega, by omega, by omega, .inl ⟨rfl, rfl, rfl⟩, Ext.refl _⟩, ⟨hx_ X⟩⟩
     case round =>
      clear X r0 r1 s0 s1 k0 k4
      obtain ⟨q, B, i, d, κ3, rfl, ⟨q0, q1, q2, q3, hs, hx⟩, X⟩ := hrel
      have HB := am_ hs
      have HF := am_ hx
      clear hs hx
      by_cases hq : 0 < q
      ·have hqb : decide (0 < q) = true := decide_eq_true hq
       cases gk with
       | zero => omega
       | succ k2 =>
        go_upto_region 12 with (fail)
        refine start_ (n := 11) (S := HS w0 g b κ3 ((ge, [.slice B i d], 91) :: (gg, [.string t, .slice A p c], 49) :: (gx, [.int .i64 39, .int .i64 43, .int .i64 58, .int .i64 63], 134) :: (gr, [.string ⟨#[]⟩, .slice none 0 0], 49) :: l)) (ds := [10]) (bs 11 0) (by kernel_rfl) rfl rfl (hs_w X) (fun hHeld => ?_)
        refine with_tabW W70.tab12 W70.bits12 (fun HT_ HW_ => ?_)
        obtain ⟨w1, ey, X⟩ := drw_ X
        rw [← ey] at hHeld ⊢
        clear ey
        refine pq_ 0 HT_ ?_
        refine pq_ 2 HT_ ?_
        refine pq_ 4 HT_ ?_
        refine tq_ 1 HT_ HW_ hHeld rfl (ld_ 0 rfl) ?_
        refine tq_ 3 HT_ HW_ hHeld rfl (ld_ 2 rfl) ?_
        refine oq_ 5 HT_ (fun K hK => ?_)
        refine gr_ Tryz.func69 #[.pointer (some ⟨g, 0, none⟩), .int .i64 6] (by rfl) ?_ rfl rfl rfl
        with_reducible refine (n_w X.out 6 (by omega) (by omega)).mono ?_
        rintro e w3 ⟨r, rfl, r0, r1, X⟩
        refine ⟨_, rfl, ?_⟩
        refine hK.out _ _ (hs_ (Ext.refl _) X) (fun hHeld => ?_)
        clear hK K
        refine no_ 40 ?_
        refine oq_ 6 HT_ (fun K hK => ?_)
        refine gr_ Tryz.func100 #[.pointer (some ⟨g, 0, none⟩), .agg #[.int .i64 39, .int .i64 43, .int .i64 58, .int .i64 63], .int .i64 r] (by rfl) ?_ rfl rfl rfl
        with_reducible refine (words_w X.out 39 43 58 63 r (by omega) (by omega)).mono ?_
        rintro e w4 ⟨_, κ4, rfl, hx, ⟨s, rfl, hs⟩, X⟩
        refine ⟨_, rfl, ?_⟩
        refine hK.out _ _ (hs_ hx X) (fun hHeld => ?_)
        clear hK K
        refine no_ 41 ?_
        refine oq_ 7 HT_ (fun K hK => ?_)
        refine rb_ 42 1 [.string s] 9 ?_
        refine hK.out _ _ (hs_ hx X) (fun hHeld => ?_)
        clear hK K
        refine no_ 42 ?_
        refine oq_ 8 HT_ (fun K hK => ?_)
        refine has_ (.t 4096) rfl rfl rfl rfl X.out (HB.out.ext hx) ⟨_, rfl, by omega⟩ (by omega) ?_
        intro A' c' κ' w5 X dM hr
        refine hK.out _ _ (hs_ (hx.trans dM) X) (fun hHeld => ?_)
        clear hK K
        refine no_ 43 ?_
        refine pq_ 9 HT_ ?_
        refine lq_ 10 HT_ (fun K hK => ?_)
        refine rv_ X 0 0 [.slice A' (i + 1) c'] rfl ?_
        intro w6 X
        refine hK.out _ _ ?_
        clear hK K
        refine done_ (done_of HT_.out (by kernel_rfl)) ?_
        go_wp2
        go_roundg k2
        case measure => omega
        case rel => exact ⟨_, _, _, _, κ', rfl, ⟨by omega, by omega, by omega, by omega, hr, (HF.out.trans hx).trans dM⟩, ⟨hx_ X⟩⟩
      ·have hqb : decide (0 < q) = false := decide_eq_false hq
       obtain ⟨kb, rfl⟩ := HB.out.some (show 0 < i by omega)
       go_upto_if 46 with (go_at_call 71; (with_reducible refine (one_w (hx_ X) _ (by omega) (by omega)).mono ?_); rintro e w3 ⟨f, rfl, X⟩)
       go_cut [] (fun wc => ∃ κ' : Gh, Aside0 (Ext κ3 κ') ∧ Aside0 (HX w0 wc g b κ' ((ge, [.slice (some ⟨kb, 0, none⟩) i d], 91) :: (gg, [.string t, .slice A p c], 49) :: (gx, [.int .i64 39, .int .i64 43, .int .i64 58, .int .i64 63], 134) :: (gr, [.string ⟨#[]⟩, .slice none 0 0], 49) :: l)))
       case first =>
        cases f
        ·go_wp2
         go_meet
         case rel => exact ⟨κ3, ⟨Ext.refl _⟩, ⟨hx_ X⟩⟩
        ·go_upto_region 14 with (fail)
         have hi0 : 0 < i := by omega
         refine start_ (n := 10) (S := HS w0 g b κ3 ((ge, [.slice (some ⟨kb, 0, none⟩) i d], 91) :: (gg, [.string t, .slice A p c], 49) :: (gx, [.int .i64 39, .int .i64 43, .int .i64 58, .int .i64 63], 134) :: (gr, [.string ⟨#[]⟩, .slice none 0 0], 49) :: l)) (ds := [9]) (bs 10 0) (by kernel_rfl) rfl rfl (hs_w X) (fun hHeld => ?_)
         refine with_tabW W70.tab14 W70.bits14 (fun HT_ HW_ => ?_)
         obtain ⟨w1, ey, X⟩ := drw_ X
         rw [← ey] at hHeld ⊢
         clear ey
         refine pq_ 0 HT_ ?_
         refine pq_ 2 HT_ ?_
         refine pq_ 4 HT_ ?_
         refine tq_ 1 HT_ HW_ hHeld rfl (ld_ 0 rfl) ?_
         refine tq_ 3 HT_ HW_ hHeld rfl (ld_ 2 rfl) ?_
         refine oq_ 5 HT_ (fun K hK => ?_)
         refine gr_ Tryz.func69 #[.pointer (some ⟨g, 0, none⟩), .int .i64 3] (by rfl) ?_ rfl rfl rfl
         with_reducible refine (n_w X.out 3 (by omega) (by omega)).mono ?_
         rintro e w3 ⟨r, rfl, r0, r1, X⟩
         refine ⟨_, rfl, ?_⟩
         refine hK.out _ _ (hs_ (Ext.refl _) X) (fun hHeld => ?_)
         clear hK K
         refine no_ 52 ?_
         refine pq_ 6 HT_ ?_
         refine oq_ 7 HT_ (fun K hK => ?_)
         refine gr_ Tryz.func100 #[.pointer (some ⟨g, 0, none⟩), .agg #[.int .i64 39, .int .i64 43, .int .i64 58, .int .i64 63], .int .i64 (wrap64 (39 + r))] (by rfl) ?_ rfl rfl rfl
         with_reducible refine (words_w X.out 39 43 58 63 (wrap64 (39 + r)) (by unfold wrap64; omega) (by unfold wrap64; omega)).mono ?_
         rintro e w4 ⟨_, κ4, rfl, hx, ⟨s, rfl, hs⟩, X⟩
         refine ⟨_, rfl, ?_⟩
         refine hK.out _ _ (hs_ hx X) (fun hHeld => ?_)
         clear hK K
         refine no_ 54 ?_
         refine pq_ 8 HT_ ?_
         refine lq_ 9 HT_ (fun K hK => ?_)
         refine rp_ X (HB.out.ext hx) 0 0 0 (by omega) (by decide) (.string s) (fun _ ⟨_, h1, _⟩ => ⟨s, by rw [h1]; rfl, by omega⟩) ?_
         intro w6 X _
         refine hK.out _ _ ?_
         clear hK K
         refine done_ (done_of HT_.out (by kernel_rfl)) ?_
         go_wp2
         go_meet
         case rel => exact ⟨κ4, ⟨hx⟩, ⟨hx_ X⟩⟩
       case rest =>
        clear X
        obtain ⟨κ4, ⟨hx⟩, X⟩ := hcut
        have hc := (X.out).rd 0 rfl
        have hc1 := (X.out).rd 1 rfl
        go_wp2_with (first | (at_builtin; refine ha_ (.e 4096) rfl rfl rfl rfl (hx_ X) (HR.out.ext (HF.out.trans hx)) ⟨_, rfl, (HB.out.ext hx).mk (show _ ≤ 64 by omega)⟩ (by omega) ?_; intro A' c' κ' w4 X dM hr) | ((with_reducible refine gate_store (t := 47) (p := 61) rfl ?_); refine hv_ X 1 1 [.slice A' (p + 1) c'] rfl rfl ?_; intro w1 X))
        go_roundg k1
        case measure => omega
        case rel => exact ⟨_, _, _, _, _, rfl, ⟨by omega, by omega, by omega, hr, HE.out.trans (HF.out.trans (hx.trans dM))⟩, ⟨X.out.tl⟩⟩
   ·have hmb : decide (0 < m) = false := decide_eq_false hm
    clear m1
    go_upto_block 4 with (fail)
    go_cut [] (fun wc => ∃ (n : Nat) (κ' : Gh), Aside0 (n ≤ 11 ∧ SR κ' (.e 4096) A n c ∧ Ext κ κ') ∧ Aside0 (HX w0 wc g b κ' ((gg, [.string t, .slice A n c], 49) :: (gx, [.int .i64 39, .int .i64 43, .int .i64 58, .int .i64 63], 134) :: (gr, [.string ⟨#[]⟩, .slice none 0 0], 49) :: l)))
    case first =>
     go_wp2
     go_loopg [] p (fun kq w' => ∃ (n : Nat) (κ' : Gh), Aside0 (n ≤ kq ∧ n ≤ 11 ∧ SR κ' (.e 4096) A n c ∧ Ext κ κ') ∧ Aside0 (HX w0 w' g b κ' ((gg, [.string t, .slice A n c], 49) :: (gx, [.int .i64 39, .int .i64 43, .int .i64 58, .int .i64 63], 134) :: (gr, [.string ⟨#[]⟩, .slice none 0 0], 49) :: l)))
     case atStart => exact ⟨p, κ2, ⟨Nat.le_refl _, by omega, HR.out, HE.out⟩, ⟨hx_ X⟩⟩
     case round =>
      clear X HR HE m0 m2 hmb
      obtain ⟨n, κ3, ⟨n1, n2, hr, hx⟩, X⟩ := hrel
      have HR := am_ hr
      have HE := am_ hx
      clear hr hx
      have hc := (X.out).rd 0 rfl
      cases n with
      | zero =>
       go_wp2
       go_meet
       case rel => exact ⟨0, κ3, ⟨by omega, HR.out, HE.out⟩, ⟨hx_ X⟩⟩
      | succ q =>
       obtain ⟨ka, rfl⟩ := HR.out.some (show 0 < q + 1 by omega)
       obtain ⟨B, j, d, hce, hs, hj⟩ := X.out.el HR.out (show q < q + 1 by omega)
       have HS' := am_ hs
       have hqc := HR.out.le
       clear hs
       cases gk with
       | zero => omega
       | succ k1 =>
        go_wp2_with (first | (go_at_call 74; (with_reducible refine (empty_w (hx_ X) HS'.out).mono ?_); rintro e w2 ⟨r, rfl, X⟩; have hc := (X.out).rd 0 rfl) | (go_at_call 71; (with_reducible refine (one_w (hx_ X) _ (by omega) (by omega)).mono ?_); rintro e w3 ⟨f, rfl, X⟩; have hc := (X.out).rd 0 rfl) | ((with_reducible refine gate_store (t := 47) (p := 89) rfl ?_); refine hv_ X 0 1 [.slice (some ⟨ka, 0, none⟩) q c] rfl rfl ?_; intro w1 X))
        ·go_roundg k1
         case measure => omega
         case rel => exact ⟨q, κ3, ⟨by omega, by omega, HR.out.cut (by omega), HE.out⟩, ⟨hx_ X⟩⟩
        all_goals
         go_meet
         case rel => exact ⟨q + 1, κ3, ⟨by omega, HR.out, HE.out⟩, ⟨hx_ X⟩⟩
    case rest =>
     clear X HR HE m0 m2 hmb
     obtain ⟨n, κ3, ⟨n1, hr, hx⟩, X⟩ := hcut
     have HR := am_ hr
     have HE := am_ hx
     clear hr hx
     go_upto_if 91 with (go_at_call 71; (with_reducible refine (one_w (hx_ X) _ (by omega) (by omega)).mono ?_); rintro e w3 ⟨f, rfl, X⟩)
     go_cut [] (fun wc => ∃ (t : ByteArray) (A : Option Addr) (n c : Nat) (κ' : Gh), Aside0 (n ≤ 12 ∧ SR κ' (.e 4096) A n c ∧ Ext κ κ' ∧ t.size ≤ 64 ∧ ¬ trl t) ∧ Aside0 (HX w0 wc g b κ' ((gg, [.string t, .slice A n c], 49) :: (gx, [.int .i64 39, .int .i64 43, .int .i64 58, .int .i64 63], 134) :: (gr, [.string ⟨#[]⟩, .slice none 0 0], 49) :: l)))
     case first =>
      cases f
      ·go_wp2
       go_meet
       case rel => exact ⟨t, A, n, c, κ3, ⟨by omega, HR.out, HE.out, HT.out⟩, ⟨hx_ X⟩⟩
      ·go_wp2_with (first | (go_at_call 69; (with_reducible refine (n_w (hx_ X) 3 (by omega) (by omega)).mono ?_); rintro e w3 ⟨r, rfl, r0, r1, X⟩; have hc := (X.out).rd 0 rfl) | (go_at_call 68; refine (pick_w (hx_ X) tagM (by decide) (by decide)).mono ?_; rintro e w2 ⟨t2, rfl, ht, X⟩) | ((with_reducible refine gate_store (t := 9) (p := 112) rfl ?_); refine hv_ X 0 0 [.string t2] rfl rfl ?_; intro w1 X) | (at_builtin; refine ha_ (.e 4096) rfl rfl rfl rfl (hx_ X) HR.out ⟨_, rfl, SV.nil _ _⟩ (by omega) ?_; intro A' c' κ' w4 X dM hr) | ((with_reducible refine gate_store (t := 47) (p := 120) rfl ?_); refine hv_ X 0 1 [.slice A' (n + 1) c'] rfl rfl ?_; intro w1 X))
       ·go_meet
        case rel => exact ⟨t2, A, n, c, κ3, ⟨by omega, HR.out, HE.out, tag_okM t2 ht⟩, ⟨hx_ X⟩⟩
       ·go_meet
        case rel => exact ⟨t, A', n + 1, c', κ', ⟨by omega, hr, HE.out.trans dM, HT.out⟩, ⟨hx_ X⟩⟩
       refine start_ (n := 14) (S := HS w0 g b κ3 ((gg, [.string t, .slice A n c], 49) :: (gx, [.int .i64 39, .int .i64 43, .int .i64 58, .int .i64 63], 134) :: (gr, [.string ⟨#[]⟩, .slice none 0 0], 49) :: l)) (ds := [13]) (bs 14 0) (by kernel_rfl) rfl rfl (hs_w X) (fun hHeld => ?_)
       refine with_tabW W70.tab20 W70.bits20 (fun HT_ HW_ => ?_)
       obtain ⟨w1, ey, X⟩ := drw_ X
       rw [← ey] at hHeld ⊢
       clear ey
       refine pq_ 0 HT_ ?_
       refine pq_ 2 HT_ ?_
       refine pq_ 5 HT_ ?_
       refine tq_ 1 HT_ HW_ hHeld rfl (ld_ 0 rfl) ?_
       refine join_ (σ := ByteArray × Nat × Nat) 7 (bs 14 127) (fun s => [(97, .slice (some ⟨s.2.1, 0, none⟩) 3 3), (98, .string s.1), (100, .slice (some ⟨s.2.2, 0, none⟩) 2 2)]) (fun s w' => s.1 ∈ partL ∧ HX w0 w' g b κ3 ((s.2.2, partM.map Value.string, 9) :: (gg, [.string t, .slice A n c], 49) :: (gx, [.int .i64 39, .int .i64 43, .int .i64 58, .int .i64 63], 134) :: (gr, [.string ⟨#[]⟩, .slice none 0 0], 49) :: l)) ?_ ?_
       rotate_left
       ·intro hCont
        refine two_ (i := 3) (j := 6) (Ni := some 97) (Nj := some 100) (bs 14 47) (bs 14 103) rfl rfl rfl rfl (two_of HT_.out (by kernel_rfl)) (by decide) (by decide) (fun K hK => ?_) (fun K hK => ?_)
        rotate_left
        ·refine rt_ X 100 2 partM ?_
         intro k6 w4 X Y
         refine hK.out _ _ (hs_ (Ext.refl _) ⟨Y⟩) (fun hHeld => ?_)
         clear hK K
         refine no_ 100 ?_
         refine oq_ 3 HT_ (fun K hK => ?_)
         refine rt_ X 97 3 partL ?_
         intro k3 w4 X Y
         refine hK.out _ _ (hs_ (Ext.refl _) ⟨Y.tl⟩) (fun hHeld => ?_)
         clear hK K
         refine no_ 97 ?_
         refine oq_ 4 HT_ (fun K hK => ?_)
         refine gr_ Tryz.func68 #[.pointer (some ⟨g, 0, none⟩), .slice (some ⟨k3, 0, none⟩) 3 3] (by rfl) ?_ rfl rfl rfl
         refine (pickt_w X.out 0 partL rfl rfl (by decide) (by decide)).mono ?_
         rintro e w4 ⟨t1, rfl, xr, X⟩
         refine ⟨_, rfl, ?_⟩
         refine hK.out _ _ (hs_ (Ext.refl _) ⟨X.out.tl.tl⟩) (fun hHeld => ?_)
         clear hK K
         refine no_ 98 ?_
         exact norm_ ax56_ (hCont (t1, k3, k6) _ ⟨xr, X.out.tl⟩)
        refine rt_ X 97 3 partL ?_
        intro k3 w4 X Y
        refine hK.out _ _ (hs_ (Ext.refl _) ⟨Y⟩) (fun hHeld => ?_)
        clear hK K
        refine no_ 97 ?_
        refine two_ (i := 4) (j := 6) (Ni := some 98) (Nj := some 100) (bs 14 63) (bs 14 111) rfl rfl rfl rfl (two_of HT_.out (by kernel_rfl)) (by decide) (by decide) (fun K hK => ?_) (fun K hK => ?_)
        ·refine gr_ Tryz.func68 #[.pointer (some ⟨g, 0, none⟩), .slice (some ⟨k3, 0, none⟩) 3 3] (by rfl) ?_ rfl rfl rfl
         refine (pickt_w X.out 0 partL rfl rfl (by decide) (by decide)).mono ?_
         rintro e w4 ⟨t1, rfl, xr, X⟩
         refine ⟨_, rfl, ?_⟩
         refine hK.out _ _ (hs_ (Ext.refl _) ⟨X.out.tl⟩) (fun hHeld => ?_)
         clear hK K
         refine no_ 98 ?_
         refine oq_ 6 HT_ (fun K hK => ?_)
         refine rt_ X 100 2 partM ?_
         intro k6 w4 X Y
         refine hK.out _ _ (hs_ (Ext.refl _) ⟨Y.tl⟩) (fun hHeld => ?_)
         clear hK K
         refine no_ 100 ?_
         exact norm_ ax56_ (hCont (t1, k3, k6) _ ⟨xr, X.out.sub ((List.sublist_cons_self _ _).cons_cons _)⟩)
        refine rt_ X 100 2 partM ?_
        intro k6 w4 X Y
        refine hK.out _ _ (hs_ (Ext.refl _) ⟨Y.tl⟩) (fun hHeld => ?_)
        clear hK K
        refine no_ 100 ?_
        refine oq_ 4 HT_ (fun K hK => ?_)
        refine gr_ Tryz.func68 #[.pointer (some ⟨g, 0, none⟩), .slice (some ⟨k3, 0, none⟩) 3 3] (by rfl) ?_ rfl rfl rfl
        refine (pickt_w X.out 1 partL rfl rfl (by decide) (by decide)).mono ?_
        rintro e w4 ⟨t1, rfl, xr, X⟩
        refine ⟨_, rfl, ?_⟩
        refine hK.out _ _ (hs_ (Ext.refl _) ⟨X.out.tl.tl⟩) (fun hHeld => ?_)
        clear hK K
        refine no_ 98 ?_
        exact norm_ ax56_ (hCont (t1, k3, k6) _ ⟨xr, X.out.sub ((List.sublist_cons_self _ _).cons_cons _)⟩)
       rintro ⟨t1, k3, k6⟩ w4 ⟨xr, X⟩
       replace X := am_ X
       refine norm_ (by simp only [putAll, Act.put, List.setIfInBounds_toArray, List.set_cons_zero, List.set_cons_succ]; rfl) ?_
       refine oq_ 7 HT_ (fun K hK => ?_)
       refine gr_ Tryz.func68 #[.pointer (some ⟨g, 0, none⟩), .slice (some ⟨k6, 0, none⟩) 2 2] (by rfl) ?_ rfl rfl rfl
       refine (pickt_w X.out 0 partM rfl rfl (by decide) (by decide)).mono ?_
       rintro e w4 ⟨t2, rfl, At, Y⟩
       have X := am_ Y.out.tl
       refine ⟨_, rfl, ?_⟩
       refine hK.out _ _ (hs_ (Ext.refl _) X) (fun hHeld => ?_)
       clear hK K
       refine no_ 101 ?_
       refine oq_ 8 HT_ (fun K hK => ?_)
       refine rl_ X 102 (.t 4096) [[.string t1], [.string t2]] (by intro x hx; simp at hx; rcases hx with rfl | rfl <;> first | exact ⟨_, rfl, part_ok _ (.inl xr)⟩ | exact ⟨_, rfl, part_ok _ (.inr At)⟩) ?_
       intro B κ4 w5 X hx hr
       refine hK.out _ _ (hs_ hx X) (fun hHeld => ?_)
       clear hK K
       refine no_ 102 ?_
       refine pq_ 9 HT_ ?_
       refine oq_ 10 HT_ (fun K hK => ?_)
       refine rb_ 104 1 [.slice B 2 2] 91 ?_
       refine hK.out _ _ (hs_ hx X) (fun hHeld => ?_)
       clear hK K
       refine no_ 104 ?_
       refine oq_ 11 HT_ (fun K hK => ?_)
       refine has_ (.e 4096) rfl rfl rfl rfl X.out (HR.out.ext hx) ⟨_, rfl, hr.mk (by simp [Kn.mx])⟩ (by omega) ?_
       intro A' c' κ' w5 X dM hr2
       refine hK.out _ _ (hs_ (hx.trans dM) X) (fun hHeld => ?_)
       clear hK K
       refine no_ 105 ?_
       refine pq_ 12 HT_ ?_
       refine lq_ 13 HT_ (fun K hK => ?_)
       refine rv_ X 0 1 [.slice A' (n + 1) c'] rfl ?_
       intro w6 X
       refine hK.out _ _ ?_
       clear hK K
       refine done_ (done_of HT_.out (by kernel_rfl)) ?_
       go_wp2
       go_meet
       case rel => exact ⟨t, A', n + 1, c', κ', ⟨by omega, hr2, HE.out.trans (hx.trans dM), HT.out⟩, ⟨hx_ X⟩⟩
     case rest =>
      clear X HR HE HT n1
      obtain ⟨t, A, n, c, κ4, ⟨n1, hr, hx, ht⟩, X⟩ := hcut
      have HP := am_ (And.intro hr (And.intro hx ht))
      clear hr hx ht
      have hc := (X.out).rd 0 rfl
      go_wp2_with (first | ((with_reducible refine gate_store (t := 49) (p := 2) rfl ?_); refine hv_ X 2 0 [.string t, .slice A n c] rfl rfl ?_; intro w1 X))
      refine bodyPost_ret (results_cell_row rfl _ _ gr 49 #[.string t, .slice A n c] (0, 0) _ rfl (X.out.get 2 rfl) Tryz.underlying49 rfl (by kernel_rfl)) rfl ?_
      exact ⟨_, κ4, rfl, HP.out.2.1, ⟨t, _, rfl, HP.out.2.2.1, HP.out.2.2.2, HP.out.1.mk (show _ ≤ 64 by omega)⟩, ⟨X.out.tl.tl.tl⟩⟩
end
end Go.Proofs.YtlghcbmkhdibdaaGreatDoor.PFnEnvelopes
