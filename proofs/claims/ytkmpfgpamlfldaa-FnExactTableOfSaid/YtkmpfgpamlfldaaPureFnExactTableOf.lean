/- The law FnExactTableOf as a statement over numbers and lists alone: the two TableOfs tell the same rows, in memory of their own.
Conditions: none. -/
import Derived.Test.YtkmpfgpamlfldaaPFnExactTableOfx
import Derived.Test.YtkmpfgpamlfldaaPl
namespace Go.Proofs.Ytkmpfgpamlfldaa.Pure
open Go.RowKit Go.Proofs.Ytkmpfgpamlfldaa.PFnExactTableOf Go.Proofs.YtkmpfgpamlfldaaW.PrintWords Go.Proofs.YtkmpfgpamlfldaaW.PrintLast Go.Proofs.YtkmpfgpamlfldaaW.PrintMore Go.Proofs.YtkmpfgpamlfldaaW.Pl
set_option linter.unusedVariables false
set_option linter.unusedSimpArgs false

theorem tables_at (n : Int) (h : n = 1 ∨ n = 2 ∨ n = 3 ∨ n = 4 ∨ n = 5 ∨ n = 6 ∨ n = 7) : (∀ m, spec_TableOf.f (m + 1) n = some ((spec_TableOf.f 1 n).getD [])) ∧ (∀ m, impl_tableOf.f (m + 1) n = some ((spec_TableOf.f 1 n).getD [])) ∧ ((spec_TableOf.f 1 n).getD []).length ≤ 3 := by
  rcases h with rfl | rfl | rfl | rfl | rfl | rfl | rfl <;> exact ⟨fun m => rfl, fun m => rfl, by decide⟩
theorem tables (n : Int) : ∃ L, Ev (fun k => spec_TableOf.f k n) L ∧ Ev (fun k => impl_tableOf.f k n) L ∧ L.length ≤ 3 := by
  by_cases h : n = 1 ∨ n = 2 ∨ n = 3 ∨ n = 4 ∨ n = 5 ∨ n = 6 ∨ n = 7
  · obtain ⟨h1, h2, h3⟩ := tables_at n h
    refine ⟨_, ⟨1, fun k hk => ?_⟩, ⟨1, fun k hk => ?_⟩, h3⟩
    · obtain ⟨m, rfl⟩ : ∃ m, k = m + 1 := ⟨k - 1, by omega⟩
      exact h1 m
    · obtain ⟨m, rfl⟩ : ∃ m, k = m + 1 := ⟨k - 1, by omega⟩
      exact h2 m
  · have e4 : (n == 4) = false := beq_eq_false_iff_ne.2 (by omega)
    refine ⟨[], ?_, ?_, by simp⟩
    · unfold spec_TableOf.f
      refine Ev.neg (by omega) (Ev.neg (by omega) (Ev.step (fun k => spec_TableOf.j0.eq_2 ..) ?_))
      exact Ev.neg (by simp [e4]) (Ev.neg (by omega) (Ev.neg (by omega) (Ev.neg (by omega) (Ev.neg (by omega) (Ev.now _)))))
    · unfold impl_tableOf.f
      refine Ev.neg (by omega) (Ev.neg (by omega) (Ev.step (fun k => impl_tableOf.j0.eq_2 ..) ?_))
      exact Ev.neg (by simp [e4]) (Ev.neg (by omega) (Ev.neg (by omega) (Ev.neg (by omega) (Ev.neg (by omega) (Ev.now _)))))

/-- A comparison of lists, place by place: of one list with itself. -/
theorem eqs_refl {α : Type} (Q : Nat → List α → List α → Int → Option Bool) (L : List α) (hs : ∀ i : Nat, i < L.length → Ev (fun k => Q k L L ((i + 1 : Nat) : Int)) true → Ev (fun k => Q k L L (i : Int)) true) (h0 : ∀ i : Nat, L.length ≤ i → Ev (fun k => Q k L L (i : Int)) true) : ∀ (d i : Nat), L.length - i = d → Ev (fun k => Q k L L (i : Int)) true
  | 0, i, h => h0 i (by omega)
  | d + 1, i, h => hs i (by omega) (eqs_refl Q L hs h0 d (i + 1) (by omega))

theorem markText_loop : ∀ (d : Nat) (n : Int) (s : ByteArray), 0 ≤ n → n.toNat ≤ d → (s.size : Int) + n ≤ 4611686018427387904 → ∃ t, Ev (fun k => laws_markText.l0 k n s) t := by
  intro d
  induction d with
  | zero =>
    intro n s h0 hd hs
    refine ⟨_, Ev.step (fun k => laws_markText.l0.eq_2 ..) (Ev.neg (by omega) (Ev.pos (by omega) (Ev.now _)))⟩
  | succ d ih =>
    intro n s h0 hd hs
    by_cases h : n > 0
    · have e : Int.tdiv n 10 = n / 10 := Int.tdiv_eq_ediv_of_nonneg h0
      have hw : wrap64 (Int.tdiv n 10) = n / 10 := by rw [e, wrap_id (by omega) (by omega)]
      obtain ⟨t, ht⟩ := ih (n / 10) (strOfNums [(wrap64 (48 + Int.tmod n 10)) % 256] ++ s) (by omega) (by omega) (by rw [size_append, size_strOf]; simp; omega)
      refine ⟨t, Ev.step (fun k => laws_markText.l0.eq_2 ..) (Ev.pos h (Ev.bindc rfl (Ev.pos (by rw [size_strOf]; simp; omega) ?_)))⟩
      rw [hw]
      exact ht
    · exact ⟨_, Ev.step (fun k => laws_markText.l0.eq_2 ..) (Ev.neg h (Ev.pos (by omega) (Ev.now _)))⟩
theorem markText_some (n : Int) (h1 : n ≤ 4611686018427387904) : ∃ t, Ev (fun k => laws_markText.f k n) t := by
  by_cases h : n ≤ 0
  · exact ⟨_, Ev.pos h (Ev.now _)⟩
  · obtain ⟨t, ht⟩ := markText_loop n.toNat n ⟨#[]⟩ (by omega) (by omega) (by have : (⟨#[]⟩ : ByteArray).size = 0 := rfl; rw [this]; omega)
    exact ⟨t, Ev.neg h ht⟩
/-- The text of a mark. -/
noncomputable def mt (n : Int) : ByteArray := @Classical.epsilon ByteArray ⟨⟨#[]⟩⟩ (fun t => Ev (fun k => laws_markText.f k n) t)
theorem mt_ev (n : Int) (h1 : n ≤ 4611686018427387904) : Ev (fun k => laws_markText.f k n) (mt n) := by
  exact Classical.epsilon_spec (p := fun t => Ev (fun k => laws_markText.f k n) t) (markText_some n h1)
/-- A list is marked, place by place, and then held. -/
theorem mark_held {α : Type} (z : α) (M : Nat → List α → Int → Int → Option (Int × List α)) (H : Nat → List α → Int → Int → Option Int) (E : Int → α → α) (st : Int) (hst : 0 ≤ st)
    (hM : ∀ (L : List α) (i : Nat) (x : Int) (r : Int × List α), (L.length : Int) ≤ 4611686018427387904 → i < L.length → 0 ≤ x → x + st ≤ 4611686018427387904 → Ev (fun k => M k (L.set i (E x (L.getD i z))) (x + st) ((i + 1 : Nat) : Int)) r → Ev (fun k => M k L x (i : Int)) r)
    (hM0 : ∀ (L : List α) (i : Nat) (x : Int), L.length ≤ i → Ev (fun k => M k L x (i : Int)) (x, L))
    (hH : ∀ (F : List α) (i : Nat) (x : Int) (y : α) (r : Int), (F.length : Int) ≤ 4611686018427387904 → i < F.length → 0 ≤ x → x + st ≤ 4611686018427387904 → F.getD i z = E x y → Ev (fun k => H k F (x + st) ((i + 1 : Nat) : Int)) r → Ev (fun k => H k F x (i : Int)) r)
    (hH0 : ∀ (F : List α) (i : Nat) (x : Int), F.length ≤ i → Ev (fun k => H k F x (i : Int)) x) :
    ∀ (d : Nat) (L : List α) (i : Nat) (x : Int), (L.length : Int) ≤ 4611686018427387904 → L.length - i = d → 0 ≤ x → x + st * (d : Int) ≤ 4611686018427387904 →
      ∃ F m, Ev (fun k => M k L x (i : Int)) (m, F) ∧ F.length = L.length ∧ (∀ j, j < i → F.getD j z = L.getD j z) ∧ Ev (fun k => H k F x (i : Int)) m ∧ x ≤ m ∧ m = x + st * (d : Int) := by
  intro d
  induction d with
  | zero =>
    intro L i x hl hd h0 h1
    exact ⟨L, x, hM0 L i x (by omega), rfl, fun _ _ => rfl, hH0 L i x (by omega), by omega, by simp⟩
  | succ d ih =>
    intro L i x hl hd h0 h1
    have hm : st * ((d + 1 : Nat) : Int) = st * (d : Int) + st := by
      have : ((d + 1 : Nat) : Int) = (d : Int) + 1 := by omega
      rw [this, Int.mul_add, Int.mul_one]
    rw [hm] at h1
    have hp : 0 ≤ st * (d : Int) := Int.mul_nonneg hst (by omega)
    obtain ⟨F, m, e1, e2, e3, e4, e5, e6⟩ := ih (L.set i (E x (L.getD i z))) (i + 1) (x + st) (by rw [List.length_set]; omega) (by rw [List.length_set]; omega) (by omega) (by omega)
    rw [List.length_set] at e2
    refine ⟨F, m, hM L i x _ hl (by omega) h0 (by omega) e1, e2, fun j hj => ?_, ?_, by omega, by rw [hm]; omega⟩
    · rw [e3 j (by omega)]
      simp only [List.getD_eq_getElem?_getD]
      rw [List.getElem?_set_ne (by omega)]
    · refine hH F i x (L.getD i z) m (by omega) (by omega) h0 (by omega) ?_ e4
      rw [e3 i (by omega)]
      simp only [List.getD_eq_getElem?_getD]
      rw [List.getElem?_set_self (by omega)]
      rfl
theorem mark_held0 {α : Type} (z : α) (M : Nat → List α → Int → Int → Option (Int × List α)) (H : Nat → List α → Int → Int → Option Int) (E : Int → α → α) (st : Int) (hst : 0 ≤ st)
    (hM : ∀ (L : List α) (i : Nat) (x : Int) (r : Int × List α), (L.length : Int) ≤ 4611686018427387904 → i < L.length → 0 ≤ x → x + st ≤ 4611686018427387904 → Ev (fun k => M k (L.set i (E x (L.getD i z))) (x + st) ((i + 1 : Nat) : Int)) r → Ev (fun k => M k L x (i : Int)) r)
    (hM0 : ∀ (L : List α) (i : Nat) (x : Int), L.length ≤ i → Ev (fun k => M k L x (i : Int)) (x, L))
    (hH : ∀ (F : List α) (i : Nat) (x : Int) (y : α) (r : Int), (F.length : Int) ≤ 4611686018427387904 → i < F.length → 0 ≤ x → x + st ≤ 4611686018427387904 → F.getD i z = E x y → Ev (fun k => H k F (x + st) ((i + 1 : Nat) : Int)) r → Ev (fun k => H k F x (i : Int)) r)
    (hH0 : ∀ (F : List α) (i : Nat) (x : Int), F.length ≤ i → Ev (fun k => H k F x (i : Int)) x) (L : List α) (x : Int) (hl : (L.length : Int) ≤ 4611686018427387904) (h0 : 0 ≤ x) (hb : x + st * (L.length : Int) ≤ 4611686018427387904) :
    ∃ F m, Ev (fun k => M k L x 0) (m, F) ∧ Ev (fun k => H k F x 0) m ∧ x ≤ m ∧ m = x + st * (L.length : Int) := by
  obtain ⟨F, m, e1, _, _, e4, e5, e6⟩ := mark_held z M H E st hst hM hM0 hH hH0 L.length L 0 x hl (by omega) h0 hb
  exact ⟨F, m, e1, e4, e5, e6⟩

theorem eqRow_refl (x : S76) : laws_eqRow.f x.f0 x.f1 x.f2 x.f3 x.f0 x.f1 x.f2 x.f3 = some true := by simp [laws_eqRow.f]
theorem eqRowS_refl (L : List S76) (hl : (L.length : Int) ≤ 4611686018427387904) : Ev (fun k => laws_eqRowS.f k L L) true := by
  unfold laws_eqRowS.f
  refine Ev.pos rfl (eqs_refl laws_eqRowS.l0 L (fun i hi h => ?_) (fun i hi => ?_) L.length 0 (by omega))
  · refine Ev.step (fun k => laws_eqRowS.l0.eq_2 ..) (Ev.pos (by omega) (Ev.pos (by omega) (Ev.pos (by omega) (Ev.bindc (eqRow_refl _) (Ev.pos rfl ?_)))))
    rw [show wrap64 ((i : Int) + 1) = ((i + 1 : Nat) : Int) from by rw [wrap_id (by omega) (by omega)]; omega]
    exact h
  · exact Ev.step (fun k => laws_eqRowS.l0.eq_2 ..) (Ev.neg (by omega) (Ev.now _))
theorem rd_set_row (L : List S76) (i : Nat) (e : S76) (h : i < L.length) : rd_T76 (L.set (i : Int).toNat e) (i : Int) = e := by
  unfold rd_T76
  simp [List.getD_eq_getElem?_getD, h]
theorem markRowS_held (L : List S76) (hl : (L.length : Int) ≤ 1048576) : ∃ F m, Ev (fun k => laws_markRowS.f k L 1) (m, F) ∧ Ev (fun k => laws_heldRowS.f k F 1) m ∧ 1 ≤ m ∧ m = 1 + 4 * (L.length : Int) := by
  refine mark_held0 z76 laws_markRowS.l0 laws_heldRowS.l0 (fun x y => (⟨mt x, x + 1, x + 2, mt (x + 3)⟩ : S76)) 4 (by omega) (fun L i x r hl' hi h0 h1 h => ?_) (fun L i x hi => ?_) (fun F i x y r hl' hi h0 h1 he h => ?_) (fun F i x hi => ?_) L 1 (by omega) (by omega) (by omega)
  · have w1 : wrap64 (x + 1) = x + 1 := wrap_id (by omega) (by omega)
    have w2 : wrap64 (x + 1 + 1) = x + 2 := by rw [wrap_id (by omega) (by omega)]; omega
    have w3 : wrap64 (x + 2 + 1) = x + 3 := by rw [wrap_id (by omega) (by omega)]; omega
    have w4 : wrap64 (x + 3 + 1) = x + 4 := by rw [wrap_id (by omega) (by omega)]; omega
    have wi : wrap64 ((i : Int) + 1) = ((i + 1 : Nat) : Int) := by rw [wrap_id (by omega) (by omega)]; omega
    refine Ev.step (fun k => laws_markRowS.l0.eq_2 ..) (Ev.pos (by omega) ?_)
    refine Ev.bind (mt_ev x (by omega)) (Ev.pos (by omega) (Ev.bindc rfl (Ev.bindc rfl (Ev.bindc rfl ?_))))
    rw [w1, w2, w3, w4, wi]
    refine Ev.bind (mt_ev (x + 3) (by omega)) ?_
    rw [rd_set_row _ _ _ (by simpa using hi), rd_set_row _ _ _ (by simpa using hi), rd_set_row _ _ _ (by simpa using hi)]
    simp only [List.set_set, Int.toNat_natCast]
    exact h
  · exact Ev.step (fun k => laws_markRowS.l0.eq_2 ..) (Ev.neg (by omega) (Ev.now _))
  · have w1 : wrap64 (x + 1) = x + 1 := wrap_id (by omega) (by omega)
    have w2 : wrap64 (x + 1 + 1) = x + 2 := by rw [wrap_id (by omega) (by omega)]; omega
    have w3 : wrap64 (x + 2 + 1) = x + 3 := by rw [wrap_id (by omega) (by omega)]; omega
    have w4 : wrap64 (x + 3 + 1) = x + 4 := by rw [wrap_id (by omega) (by omega)]; omega
    have wi : wrap64 ((i : Int) + 1) = ((i + 1 : Nat) : Int) := by rw [wrap_id (by omega) (by omega)]; omega
    have hr : rd_T76 F (i : Int) = (⟨mt x, x + 1, x + 2, mt (x + 3)⟩ : S76) := by unfold rd_T76; rw [Int.toNat_natCast, he]
    refine Ev.step (fun k => laws_heldRowS.l0.eq_2 ..) (Ev.pos (by omega) (Ev.pos (by omega) ?_))
    rw [hr, w1, w2, w3, w4, wi]
    exact Ev.bind (mt_ev x (by omega)) (Ev.pos rfl (Ev.pos rfl (Ev.pos rfl (Ev.bind (mt_ev (x + 3) (by omega)) (Ev.pos rfl h)))))
  · exact Ev.step (fun k => laws_heldRowS.l0.eq_2 ..) (Ev.neg (by omega) (Ev.now _))

theorem FnExactTableOf : laws_FnExactTableOf.Pure := by
  intro n hn
  obtain ⟨L, h1, h2, hl⟩ := tables n
  have h3 : Ev (fun k => impl_TableOf.f k n) L := by
    unfold impl_TableOf.f
    exact Ev.bind h2 (Ev.now _)
  obtain ⟨F, m, f1, f2, f3, _⟩ := markRowS_held L (by omega)
  have he := eqRowS_refl L (by omega)
  refine Ev.rounds (g := fun k => laws_FnExactTableOf.f k n) ?_
  unfold laws_FnExactTableOf.f
  refine Ev.bind h1 (Ev.bind h3 (Ev.bind he (Ev.pos rfl (Ev.bind f1 (Ev.bind f2 (Ev.neg (by omega) (Ev.pos rfl ?_)))))))
  exact Ev.bind h3 (Ev.bind he (Ev.pos rfl (Ev.bind f2 (Ev.neg (by omega) (Ev.pos rfl (Ev.now _))))))

end Go.Proofs.Ytkmpfgpamlfldaa.Pure
