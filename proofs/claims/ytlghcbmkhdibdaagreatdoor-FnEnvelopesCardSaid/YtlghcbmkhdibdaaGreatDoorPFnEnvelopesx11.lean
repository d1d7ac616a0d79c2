-- the law over the weak contracts
import Derived.Test.YtlghcbmkhdibdaaGreatDoorPFnEnvelopesx10
namespace Go.Proofs.YtlghcbmkhdibdaaGreatDoor.PFnEnvelopes
open Go.RowKit Go.Proofs.YtlghcbmkhdibdaaGreatDoorW.PrintWords Go.Proofs.YtlghcbmkhdibdaaGreatDoorW.PrintLast Go.Proofs.YtlghcbmkhdibdaaGreatDoorW.PrintMore
attribute [local go_sem] max2_int min2_int max_two min_two max_three min_three max_four min_four   -- for this text's walks alone
set_option linter.unusedVariables false
set_option linter.unusedSimpArgs false
set_option maxHeartbeats 8000000
set_option maxRecDepth 100000
def WE (m : Nat) (x : S91) : Prop := x.f0.length ≤ 64 ∧ ∀ s ∈ x.f0, s.size ≤ m
def WG (x : S49) : Prop := x.f0.size ≤ 4096 ∧ ¬ trl x.f0 ∧ x.f1.length ≤ 64 ∧ ∀ e ∈ x.f1, WE 4096 e
def WL (x : S49) : Prop := x.f0.size ≤ 4096 ∧ x.f1.length ≤ 64 ∧ (∀ e ∈ x.f1, WE 4096 e) ∧ (trl x.f0 → ∀ e ∈ x.f1, WE 12 e)
def WM (x : S56) : Prop := nb x.f0 ∧ x.f1.length ≤ 3 ∧ ∀ e ∈ x.f1, WG e
def WB (x : S53) : Prop := nb x.f0 ∧ nb x.f1 ∧ x.f2.length ≤ 11 ∧ ∀ e ∈ x.f2, WM e
section
variable {w0 W : World} {g : Nat} {b : List Int} {κ : Gh} {l : List (Nat × List Value × Nat)} {A : Option Addr} {n c : Nat} {v : Value}
theorem sr_apart {e e' : Kn} {k k' c' n' : Nat} (hr : SR κ e (some ⟨k, 0, none⟩) n c) (hr' : SR κ e' (some ⟨k', 0, none⟩) n' c') (hne : e ≠ e') : k ≠ k' := by
 rintro rfl
 rcases hr with ⟨h1, _⟩ | ⟨k1, h1, h2, _⟩
 ·cases h1
 rcases hr' with ⟨h3, _⟩ | ⟨k2, h3, h4, _⟩
 ·cases h3
 injection h1 with h1
 injection h1 with h1
 injection h3 with h3
 injection h3 with h3
 subst h1 h3
 rw [h2] at h4
 injection h4 with h4
 injection h4 with h4
 exact hne h4
theorem sr_ne {e e' : Kn} {k c' n' : Nat} {M : Option Addr} (hr : SR κ e (some ⟨k, 0, none⟩) n c) (hr' : SR κ e' M n' c') (hne : e ≠ e' := by decide) : ∀ a, M = some a → k ≠ a.block := by
 rintro a rfl
 have h := hr'
 rcases h with ⟨h1, _⟩ | ⟨k1, h1, _⟩
 ·cases h1
 ·injection h1 with h1
  subst h1
  exact sr_apart hr hr' hne
theorem HX.C_e {m : Nat} (h : HX w0 W g b κ l) (hr : SR κ (.e m) A n c) : ∃ L : List S91, L.length = n ∧ Kd.C k91 W A n L ∧ (∀ x ∈ L, WE m x) ∧ n ≤ c := h.toC hr rfl (by
 rintro cs ⟨v, rfl, B, q, d, rfl, hm, hs⟩
 obtain ⟨L, rfl, h1, h2, h3⟩ := h.texts hs
 exact ⟨⟨L⟩, k91_mk W ⟨L⟩ h3 h1, hm, h2⟩)
theorem HX.C_g (h : HX w0 W g b κ l) (hr : SR κ .g A n c) : ∃ L : List S49, L.length = n ∧ Kd.C k49 W A n L ∧ (∀ x ∈ L, WG x) ∧ n ≤ c := h.toC hr rfl (by
 rintro cs ⟨s, v, rfl, vR, Fd, B, m, d, rfl, hm, hs⟩
 obtain ⟨L, rfl, h1, h2, h3⟩ := h.C_e hs
 exact ⟨⟨s, L⟩, k49_mk W ⟨s, L⟩ h3 h1, vR, Fd, hm, h2⟩)
theorem HX.C_gl (h : HX w0 W g b κ l) (hr : SR κ .gl A n c) : ∃ L : List S49, L.length = n ∧ Kd.C k49 W A n L ∧ (∀ x ∈ L, WL x) ∧ n ≤ c := h.toC hr rfl (by
 rintro cs ⟨s, v, rfl, vR, ⟨B, m, d, rfl, hm, hs⟩ | ⟨⟨B, m, d, rfl, hm, hs⟩, Fd⟩⟩
 ·obtain ⟨L, rfl, h1, h2, h3⟩ := h.C_e hs
  exact ⟨⟨s, L⟩, k49_mk W ⟨s, L⟩ h3 h1, vR, hm, fun e he => ⟨(h2 e he).1, fun t ht => Nat.le_trans ((h2 e he).2 t ht) (by omega)⟩, fun _ => h2⟩
 ·obtain ⟨L, rfl, h1, h2, h3⟩ := h.C_e hs
  exact ⟨⟨s, L⟩, k49_mk W ⟨s, L⟩ h3 h1, vR, hm, h2, fun ht => absurd ht Fd⟩)
theorem HX.C_m (h : HX w0 W g b κ l) (hr : SR κ .m A n c) : ∃ L : List S56, L.length = n ∧ Kd.C k56 W A n L ∧ (∀ x ∈ L, WM x) ∧ n ≤ c := h.toC hr rfl (by
 rintro cs ⟨s, v, rfl, vR, B, m, d, rfl, hm, hs⟩
 obtain ⟨L, rfl, h1, h2, h3⟩ := h.C_g hs
 exact ⟨⟨s, L⟩, k56_mk W ⟨s, L⟩ h3 h1, vR, hm, h2⟩)
theorem HX.C_b (h : HX w0 W g b κ l) (hr : SR κ .b A n c) : ∃ L : List S53, L.length = n ∧ Kd.C k53 W A n L ∧ (∀ x ∈ L, WB x) ∧ n ≤ c := h.toC hr rfl (by
 rintro cs ⟨s, t, v, rfl, vR, Fd, B, m, d, rfl, hm, hs⟩
 obtain ⟨L, rfl, h1, h2, h3⟩ := h.C_m hs
 exact ⟨⟨s, t, L⟩, k53_mk W ⟨s, t, L⟩ h3 h1, vR, Fd, hm, h2⟩)
end
theorem spl_mid : ∀ {ys x a b : List Value}, x.length = ys.length → spl (a ++ (x ++ b)) a.length ys = a ++ (ys ++ b)
 | [], [], _, _, _ => rfl
 | y :: ys, u :: x, a, b, h => by
  have h1 : (a ++ (u :: x ++ b)).set a.length y = (a ++ [y]) ++ (x ++ b) := by simp
  have h2 := spl_mid (ys := ys) (x := x) (a := a ++ [y]) (b := b) (by simpa using h)
  rw [spl, h1]
  rw [List.length_append] at h2
  rw [show a.length + 1 = a.length + [y].length from rfl, h2]
  simp
theorem sets_heap {gb ty : Nat} : ∀ {us : List Value} {W : World} {j : Nat} {cs : List Value}, W.heap[gb]? = some (.cells cs.toArray ty (0, 0)) → (sets W gb j us).heap[gb]? = some (.cells (spl cs j us).toArray ty (0, 0)) ∧ (sets W gb j us).heap.size = W.heap.size ∧ ∀ i, i ≠ gb → (sets W gb j us).heap[i]? = W.heap[i]?
 | [], _, _, _, h => ⟨h, rfl, fun _ _ => rfl⟩
 | u :: us, W, j, cs, h => by
  have h1 := blk_set h j u
  obtain ⟨q1, q2, q3⟩ := sets_heap (us := us) (j := j + 1) (cs := cs.set j u) (W := W.setCell ⟨gb, j, none⟩ u) (by simpa using h1)
  exact ⟨q1, q2.trans (by simp [World.setCell]), fun i hi => (q3 i hi).trans (Below.heap_setCell W ⟨gb, j, none⟩ u i hi)⟩
theorem sets_below {w0 : World} {B gb : Nat} (hg : B ≤ gb) : ∀ {us : List Value} {W : World} {j : Nat}, Below B w0 W → Below B w0 (sets W gb j us)
 | [], _, _, h => h
 | u :: us, _, j, h => sets_below hg (us := us) (j := j + 1) (h.setCell (p := ⟨gb, j, none⟩) hg u)
section
variable {w0 W W1 : World} {g : Nat} {b : List Int} {κ κ' : Gh} {l l' : List (Nat × List Value × Nat)} {e : Kn} {A : Option Addr} {n c : Nat}
theorem putE_ (h : HX w0 W g b κ l) {k i : Nat} (hr : SR κ e (some ⟨k, 0, none⟩) n c) (hi : i < n) {ys : List Value} (hy : EL κ e ys) : HX w0 (sets W k (i * e.sz) ys) g b κ l := by
 rcases hr with ⟨h1, _⟩ | ⟨k', h1, hk, hnc⟩
 ·cases h1
 injection h1 with h1
 injection h1 with h1
 subst h1
 obtain ⟨q1, q2, _, _, cs, h5, xs, rfl, hxl, hxe⟩ := h.2.2.2.1 _ _ _ hk
 have hl : i < xs.length := by omega
 have hls : ∀ x ∈ xs, x.length = e.sz := fun x hx => (hxe x hx).len
 obtain ⟨f1, f2⟩ := fl_split hls hl
 obtain ⟨s1, s2, s3⟩ := sets_heap (us := ys) (j := i * e.sz) h5
 have hsp : spl xs.flatten (i * e.sz) ys = (xs.set i ys).flatten := by
  rw [f1, ← f2, spl_mid (by rw [hls _ (List.getElem_mem hl), hy.len]), show xs.set i ys = xs.take i ++ (ys :: xs.drop (i + 1)) by rw [List.set_eq_take_append_cons_drop, if_pos hl], List.flatten_append, List.flatten_cons]
 rw [hsp] at s1
 refine h.mod hk s1 ⟨_, rfl, by rw [List.length_set]; exact hxl, fun y hm => ?_⟩ (sets_below q2 h.2.1) (fun i _ hi => s3 i hi)
 rcases List.mem_or_eq_of_mem_set hm with hm | rfl
 ·exact hxe y hm
 ·exact hy
theorem HX.gl (h : HX w0 W g b κ l) {k i : Nat} (hr : SR κ .gl (some ⟨k, 0, none⟩) n c) (hi : i < n) : ∃ (y : ByteArray) (M : Option Addr) (m d : Nat), EL κ .gl [.string y, .slice M m d] ∧ W.cell? ⟨k, i * 2, none⟩ = some (.string y) ∧ W.cell? ⟨k, i * 2 + 1, none⟩ = some (.slice M m d) := by
 obtain ⟨ad, x, had, hx, hc⟩ := h.read hr hi
 injection had with had
 subst had
 have dM := hx
 obtain ⟨y, v, rfl, _, hv⟩ := hx
 have DF : ∃ M m d, v = .slice M m d := by
  rcases hv with ⟨M, m, d, h1, _⟩ | ⟨⟨M, m, d, h1, _⟩, _⟩ <;> exact ⟨M, m, d, h1⟩
 obtain ⟨M, m, d, rfl⟩ := DF
 have q0 := hc 0 _ rfl
 have q1 := hc 1 _ rfl
 rw [Addr.add_lit, Nat.zero_add] at q0 q1
 exact ⟨y, M, m, d, dM, q0, q1⟩
theorem HX.tail (h : HX w0 W g b κ l) {k m : Nat} (hr : SR κ .gl (some ⟨k, 0, none⟩) n c) (hm : m ≤ n) : ∃ ys : List (List Value), ys.length = n - m ∧ (∀ y ∈ ys, EL κ .gl y) ∧ ∀ i u, ys.flatten[i]? = some u → W.cell? ((⟨k, m * 2, none⟩ : Addr).add i) = some u := by
 obtain ⟨ys, h1, h2, ⟨h3, _⟩ | ⟨a, h3, h4⟩⟩ := h.elems hr
 ·cases h3
 injection h3 with h3
 subst h3
 refine ⟨ys.drop m, by rw [List.length_drop, h1], fun y hy => h2 y (List.mem_of_mem_drop hy), fun i u hu => ?_⟩
 rw [← fl_drop (s := 2) (fun x hx => (h2 x hx).len) (by omega), List.getElem?_drop] at hu
 have := h4 _ _ hu
 rw [Addr.add_lit, Nat.zero_add] at this
 rw [Addr.add_lit]
 exact this
section
variable {P : Program} {ops : Array Oper} {rest : List Oper} {o : Oper} {a : Act} {Q : Exit → Act → World → Prop} {K : Act → World → Prop}
theorem row_frozen (h : HX w0 W g b κ l) {k : Nat} (hr : SR κ e (some ⟨k, 0, none⟩) n c) (j : Nat) : W.frozen? ⟨k, j, none⟩ = false := by
 rcases hr with ⟨h1, _⟩ | ⟨k', h1, hk, hnc⟩
 ·cases h1
 injection h1 with h1
 injection h1 with h1
 subst h1
 obtain ⟨_, _, _, _, cs, h5, _⟩ := h.2.2.2.1 _ _ _ hk
 exact blk_frozen h5 j
theorem hvg_ (X : Aside0 (HX w0 W g b κ l)) {k : Nat} (hr : SR κ .gl (some ⟨k, 0, none⟩) n c) (i : Nat) (hi : i < n) (y0 y1 : Value) (hy : EL κ .gl [y0, y1]) {t : TypeId} {p : Tmp} {v : Operand} (_ho : o.op = .store t (.tmp p) v) (h : ∀ w1, Aside0 (HX w0 w1 g b κ l) → wpList P ops Q rest a w1) (hN : o.dst = none := by rfl) (hgd : o.guard = none := by rfl)
  (hrun : ∀ o0 o1, W.cell? ⟨k, i * 2, none⟩ = some o0 → W.cell? ⟨k, i * 2 + 1, none⟩ = some o1 → (∀ j, W.frozen? ⟨k, j, none⟩ = false) → (execOp a.eval o).run P W = .ok .skip ((W.setCell ⟨k, i * 2, none⟩ y0).setCell ⟨k, i * 2 + 1, none⟩ y1) := by intro YJ YK Ij Kw hf_; first | (go_simp; done) | (go_simp; rfl)) : wpList P ops Q (o :: rest) a W := by
 obtain ⟨y, M, m, d, _, q0, q1⟩ := X.out.gl hr hi
 exact store_event hgd _ho hN (hrun _ _ q0 q1 (row_frozen X.out hr)) (fun w1 hw => h w1 ⟨by rw [hw]; exact putE_ X.out hr hi hy⟩)
theorem rvg_ (X : Aside0 (HX w0 W g b κ l)) {k : Nat} (hr : SR κ .gl (some ⟨k, 0, none⟩) n c) (i : Nat) (hi : i < n) (y0 y1 : Value) (hy : EL κ .gl [y0, y1]) (h : ∀ w1, Aside0 (HX w0 w1 g b κ l) → K a w1) (hw : Region.wanted o (yielded ops a.tmps) = true := by rfl) (hN : o.dst = none := by rfl)
  (hrun : ∀ o0 o1, W.cell? ⟨k, i * 2, none⟩ = some o0 → W.cell? ⟨k, i * 2 + 1, none⟩ = some o1 → (∀ j, W.frozen? ⟨k, j, none⟩ = false) → (execOp a.eval o).run P W = .ok .skip ((W.setCell ⟨k, i * 2, none⟩ y0).setCell ⟨k, i * 2 + 1, none⟩ y1) := by intro YJ YK Ij Kw hf_; first | (go_simp; done) | (go_simp; rfl)) : if Region.wanted o (yielded ops a.tmps) = true then Oper.wp P o a W K Q else K (a.put none undef) W := by
 obtain ⟨y, M, m, d, _, q0, q1⟩ := X.out.gl hr hi
 exact skip_ hw hN (hrun _ _ q0 q1 (row_frozen X.out hr)) (h _ ⟨putE_ X.out hr hi hy⟩)
end
end
def W25.T5 : Bool × List (List Nat × List Nat) := (true, [([], []), ([0], [0]), ([], []), ([], []), ([2, 3], [2, 3]), ([4], [4]), ([5], [5]), ([6], [6]), ([7], [7]), ([1, 8], [1, 8]), ([0, 1, 2, 3, 4, 5, 6, 7, 8, 9], []), ([10, 9, 9, 0, 1, 2, 3, 4, 5, 6, 7, 8, 9], [9, 10])])
def W25.B5 : List Nat := [0, 1, 0, 0, 12, 28, 60, 124, 252, 511, 1023, 2047]
theorem W25.tab5 : rtab .any (opsOf Tryz.f25 5) = W25.T5 := by kernel_rfl
theorem W25.bits5 : waitsOk W25.T5.2 W25.B5 = true := by kernel_rfl
def W23.T1 : Bool × List (List Nat × List Nat) := (true, [([], []), ([0], [0]), ([], []), ([2], [2]), ([], []), ([4], [4]), ([5], [5]), ([1, 3, 6], [1, 3, 6]), ([7, 6], [7]), ([8, 8, 0, 1, 2, 3, 4, 5, 6, 7, 8], [8])])
def W23.B1 : List Nat := [0, 1, 0, 4, 0, 16, 48, 127, 255, 511]
theorem W23.tab1 : rtab .any (opsOf Tryz.f23 1) = W23.T1 := by kernel_rfl
theorem W23.bits1 : waitsOk W23.T1.2 W23.B1 = true := by kernel_rfl
def W27.T5 : Bool × List (List Nat × List Nat) := (true, [([], []), ([0], [0]), ([], []), ([], []), ([3], [3]), ([], []), ([4, 5], [4, 5]), ([6], [6]), ([7], [7]), ([2, 8], [2, 8]), ([9], [9]), ([10], [10]), ([1, 11, 9], [1, 11]), ([0, 1, 2, 3, 4, 5, 6, 7, 8, 9, 10, 11, 12], []), ([13, 12, 12, 0, 1, 2, 3, 4, 5, 6, 7, 8, 9, 10, 11, 12], [12, 13])])
def W27.B5 : List Nat := [0, 1, 0, 0, 8, 0, 56, 120, 248, 508, 1020, 2044, 4095, 8191, 16383]
theorem W27.tab5 : rtab .any (opsOf Tryz.f27 5) = W27.T5 := by kernel_rfl
theorem W27.bits5 : waitsOk W27.T5.2 W27.B5 = true := by kernel_rfl
def Tot26 : Prop := ∀ n : Int, nb n → ∃ k r, F26.f k n = some r ∧ r.size ≤ 12
section
variable {w0 W : World} {g : Nat} {b : List Int} {κ : Gh} {l : List (Nat × List Value × Nat)}
def RS (m : Nat) (t : ByteArray) : Gh → Value → Prop := fun κ' v => ∃ u, v = .agg #[.string t, u] ∧ SV κ' (.e m) u
theorem dec_w (lV : Tot26) (X : HX w0 W g b κ l) {n : Int} (hn : nb n) : Calls Tryz.prog 26 #[.int .i64 n] W fun e w' => ∃ s : ByteArray, e = .returned (.string s) ∧ s.size ≤ 12 ∧ Aside0 (HX w0 w' g b κ l) := by
 obtain ⟨k, r, hf, hr⟩ := lV n hn
 refine (F26.calls hf).mono ?_
 rintro e w' ⟨rfl, hb⟩
 exact ⟨r, rfl, hr, ⟨X.below hb⟩⟩
theorem sgl_w (X0 : HX w0 W g b κ l) (t : ByteArray) {m n c : Nat} {A : Option Addr} (hA : SR κ (.t m) A n c) (hn : n ≤ 64) : Calls Tryz.prog 25 #[.string t, .slice A n c] W (PT w0 g b κ l (RS m t)) := by
 have dk := Tryz.underlying49
 have kX := Tryz.underlying91
 have X := am_ X0
 have HA := am_ hA
 clear X0 hA
 go_enter Tryz.func25, Tryz.ntmps25
 go_wp2_with (first | ((with_reducible refine gate_dst (N := 4) rfl ?_); refine hb_ X 4 [.string ⟨#[]⟩, .slice none 0 0] 49 ?_; intro gr w1 X) | ((with_reducible refine gate_dst (N := 5) rfl ?_); refine hb_ X 5 [.string ⟨#[]⟩, .slice none 0 0] 49 ?_; intro gg w1 X) | ((with_reducible refine gate_store (t := 49) (p := 5) rfl ?_); refine hv_ X 0 0 [.string t, .slice none 0 0] rfl rfl ?_; intro w1 X))
 go_loopg [6] n (fun kq v6 w' => ∃ (p : Nat) (E : Option Addr) (d : Nat) (κ' : Gh), v6 = .int .i64 p ∧ Aside0 (p + kq = n ∧ SR κ' (.e m) E p d ∧ Ext κ κ') ∧ Aside0 (HX w0 w' g b κ' ((gg, [.string t, .slice E p d], 49) :: (gr, [.string ⟨#[]⟩, .slice none 0 0], 49) :: l)))
 case atStart => exact ⟨0, none, 0, κ, rfl, ⟨by omega, .inl ⟨rfl, rfl, rfl⟩, Ext.refl _⟩, ⟨hx_ X⟩⟩
 case round =>
  clear X
  obtain ⟨p, E, d, κ2, rfl, ⟨p1, hr, hx⟩, X⟩ := hrel
  have HR := am_ hr
  have HE := am_ hx
  clear hr hx
  cases gk with
  | zero =>
   have hpn : ¬ p < n := by omega
   have hc := (X.out).rd 0 rfl
   go_wp2_with (first | ((with_reducible refine gate_store (t := 49) (p := 4) rfl ?_); refine hv_ X 1 0 [.string t, .slice E p d] rfl rfl ?_; intro w1 X))
   refine bodyPost_ret (results_cell_row rfl _ _ gr 49 #[.string t, .slice E p d] (0, 0) _ rfl (X.out.get 1 rfl) Tryz.underlying49 rfl (by kernel_rfl)) rfl ?_
   exact ⟨_, κ2, rfl, HE.out, ⟨_, rfl, HR.out.mk (show _ ≤ 64 by omega)⟩, ⟨X.out.tl.tl⟩⟩
  | succ k1 =>
   have hpn : p < n := by omega
   obtain ⟨ka, rfl⟩ := HA.out.some (by omega)
   obtain ⟨s, hs, hcs⟩ := X.out.tx (HA.out.ext HE.out) hpn
   go_upto_region 5 with (fail)
   refine start_ (n := 12) (S := HEl w0 g b κ2 ((gg, [.string t, .slice E p d], 49) :: (gr, [.string ⟨#[]⟩, .slice none 0 0], 49) :: l) ka p [.string s]) (ds := [9, 11]) (bs 12 0) (by kernel_rfl) rfl rfl (he_1 X hcs) (fun hHeld => ?_)
   refine with_tabW W25.tab5 W25.bits5 (fun HT_ HW_ => ?_)
   obtain ⟨w1, ey, X⟩ := drw_ X
   rw [← ey] at hHeld ⊢
   clear ey
   refine pq_ 0 HT_ ?_
   refine pq_ 2 HT_ ?_
   refine pq_ 3 HT_ ?_
   refine pq_ 4 HT_ ?_
   refine tq_ 1 HT_ HW_ hHeld rfl (lde_ 0 rfl) ?_
   refine tq_ 5 HT_ HW_ hHeld rfl (ld1_) ?_
   refine oq_ 6 HT_ (fun K hK => ?_)
   have hlt := X.out.rlt (HA.out.ext HE.out)
   refine rlk_ X 21 (.t m) [[.string s]] (fun x hx => by simp at hx; subst hx; exact ⟨s, rfl, hs⟩) ?_
   intro kB κ3 w2 X hx hr hb
   refine hK.out _ _ (hHeld.step (hs_ hx X) (hb.block ka hlt).symm) (fun hHeld => ?_)
   have hlt := below_size hb
   clear hK K
   refine no_ 21 ?_
   refine pq_ 7 HT_ ?_
   refine oq_ 8 HT_ (fun K hK => ?_)
   refine rb_ 23 1 [.slice (some ⟨kB, 0, none⟩) 1 1] 91 ?_
   refine hK.out _ _ (hHeld.alloc (X.out.rlt ((HA.out.ext HE.out).ext hx)) _) (fun hHeld => ?_)
   clear hK K
   refine no_ 23 ?_
   refine lq_ 9 HT_ (fun K hK => ?_)
   refine has_ (.e m) rfl rfl rfl rfl X.out (HR.out.ext hx) ⟨_, rfl, hr.mk (by simp [Kn.mx])⟩ (by omega) ?_
   intro A' c' κ' w5 X dM hr2
   refine hK.out _ _ ?_
   clear hK K
   refine no_ 24 ?_
   refine pq_ 10 HT_ ?_
   refine lq_ 11 HT_ (fun K hK => ?_)
   refine rv_ X 0 1 [.slice A' (p + 1) c'] rfl ?_
   intro w6 X
   refine hK.out _ _ ?_
   clear hK K
   refine done_ (done_of HT_.out (by kernel_rfl)) ?_
   go_wp2
   go_roundg k1
   case measure => omega
   case rel => exact ⟨p + 1, A', c', κ', rfl, ⟨by omega, hr2, HE.out.trans (hx.trans dM)⟩, ⟨hx_ X⟩⟩
theorem two_w (lV : Tot26) (X0 : HX w0 W g b κ l) (t : ByteArray) {x y : Int} (hx : nb x) (hy : nb y) : Calls Tryz.prog 24 #[.string t, .int .i64 x, .int .i64 y] W (PT w0 g b κ l (RS 12 t)) := by
 have dk := Tryz.underlying49
 have X := am_ X0
 have HN := am_ (And.intro hx hy)
 clear X0 hx hy
 go_enter Tryz.func24, Tryz.ntmps24
 go_wp2_with (first | ((with_reducible refine gate_dst (N := 6) rfl ?_); refine hb_ X 6 [.string ⟨#[]⟩, .slice none 0 0] 49 ?_; intro gr w1 X) | (go_at_call 26; (with_reducible refine (dec_w lV (hx_ X) HN.out.1).mono ?_); rintro e w1 ⟨s1, rfl, h1, X⟩) | (go_at_call 26; (with_reducible refine (dec_w lV (hx_ X) HN.out.2).mono ?_); rintro e w1 ⟨s2, rfl, h2, X⟩) | ((with_reducible refine gate_dst (N := 12) rfl ?_); refine hl_ X (.t 12) [[.string s1], [.string s2]] (fun x hx => by simp at hx; rcases hx with rfl | rfl <;> exact ⟨_, rfl, by omega⟩) ?_; intro A κ1 w2 X hx hr; have HR := am_ hr; have HE := am_ hx; clear hr hx) | (go_at_call 25; refine (sgl_w (hx_ X) t HR.out (by simp)).mono ?_; rintro e w3 ⟨_, κ2, rfl, hx, ⟨_, rfl, E, p, d, rfl, hp, hE⟩, X⟩; have HF := am_ (And.intro hx (hE.mk hp)); clear hx hE) | ((with_reducible refine gate_store (t := 49) (p := 6) rfl ?_); refine hv_ X 0 0 [.string t, .slice E p d] rfl rfl ?_; intro w1 X))
 refine bodyPost_ret (results_cell_row rfl _ _ gr 49 #[.string t, .slice E p d] (0, 0) _ rfl (X.out.get 0 rfl) Tryz.underlying49 rfl (by kernel_rfl)) rfl ?_
 exact ⟨_, κ2, rfl, HE.out.trans HF.out.1, ⟨_, rfl, HF.out.2⟩, ⟨X.out.tl⟩⟩
theorem head_w (lV : Tot26) (X0 : HX w0 W g b κ l) {s t : ByteArray} {n : Int} (hs : s.size ≤ 64) (ht : t.size ≤ 64) (hn : nb n) (A : Option Addr) (m c : Nat) : Calls Tryz.prog 23 #[.agg #[.string s, .string t, .int .i64 n, .slice A m c]] W (PT w0 g b κ l (RS 4096 ⟨#[73, 88, 72]⟩)) := by
 have dk := Tryz.underlying49
 have gJ := Tryz.underlying30
 have X := am_ X0
 clear X0
 go_enter Tryz.func23, Tryz.ntmps23
 go_wp2_with (first | ((with_reducible refine gate_dst (N := 1) rfl ?_); refine hb_ X 1 [.string s, .string t, .int .i64 n, .slice A m c] 30 ?_; intro gx w1 X) | ((with_reducible refine gate_dst (N := 2) rfl ?_); refine hb_ X 2 [.string ⟨#[]⟩, .slice none 0 0] 49 ?_; intro gr w1 X))
 refine start_ (n := 10) (S := HS w0 g b κ ((gr, [.string ⟨#[]⟩, .slice none 0 0], 49) :: (gx, [.string s, .string t, .int .i64 n, .slice A m c], 30) :: l)) (ds := [9]) (bs 10 0) (by kernel_rfl) rfl rfl (hs_w X) (fun hHeld => ?_)
 refine with_tabW W23.tab1 W23.bits1 (fun HT_ HW_ => ?_)
 obtain ⟨w1, ey, X⟩ := drw_ X
 rw [← ey] at hHeld ⊢
 clear ey
 refine pq_ 0 HT_ ?_
 refine pq_ 2 HT_ ?_
 refine pq_ 4 HT_ ?_
 refine tq_ 1 HT_ HW_ hHeld rfl (ld_ 1 rfl) ?_
 refine tq_ 3 HT_ HW_ hHeld rfl (ld_ 1 rfl) ?_
 refine tq_ 5 HT_ HW_ hHeld rfl (ld_ 1 rfl) ?_
 refine oq_ 6 HT_ (fun K hK => ?_)
 refine gr_ Tryz.func26 #[.int .i64 n] (by rfl) ?_ rfl rfl rfl
 refine (dec_w lV X.out hn).mono ?_
 rintro e w2 ⟨s1, rfl, h1, X⟩
 refine ⟨_, rfl, ?_⟩
 refine hK.out _ _ (hs_ (Ext.refl _) X) (fun hHeld => ?_)
 clear hK K
 refine no_ 9 ?_
 refine oq_ 7 HT_ (fun K hK => ?_)
 refine rl_ X 10 (.t 4096) [[.string s], [.string t], [.string s1]] (fun x hx => by simp at hx; rcases hx with rfl | rfl | rfl <;> exact ⟨_, rfl, by omega⟩) ?_
 intro B κ2 w3 X hx hr
 refine hK.out _ _ (hs_ hx X) (fun hHeld => ?_)
 clear hK K
 refine no_ 10 ?_
 refine oq_ 8 HT_ (fun K hK => ?_)
 refine gr_ Tryz.func25 #[.string ⟨#[73, 88, 72]⟩, .slice B 3 3] (by rfl) ?_ rfl rfl rfl
 refine (sgl_w X.out _ hr (by simp)).mono ?_
 rintro e w4 ⟨_, κ3, rfl, dM, ⟨_, rfl, E, p, d, rfl, hp, hE⟩, X⟩
 refine ⟨_, rfl, ?_⟩
 refine hK.out _ _ (hs_ (hx.trans dM) X) (fun hHeld => ?_)
 clear hK K
 refine no_ 11 ?_
 refine lq_ 9 HT_ (fun K hK => ?_)
 refine rv_ X 0 0 [.string ⟨#[73, 88, 72]⟩, .slice E p d] rfl ?_
 intro w6 X
 refine hK.out _ _ ?_
 clear hK K
 refine done_ (done_of HT_.out (by kernel_rfl)) ?_
 go_wp2
 refine bodyPost_ret (results_cell_row rfl _ _ gr 49 #[.string ⟨#[73, 88, 72]⟩, .slice E p d] (0, 0) _ rfl (X.out.get 0 rfl) Tryz.underlying49 rfl (by kernel_rfl)) rfl ?_
 exact ⟨_, κ3, rfl, hx.trans dM, ⟨_, rfl, hE.mk hp⟩, ⟨X.out.tl.tl⟩⟩
theorem copy_w (X0 : HX w0 W g b κ l) (t : ByteArray) {m n c : Nat} {A : Option Addr} (hA : SR κ (.e m) A n c) (hn : n ≤ 64) : Calls Tryz.prog 27 #[.agg #[.string t, .slice A n c]] W (PT w0 g b κ l (RS m t)) := by
 have dk := Tryz.underlying49
 have kX := Tryz.underlying91
 have X := am_ X0
 have HA := am_ hA
 clear X0 hA
 go_enter Tryz.func27, Tryz.ntmps27
 go_wp2_with (first | (((with_reducible refine gate_dst (N := 1) rfl ?_); refine hb_ X 1 [.string t, .slice A n c] 49 ?_; intro gx w1 X)) | (((with_reducible refine gate_dst (N := 2) rfl ?_); refine hb_ X 2 [.string ⟨#[]⟩, .slice none 0 0] 49 ?_; intro gr w1 X); have hc := (X.out).rd 1 rfl) | (((with_reducible refine gate_dst (N := 3) rfl ?_); refine hb_ X 3 [.string ⟨#[]⟩, .slice none 0 0] 49 ?_; intro gg w1 X)) | ((with_reducible refine gate_store (t := 49) (p := 3) rfl ?_); refine hv_ X 0 0 [.string t, .slice none 0 0] rfl rfl ?_; intro w1 X))
 go_loopg [4] n (fun kq v4 w' => ∃ (p : Nat) (E : Option Addr) (d : Nat) (κ' : Gh), v4 = .int .i64 p ∧ Aside0 (p + kq = n ∧ SR κ' (.e m) E p d ∧ Ext κ κ') ∧ Aside0 (HX w0 w' g b κ' ((gg, [.string t, .slice E p d], 49) :: (gr, [.string ⟨#[]⟩, .slice none 0 0], 49) :: (gx, [.string t, .slice A n c], 49) :: l)))
 case atStart => exact ⟨0, none, 0, κ, rfl, ⟨by omega, .inl ⟨rfl, rfl, rfl⟩, Ext.refl _⟩, ⟨hx_ X⟩⟩
 case round =>
  clear X
  obtain ⟨p, E, d, κ2, rfl, ⟨p1, hr, hx⟩, X⟩ := hrel
  have HR := am_ hr
  have HE := am_ hx
  clear hr hx
  have hc := (X.out).rd 0 rfl
  have hc2 := (X.out).rd 2 rfl
  cases gk with
  | zero =>
   have hpn : ¬ p < n := by omega
   go_wp2_with (first | ((with_reducible refine gate_store (t := 49) (p := 2) rfl ?_); refine hv_ X 1 0 [.string t, .slice E p d] rfl rfl ?_; intro w1 X))
   refine bodyPost_ret (results_cell_row rfl _ _ gr 49 #[.string t, .slice E p d] (0, 0) _ rfl (X.out.get 1 rfl) Tryz.underlying49 rfl (by kernel_rfl)) rfl ?_
   exact ⟨_, κ2, rfl, HE.out, ⟨_, rfl, HR.out.mk (show _ ≤ 64 by omega)⟩, ⟨X.out.tl.tl.tl⟩⟩
  | succ k1 =>
   have hpn : p < n := by omega
   obtain ⟨ka, rfl⟩ := HA.out.some (by omega)
   obtain ⟨B, j, e, hcs, hs, hj⟩ := X.out.el (HA.out.ext HE.out) hpn
   have HB := am_ hs
   clear hs
   go_upto_region 5 with (fail)
   refine start_ (n := 15) (S := HEl w0 g b κ2 ((gg, [.string t, .slice E p d], 49) :: (gr, [.string ⟨#[]⟩, .slice none 0 0], 49) :: (gx, [.string t, .slice (some ⟨ka, 0, none⟩) n c], 49) :: l) ka p [.slice B j e]) (ds := [12, 14]) (bs 15 0) (by kernel_rfl) rfl rfl (he_1 X hcs) (fun hHeld => ?_)
   refine with_tabW W27.tab5 W27.bits5 (fun HT_ HW_ => ?_)
   obtain ⟨w1, ey, X⟩ := drw_ X
   rw [← ey] at hHeld ⊢
   clear ey
   refine pq_ 0 HT_ ?_
   refine pq_ 3 HT_ ?_
   refine pq_ 5 HT_ ?_
   refine tq_ 1 HT_ HW_ hHeld rfl (lde_ 0 rfl) ?_
   refine tq_ 4 HT_ HW_ hHeld rfl (lde_ 2 rfl) ?_
   refine pq_ 6 HT_ ?_
   refine pq_ 7 HT_ ?_
   refine tq_ 8 HT_ HW_ hHeld rfl (ld1_) ?_
   refine oq_ 2 HT_ (fun K hK => ?_)
   have hlt := X.out.rlt (HA.out.ext HE.out)
   refine rlk_ X 17 (.t m) [] (fun x hx => by simp at hx) ?_
   intro kD κ3 w2 X hx hr hb
   refine hK.out _ _ (hHeld.step (hs_ hx X) (hb.block ka hlt).symm) (fun hHeld => ?_)
   clear hK K
   refine no_ 17 ?_
   refine oq_ 9 HT_ (fun K hK => ?_)
   have hlt := X.out.rlt ((HA.out.ext HE.out).ext hx)
   refine haps_ (.t m) rfl rfl rfl rfl X.out hr (X.out.elems (HB.out.ext hx)).choose_spec (by simp; omega) ?_
   intro D c' κ4 w5 X dM hr2 hkp
   refine hK.out _ _ (hHeld.step (hs_ (hx.trans dM) X) (hkp ka hlt (sr_apart ((HA.out.ext HE.out).ext hx) hr (by simp))).symm) (fun hHeld => ?_)
   clear hK K
   refine no_ 24 ?_
   refine pq_ 10 HT_ ?_
   refine oq_ 11 HT_ (fun K hK => ?_)
   refine rb_ 26 1 [.slice D (([] : List (List Value)).length + j) c'] 91 ?_
   refine hK.out _ _ (hHeld.alloc (X.out.rlt (((HA.out.ext HE.out).ext hx).ext dM)) _) (fun hHeld => ?_)
   clear hK K
   refine no_ 26 ?_
   refine lq_ 12 HT_ (fun K hK => ?_)
   refine has_ (.e m) rfl rfl rfl rfl X.out ((HR.out.ext hx).ext dM) ⟨_, rfl, hr2.mk (by simp [Kn.mx]; omega)⟩ (by omega) ?_
   intro A' c2 κ' w5 X ku YL
   refine hK.out _ _ ?_
   clear hK K
   refine no_ 27 ?_
   refine pq_ 13 HT_ ?_
   refine lq_ 14 HT_ (fun K hK => ?_)
   refine rv_ X 0 1 [.slice A' (p + 1) c2] rfl ?_
   intro w6 X
   refine hK.out _ _ ?_
   clear hK K
   refine done_ (done_of HT_.out (by kernel_rfl)) ?_
   go_wp2
   go_roundg k1
   case measure => omega
   case rel => exact ⟨p + 1, A', c2, κ', rfl, ⟨by omega, YL, HE.out.trans (hx.trans (dM.trans ku))⟩, ⟨hx_ X⟩⟩
end
def Tot15 : Prop := ∀ (s t : ByteArray) (n : Int) (L : List S53), s.size ≤ 64 → t.size ≤ 64 → nb n → L.length ≤ 6 → (∀ x ∈ L, WB x) → ∃ k r, F15.f k s t n L = some r
section
variable {w0 W : World} {g : Nat} {b : List Int} {κ : Gh} {l : List (Nat × List Value × Nat)}
theorem ixright_w (xt : Tot15) (X : HX w0 W g b κ l) {s t : ByteArray} {n : Int} {A : Option Addr} {m c : Nat} (hs : s.size ≤ 64) (ht : t.size ≤ 64) (hn : nb n) (hr : SR κ .b A m c) (hm : m ≤ 6) : Calls Tryz.prog 15 #[.agg #[.string s, .string t, .int .i64 n, .slice A m c]] W fun e w' => ∃ r, e = .returned (.bool r) ∧ Aside0 (HX w0 w' g b κ l) := by
 obtain ⟨L, rfl, hc, hL, hl⟩ := X.C_b hr
 obtain ⟨k, r, hf⟩ := xt s t n L hs ht hn hm hL
 refine (F15.calls hc hl hf).mono ?_
 rintro e w' ⟨rfl, hb⟩
 exact ⟨r, rfl, ⟨X.below hb⟩⟩
theorem segs_w (xt : Tot15) (lV : Tot26) (X0 : HX w0 W g b κ l) {s t : ByteArray} {num : Int} {A : Option Addr} {n c : Nat} (hs : s.size ≤ 64) (ht : t.size ≤ 64) (hn : nb num) (hA : SR κ .b A n c) (U7 : n ≤ 6) : Calls Tryz.prog 6 #[.agg #[.string s, .string t, .int .i64 num, .slice A n c]] W (PT w0 g b κ l fun κ' v => ∃ P p q, v = .slice P p q ∧ p ≤ 400000 ∧ SR κ' .gl P p q) := by
 have gJ := Tryz.underlying30
 have mD := Tryz.underlying53
 have mB := Tryz.underlying56
 have X := am_ X0
 have N0 := am_ hn
 have HA := am_ hA
 have HSZ := am_ (And.intro hs ht)
 clear X0 hn hA hs ht
 go_enter Tryz.func6, Tryz.ntmps6
 go_upto_if 12 with (first | (((with_reducible refine gate_dst (N := 1) rfl ?_); refine hb_ X 1 [.string s, .string t, .int .i64 num, .slice A n c] 30 ?_; intro gx w1 X)) | ((with_reducible refine gate_dst (N := 9) rfl ?_); refine hl_ X .gl [] (fun _ h => by simp at h) ?_; intro P κ1 w2 X hx hr; have HR := am_ hr; have HF := am_ hx; clear hx hr; have hc := (X.out).rd 0 rfl) | (go_at_call 15; (with_reducible refine (ixright_w xt (hx_ X) HSZ.out.1 HSZ.out.2 N0.out (HA.out.ext HF.out) U7).mono ?_); rintro e w2 ⟨r, rfl, X⟩; have hc := (X.out).rd 0 rfl))
 cases r with
 | false =>
  go_wp2
  go_ret
  exact ⟨_, κ1, rfl, HF.out, ⟨P, 0, 0, rfl, by omega, HR.out⟩, ⟨(hx_ X).tl⟩⟩
 | true =>
  go_wp2_with (first | (go_at_call 23; refine (head_w lV (hx_ X) HSZ.out.1 HSZ.out.2 N0.out _ _ _).mono ?_; rintro e w3 ⟨_, κ8, rfl, hx, ⟨_, rfl, E, p', d', rfl, hp, hE⟩, X⟩; replace HR := am_ (HR.out.ext hx); replace HF := am_ (HF.out.trans hx); have HV := am_ (hE.mk hp); clear hx hE hp) | (at_builtin; refine ha_ .gl rfl rfl rfl rfl (hx_ X) HR.out ⟨_, _, rfl, by decide, .inr ⟨HV.out, by decide⟩⟩ (by simp) ?_; intro A' c' κ' w4 X hx hr; replace HR := am_ hr; replace HF := am_ (HF.out.trans hx); clear hx hr HV))
  clear hc
  go_loopg [3, 4] n (fun kq v3 v4 w' => ∃ (i : Nat) (P : Option Addr) (p q : Nat) (κ' : Gh), v3 = .slice P p q ∧ v4 = .int .i64 i ∧ Aside0 (i + kq = n ∧ p ≤ 1 + i * 5000 ∧ SR κ' .gl P p q ∧ Ext κ κ') ∧ Aside0 (HX w0 w' g b κ' ((gx, [.string s, .string t, .int .i64 num, .slice A n c], 30) :: l)))
  case atStart => exact ⟨0, _, _, _, _, rfl, rfl, ⟨by omega, by simp, HR.out, HF.out⟩, ⟨hx_ X⟩⟩
  case round =>
   clear X HR HF
   obtain ⟨i, P, p, q, κ2, rfl, rfl, ⟨i1, p1, hr, hx⟩, X⟩ := hrel
   have HR := am_ hr
   have HF := am_ hx
   clear hr hx
   have hc := (X.out).rd 0 rfl
   cases gk with
   | zero =>
    have hin : ¬ i < n := by omega
    go_wp2_with (first | (go_at_call 24; refine (two_w lV (hx_ X) _ (by first | exact N1.out | exact N2.out | exact N3.out | exact N0.out | exact ⟨by omega, by omega⟩) (by first | exact N1.out | exact N2.out | exact N3.out | exact N0.out | exact ⟨by omega, by omega⟩)).mono ?_; rintro e w3 ⟨_, κ8, rfl, hx, ⟨_, rfl, E, p', d', rfl, hp, hE⟩, X⟩; replace HR := am_ (HR.out.ext hx); replace HF := am_ (HF.out.trans hx); have HV := am_ (hE.mk hp); clear hx hE hp) | (at_builtin; refine ha_ .gl rfl rfl rfl rfl (hx_ X) HR.out ⟨_, _, rfl, by decide, .inl HV.out⟩ (by omega) ?_; intro A' c' κ' w4 X hx hr; replace HR := am_ hr; replace HF := am_ (HF.out.trans hx); clear hx hr HV))
    go_ret
    exact ⟨_, _, rfl, HF.out, ⟨_, _, _, rfl, by omega, HR.out⟩, ⟨(hx_ X).tl⟩⟩
   | succ k1 =>
    have hin : i < n := by omega
    obtain ⟨kb, rfl⟩ := HA.out.some (by omega)
    obtain ⟨x, y, M, m, d, h1, h2, hm, h4, hc0, hc1, hc2⟩ := X.out.bn (HA.out.ext HF.out) hin
    have N1 := am_ h1
    have N2 := am_ h2
    have HM := am_ h4
    have YM := HF
    replace HF := am_ (Ext.refl κ2)
    clear h1 h2 h4
    go_upto_block 2 with (first | ((with_reducible refine gate_dst (N := 5) rfl ?_); refine hb_ X 5 [.int .i64 0, .int .i64 0, .slice none 0 0] 53 ?_; intro gb w1 X) | (((with_reducible refine gate_store (t := 53) (p := 5) rfl ?_); refine hv_ X 0 0 [.int .i64 x, .int .i64 y, .slice M m d] rfl rfl ?_; intro w1 X); have hc := (X.out).rd 0 rfl) | (go_at_call 24; refine (two_w lV (hx_ X) _ (by first | exact N1.out | exact N2.out | exact N3.out | exact N0.out | exact ⟨by omega, by omega⟩) (by first | exact N1.out | exact N2.out | exact N3.out | exact N0.out | exact ⟨by omega, by omega⟩)).mono ?_; rintro e w3 ⟨_, κ8, rfl, hx, ⟨_, rfl, E, p', d', rfl, hp, hE⟩, X⟩; replace HR := am_ (HR.out.ext hx); replace HF := am_ (HF.out.trans hx); have HV := am_ (hE.mk hp); clear hx hE hp) | (at_builtin; refine ha_ .gl rfl rfl rfl rfl (hx_ X) HR.out ⟨_, _, rfl, by decide, .inl HV.out⟩ (by omega) ?_; intro A' c' κ' w4 X hx hr; replace HR := am_ hr; replace HF := am_ (HF.out.trans hx); clear hx hr HV))
    go_wp2
    go_loopg [3, 6] m (fun kq v3 v6 w' => ∃ (k : Nat) (Q : Option Addr) (e f : Nat) (κ' : Gh), v3 = .slice Q e f ∧ v6 = .int .i64 k ∧ Aside0 (k + kq = m ∧ e ≤ 2 + i * 5000 + k * 66 ∧ SR κ' .gl Q e f ∧ Ext κ2 κ') ∧ Aside0 (HX w0 w' g b κ' ((gb, [.int .i64 x, .int .i64 y, .slice M m d], 53) :: (gx, [.string s, .string t, .int .i64 num, .slice (some ⟨kb, 0, none⟩) n c], 30) :: l)))
    case atStart => exact ⟨0, _, _, _, _, rfl, rfl, ⟨by omega, by omega, HR.out, HF.out⟩, ⟨hx_ X⟩⟩
    case round =>
     clear X HR HF hc0 hc1 hc2
     obtain ⟨k, Q, e, f, κ3, rfl, rfl, ⟨j1, e1, hr, hx⟩, X⟩ := hrel
     have HR := am_ hr
     have HF := am_ hx
     clear hr hx
     have hc := (X.out).rd 0 rfl
     cases gk with
     | zero =>
      have hkm : ¬ k < m := by omega
      go_wp2_with (first | (go_at_call 24; refine (two_w lV (hx_ X) _ (by first | exact N1.out | exact N2.out | exact N3.out | exact N0.out | exact ⟨by omega, by omega⟩) (by first | exact N1.out | exact N2.out | exact N3.out | exact N0.out | exact ⟨by omega, by omega⟩)).mono ?_; rintro e w3 ⟨_, κ8, rfl, hx, ⟨_, rfl, E, p', d', rfl, hp, hE⟩, X⟩; replace HR := am_ (HR.out.ext hx); replace HF := am_ (HF.out.trans hx); have HV := am_ (hE.mk hp); clear hx hE hp) | (at_builtin; refine ha_ .gl rfl rfl rfl rfl (hx_ X) HR.out ⟨_, _, rfl, by decide, .inl HV.out⟩ (by omega) ?_; intro A' c' κ' w4 X hx hr; replace HR := am_ hr; replace HF := am_ (HF.out.trans hx); clear hx hr HV))
      go_roundg k1
      case measure => omega
      case rel => exact ⟨i + 1, _, _, _, _, rfl, rfl, ⟨by omega, by omega, HR.out, YM.out.trans HF.out⟩, ⟨(hx_ X).tl⟩⟩
     | succ k2 =>
      have hkm : k < m := by omega
      obtain ⟨km, rfl⟩ := HM.out.some (by omega)
      obtain ⟨z, D, u, v, h1, hu, h4, hc0, hc1⟩ := X.out.ms (HM.out.ext HF.out) hkm
      have N3 := am_ h1
      have HD := am_ h4
      have YN := HF
      replace HF := am_ (Ext.refl κ3)
      clear h1 h4
      go_upto_block 4 with (first | ((with_reducible refine gate_dst (N := 7) rfl ?_); refine hb_ X 7 [.int .i64 0, .slice none 0 0] 56 ?_; intro gm w1 X) | (((with_reducible refine gate_store (t := 56) (p := 7) rfl ?_); refine hv_ X 0 0 [.int .i64 z, .slice D u v] rfl rfl ?_; intro w1 X); have hc := (X.out).rd 0 rfl) | (go_at_call 26; (with_reducible refine (dec_w lV (hx_ X) N3.out).mono ?_); rintro e w1 ⟨s1, rfl, vR, X⟩) | ((with_reducible refine gate_dst (N := 55) rfl ?_); refine hl_ X (.t 12) [[.string s1]] (fun x hx => by simp at hx; subst hx; exact ⟨_, rfl, vR⟩) ?_; intro A κ9 w2 X hx hr; replace HR := am_ (HR.out.ext hx); replace HF := am_ (HF.out.trans hx); have HL := am_ hr; clear hx hr) | (go_at_call 25; refine (sgl_w (hx_ X) _ HL.out (by simp)).mono ?_; rintro e w3 ⟨_, κ8, rfl, hx, ⟨_, rfl, E, p', d', rfl, hp, hE⟩, X⟩; replace HR := am_ (HR.out.ext hx); replace HF := am_ (HF.out.trans hx); have HV := am_ (hE.mk hp); clear hx hE hp) | (at_builtin; refine ha_ .gl rfl rfl rfl rfl (hx_ X) HR.out ⟨_, _, rfl, by decide, .inl HV.out⟩ (by omega) ?_; intro A' c' κ' w4 X hx hr; replace HR := am_ hr; replace HF := am_ (HF.out.trans hx); clear hx hr HV))
      go_wp2
      go_loopg [3, 8] u (fun kq v3 v8 w' => ∃ (j : Nat) (R : Option Addr) (o r : Nat) (κ' : Gh), v3 = .slice R o r ∧ v8 = .int .i64 j ∧ Aside0 (j + kq = u ∧ o ≤ 3 + i * 5000 + k * 66 + j ∧ SR κ' .gl R o r ∧ Ext κ3 κ') ∧ Aside0 (HX w0 w' g b κ' ((gm, [.int .i64 z, .slice D u v], 56) :: (gb, [.int .i64 x, .int .i64 y, .slice (some ⟨km, 0, none⟩) m d], 53) :: (gx, [.string s, .string t, .int .i64 num, .slice (some ⟨kb, 0, none⟩) n c], 30) :: l)))
      case atStart => exact ⟨0, _, _, _, _, rfl, rfl, ⟨by omega, by omega, HR.out, HF.out⟩, ⟨hx_ X⟩⟩
      case round =>
       clear X HR HF hc0 hc1
       obtain ⟨j, R, o, r, κ4, rfl, rfl, ⟨j2, o1, hr, hx⟩, X⟩ := hrel
       have HR := am_ hr
       have HF := am_ hx
       clear hr hx
       have hc := (X.out).rd 0 rfl
       cases gk with
       | zero =>
        have hju : ¬ j < u := by omega
        go_wp2_with (first | (go_at_call 24; refine (two_w lV (hx_ X) _ (by first | exact N1.out | exact N2.out | exact N3.out | exact N0.out | exact ⟨by omega, by omega⟩) (by first | exact N1.out | exact N2.out | exact N3.out | exact N0.out | exact ⟨by omega, by omega⟩)).mono ?_; rintro e w3 ⟨_, κ8, rfl, hx, ⟨_, rfl, E, p', d', rfl, hp, hE⟩, X⟩; replace HR := am_ (HR.out.ext hx); replace HF := am_ (HF.out.trans hx); have HV := am_ (hE.mk hp); clear hx hE hp) | (at_builtin; refine ha_ .gl rfl rfl rfl rfl (hx_ X) HR.out ⟨_, _, rfl, by decide, .inl HV.out⟩ (by omega) ?_; intro A' c' κ' w4 X hx hr; replace HR := am_ hr; replace HF := am_ (HF.out.trans hx); clear hx hr HV))
        go_roundg k2
        case measure => omega
        case rel => exact ⟨k + 1, _, _, _, _, rfl, rfl, ⟨by omega, by omega, HR.out, YN.out.trans HF.out⟩, ⟨(hx_ X).tl⟩⟩
       | succ k3 =>
        have hju : j < u := by omega
        obtain ⟨kd, rfl⟩ := HD.out.some (by omega)
        obtain ⟨a, G, ga, gc, a1, a2, a3, h4, hc0, hc1⟩ := X.out.sg (HD.out.ext HF.out) hju
        have HG := am_ h4
        have HT := am_ (And.intro a1 a2)
        clear h4 a1 a2
        go_wp2_with (first | (go_at_call 27; refine (copy_w (hx_ X) a HG.out a3).mono ?_; rintro e w3 ⟨_, κ8, rfl, hx, ⟨_, rfl, E, p', d', rfl, hp, hE⟩, X⟩; replace HR := am_ (HR.out.ext hx); replace HF := am_ (HF.out.trans hx); have HV := am_ (hE.mk hp); clear hx hE hp) | (at_builtin; refine ha_ .gl rfl rfl rfl rfl (hx_ X) HR.out ⟨_, _, rfl, HT.out.1, .inr ⟨HV.out, HT.out.2⟩⟩ (by omega) ?_; intro A' c' κ' w4 X hx hr; replace HR := am_ hr; replace HF := am_ (HF.out.trans hx); clear hx hr HV))
        go_roundg k3
        case measure => omega
        case rel => exact ⟨j + 1, _, _, _, _, rfl, rfl, ⟨by omega, by omega, HR.out, HF.out⟩, ⟨hx_ X⟩⟩
end
def W38.T29 : Bool × List (List Nat × List Nat) := (true, [([], []), ([0], [0]), ([], []), ([2], [2]), ([3], [3]), ([1, 0, 1, 2, 3, 4], [1]), ([5, 0, 1, 2, 3, 4], [5]), ([6, 4, 3, 0, 1, 2, 3, 4], [4, 6])])
def W38.B29 : List Nat := [0, 1, 0, 4, 12, 31, 63, 127]
theorem W38.tab29 : rtab .any (opsOf Tryz.f38 29) = W38.T29 := by kernel_rfl
theorem W38.bits29 : waitsOk W38.T29.2 W38.B29 = true := by kernel_rfl
def W38.T31 : Bool × List (List Nat × List Nat) := (true, [([], []), ([0], [0]), ([1], [1]), ([], []), ([3], [3]), ([4], [4]), ([2, 5], [2, 5])])
def W38.B31 : List Nat := [0, 1, 3, 0, 8, 24, 63]
theorem W38.tab31 : rtab .any (opsOf Tryz.f38 31) = W38.T31 := by kernel_rfl
theorem W38.bits31 : waitsOk W38.T31.2 W38.B31 = true := by kernel_rfl
def W38.T32 : Bool × List (List Nat × List Nat) := (true, [([], []), ([0], [0]), ([], []), ([2], [2]), ([3], [3]), ([4], [4]), ([5], [5]), ([1, 6], [1, 6]), ([0, 1, 2, 3, 4, 5, 6, 7], []), ([8, 7, 7, 0, 1, 2, 3, 4, 5, 6, 7], [7, 8])])
def W38.B32 : List Nat := [0, 1, 0, 4, 12, 28, 60, 127, 255, 511]
theorem W38.tab32 : rtab .any (opsOf Tryz.f38 32) = W38.T32 := by kernel_rfl
theorem W38.bits32 : waitsOk W38.T32.2 W38.B32 = true := by kernel_rfl
def W38.T20 : Bool × List (List Nat × List Nat) := (true, [([], []), ([0], [0]), ([1], [1]), ([2], [2]), ([3], [3]), ([4], [4]), ([], []), ([6], [6]), ([7], [7]), ([5, 8], [5, 8])])
def W38.B20 : List Nat := [0, 1, 3, 7, 15, 31, 0, 64, 192, 511]
theorem W38.tab20 : rtab .any (opsOf Tryz.f38 20) = W38.T20 := by kernel_rfl
theorem W38.bits20 : waitsOk W38.T20.2 W38.B20 = true := by kernel_rfl
def W38.T21 : Bool × List (List Nat × List Nat) := (true, [([], []), ([0], [0]), ([], []), ([2], [2]), ([3], [3]), ([4], [4]), ([5], [5]), ([], []), ([7], [7]), ([6, 8], [6, 8]), ([1, 0, 1, 2, 3, 4, 5, 6, 7, 8, 9], [1]), ([10, 0, 1, 2, 3, 4, 5, 6, 7, 8, 9], [10]), ([11, 9, 9, 0, 1, 2, 3, 4, 5, 6, 7, 8, 9], [9, 11])])
def W38.B21 : List Nat := [0, 1, 0, 4, 12, 28, 60, 0, 128, 508, 1023, 2047, 4095]
theorem W38.tab21 : rtab .any (opsOf Tryz.f38 21) = W38.T21 := by kernel_rfl
theorem W38.bits21 : waitsOk W38.T21.2 W38.B21 = true := by kernel_rfl
def Tot41 : Prop := ∀ (t : ByteArray) (L : List S91), t.size ≤ 4096 → L.length ≤ 64 → (∀ e ∈ L, WE 4096 e) → ∃ k r, F41.f k t L = some r
section
variable {w0 W : World} {g : Nat} {b : List Int} {κ : Gh} {l : List (Nat × List Value × Nat)}
theorem right_w (rn : Tot41) (X : HX w0 W g b κ l) {t : ByteArray} (ht : t.size ≤ 4096) {A : Option Addr} {n c : Nat} (hr : SR κ (.e 4096) A n c) (hn : n ≤ 64) : Calls Tryz.prog 41 #[.agg #[.string t, .slice A n c]] W fun e w' => ∃ r, e = .returned (.bool r) ∧ Aside0 (HX w0 w' g b κ l) := by
 obtain ⟨L, rfl, hc, hL, hl⟩ := X.C_e hr
 obtain ⟨k, r, hf⟩ := rn t L ht hn hL
 refine (F41.calls hc hl hf).mono ?_
 rintro e w' ⟨rfl, hb⟩
 exact ⟨r, rfl, ⟨X.below hb⟩⟩
theorem own_w (X : HX w0 W g b κ l) (t : ByteArray) : Calls Tryz.prog 42 #[.string t] W fun e w' => ∃ r, e = .returned (.bool r) ∧ Aside0 (HX w0 w' g b κ l) := by
 have : ∃ r, F42.f t = some r := by
  unfold F42.f
  repeat' split
  all_goals exact ⟨_, rfl⟩
 obtain ⟨r, hr⟩ := this
 refine (F42.calls hr).mono ?_
 rintro e w' ⟨rfl, m, rfl⟩
 exact ⟨r, rfl, ⟨X.drewN m⟩⟩
def nameL : List ByteArray := [⟨#[65, 67, 77, 69]⟩, ⟨#[66, 79, 76, 84]⟩, ⟨#[67, 45, 49]⟩]
theorem nameL_ok : ∀ t ∈ nameL, t.size ≤ 64 := by decide
def fromL : List ByteArray := [⟨#[]⟩, ⟨#[97]⟩, ⟨#[65, 66, 67, 68, 69, 70, 71, 72, 73, 74, 75, 76, 77]⟩, ⟨#[65, 32, 66]⟩]
theorem fromL_ok : ∀ t ∈ fromL, t.size ≤ 64 := by decide
theorem int3 {W : World} {k : Nat} {x : Int} (x0 : 0 ≤ x) (x1 : x < 3) (h : ∀ j, W.cell? ⟨k, j, none⟩ = [Value.int .i64 0, .int .i64 999999, .int .i64 1000000][j]?) : ∃ u, nb u ∧ W.cell? ⟨k, x.toNat, none⟩ = some (.int .i64 u) := by
 rcases (show x = 0 ∨ x = 1 ∨ x = 2 by omega) with rfl | rfl | rfl
 ·exact ⟨_, ⟨by omega, by omega⟩, h 0⟩
 ·exact ⟨_, ⟨by omega, by omega⟩, h 1⟩
 ·exact ⟨_, ⟨by omega, by omega⟩, h 2⟩
theorem el_kind {κ : Gh} {k : Int} {x : List Value} (hk : nb k) (h : EL κ .b x) : EL κ .b (x.set 0 (.int .i64 k)) := by
 obtain ⟨_, y, u, rfl, _, h3, h4⟩ := h
 exact ⟨k, y, u, rfl, hk, h3, h4⟩
theorem el_msgs {κ : Gh} {v : Value} {x : List Value} (hv : SV κ .m v) (h : EL κ .b x) : EL κ .b (x.set 2 v) := by
 obtain ⟨_, y, u, rfl, h2, h3, h4⟩ := h
 exact ⟨_, y, v, rfl, h2, h3, hv⟩
theorem ix_w (rn : Tot41) (X0 : HX w0 W g b κ l) : Calls Tryz.prog 38 #[.pointer (some ⟨g, 0, none⟩)] W (PT w0 g b κ l fun κ' v => ∃ (s t : ByteArray) (n : Int) (u : Value), v = .agg #[.string s, .string t, .int .i64 n, u] ∧ s.size ≤ 64 ∧ t.size ≤ 64 ∧ nb n ∧ SV κ' .b u) := by
 have gJ := Tryz.underlying30
 have mD := Tryz.underlying53
 have mB := Tryz.underlying56
 have dk := Tryz.underlying49
 have X := am_ X0
 clear X0
 go_enter Tryz.func38, Tryz.ntmps38
 go_upto_block 0 with (first | ((with_reducible refine gate_dst (N := 2) rfl ?_); refine hb_ X 2 [.string ⟨#[]⟩, .string ⟨#[]⟩, .int .i64 0, .slice none 0 0] 30 ?_; intro gr w1 X) | (go_at_call 68; refine (pick_w (hx_ X) nameL (by decide) (by decide)).mono ?_; rintro e w2 ⟨t, rfl, ht, X⟩) | (go_at_call 69; (with_reducible refine (n_w (hx_ X) 60 (by omega) (by omega)).mono ?_); rintro e w3 ⟨r, rfl, r0, r1, X⟩) | ((with_reducible refine gate_dst (N := 3) rfl ?_); refine hb_ X 3 [.string ⟨#[]⟩, .string ⟨#[]⟩, .int .i64 0, .slice none 0 0] 30 ?_; intro gi w1 X) | ((with_reducible refine gate_store (t := 30) (p := 3) rfl ?_); refine hv_ X 0 0 [.string t, .string (⟨#[68, 79, 67, 75]⟩ : ByteArray), .int .i64 (1 + r), .slice none 0 0] rfl rfl ?_; intro w1 X) | (go_at_call 69; (with_reducible refine (n_w (hx_ X) 2 (by omega) (by omega)).mono ?_); rintro e w3 ⟨s, rfl, s0, s1, X⟩))
 have HT := am_ (nameL_ok t ht)
 clear ht
 go_cut [] (fun wc => ∃ (A : Option Addr) (n c : Nat) (κ' : Gh), Aside0 (1 ≤ n ∧ n ≤ 2 ∧ SR κ' .b A n c ∧ Ext κ κ') ∧ Aside0 (HX w0 wc g b κ' ((gi, [.string t, .string (⟨#[68, 79, 67, 75]⟩ : ByteArray), .int .i64 (1 + r), .slice A n c], 30) :: (gr, [.string ⟨#[]⟩, .string ⟨#[]⟩, .int .i64 0, .slice none 0 0], 30) :: l)))
 case first =>
  go_wp2
  go_loopg [4] 2 (fun kq v4 w' => ∃ (k : Int) (A : Option Addr) (n c : Nat) (κ' : Gh), v4 = .int .i64 k ∧ Aside0 (0 ≤ k ∧ k.toNat ≤ kq ∧ 1 ≤ n + k.toNat ∧ n + k.toNat ≤ 2 ∧ SR κ' .b A n c ∧ Ext κ κ') ∧ Aside0 (HX w0 w' g b κ' ((gi, [.string t, .string (⟨#[68, 79, 67, 75]⟩ : ByteArray), .int .i64 (1 + r), .slice A n c], 30) :: (gr, [.string ⟨#[]⟩, .string ⟨#[]⟩, .int .i64 0, .slice none 0 0], 30) :: l)))
  case atStart => exact ⟨_, none, 0, 0, κ, rfl, ⟨by omega, by omega, by omega, by omega, .inl ⟨rfl, rfl, rfl⟩, Ext.refl _⟩, ⟨hx_ X⟩⟩
  case round =>
   clear X s0 s1
   obtain ⟨k, A, n, c, κ2, rfl, ⟨k0, k1, k2, k3, hr, hx⟩, X⟩ := hrel
   have HR := am_ hr
   have HE := am_ hx
   clear hr hx
   by_cases hk : 0 < k
   ·have hkb : decide (0 < k) = true := decide_eq_true hk
    cases gk with
    | zero => omega
    | succ q1 =>
     go_upto_block 2 with (first | (go_at_call 69; (with_reducible refine (n_w (hx_ X) 7 (by omega) (by omega)).mono ?_); rintro e w3 ⟨x, rfl, x0, x1, X⟩) | (go_at_call 69; (with_reducible refine (n_w (hx_ X) 99 (by omega) (by omega)).mono ?_); rintro e w3 ⟨y, rfl, y0, y1, X⟩) | (go_at_call 69; (with_reducible refine (n_w (hx_ X) 2 (by omega) (by omega)).mono ?_); rintro e w3 ⟨z, rfl, z0, z1, X⟩) | ((with_reducible refine gate_dst (N := 5) rfl ?_); refine hb_ X 5 [.int .i64 0, .int .i64 0, .slice none 0 0] 53 ?_; intro gb w1 X) | ((with_reducible refine gate_store (t := 53) (p := 5) rfl ?_); refine hv_ X 0 0 [.int .i64 (1 + x), .int .i64 (1 + y), .slice none 0 0] rfl rfl ?_; intro w1 X))
     go_wp2
     go_loopg [6] 2 (fun kq v6 w' => ∃ (j : Int) (B : Option Addr) (m d : Nat) (κ' : Gh), v6 = .int .i64 j ∧ Aside0 (0 ≤ j ∧ j.toNat ≤ kq ∧ 1 ≤ m + j.toNat ∧ m + j.toNat ≤ 2 ∧ SR κ' .m B m d ∧ Ext κ2 κ') ∧ Aside0 (HX w0 w' g b κ' ((gb, [.int .i64 (1 + x), .int .i64 (1 + y), .slice B m d], 53) :: (gi, [.string t, .string (⟨#[68, 79, 67, 75]⟩ : ByteArray), .int .i64 (1 + r), .slice A n c], 30) :: (gr, [.string ⟨#[]⟩, .string ⟨#[]⟩, .int .i64 0, .slice none 0 0], 30) :: l)))
     case atStart => exact ⟨_, none, 0, 0, κ2, rfl, ⟨by omega, by omega, by omega, by omega, .inl ⟨rfl, rfl, rfl⟩, Ext.refl _⟩, ⟨hx_ X⟩⟩
     case round =>
      clear X z0 z1
      obtain ⟨j, B, m, d, κ3, rfl, ⟨j0, j1, j2, j3, hr, hx⟩, X⟩ := hrel
      have U8 := am_ hr
      have QQ := am_ hx
      clear hr hx
      by_cases hj : 0 < j
      ·have hjb : decide (0 < j) = true := decide_eq_true hj
       cases gk with
       | zero => omega
       | succ q2 =>
        go_upto_block 4 with (first | (go_at_call 69; (with_reducible refine (n_w (hx_ X) 99 (by omega) (by omega)).mono ?_); rintro e w3 ⟨u, rfl, u0, u1, X⟩) | (go_at_call 69; (with_reducible refine (n_w (hx_ X) 4 (by omega) (by omega)).mono ?_); rintro e w3 ⟨v, rfl, v0, v1, X⟩) | ((with_reducible refine gate_dst (N := 7) rfl ?_); refine hb_ X 7 [.int .i64 0, .slice none 0 0] 56 ?_; intro gm w1 X) | ((with_reducible refine gate_store (t := 56) (p := 7) rfl ?_); refine hv_ X 0 0 [.int .i64 (1 + u), .slice none 0 0] rfl rfl ?_; intro w1 X))
        go_wp2
        go_loopg [8] 3 (fun kq v8 w' => ∃ (i : Int) (D : Option Addr) (p q : Nat) (κ' : Gh), v8 = .int .i64 i ∧ Aside0 (0 ≤ i ∧ i.toNat ≤ kq ∧ p + i.toNat ≤ 3 ∧ SR κ' .g D p q ∧ Ext κ3 κ') ∧ Aside0 (HX w0 w' g b κ' ((gm, [.int .i64 (1 + u), .slice D p q], 56) :: (gb, [.int .i64 (1 + x), .int .i64 (1 + y), .slice B m d], 53) :: (gi, [.string t, .string (⟨#[68, 79, 67, 75]⟩ : ByteArray), .int .i64 (1 + r), .slice A n c], 30) :: (gr, [.string ⟨#[]⟩, .string ⟨#[]⟩, .int .i64 0, .slice none 0 0], 30) :: l)))
        case atStart => exact ⟨_, none, 0, 0, κ3, rfl, ⟨by omega, by omega, by omega, .inl ⟨rfl, rfl, rfl⟩, Ext.refl _⟩, ⟨hx_ X⟩⟩
        case round =>
         clear X v0 v1
         obtain ⟨i, D, p, q, κ4, rfl, ⟨i0, i1, i2, hr, hx⟩, X⟩ := hrel
         have vS := am_ hr
         have Oo := am_ hx
         clear hr hx
         by_cases hi : 0 < i
         ·have hib : decide (0 < i) = true := decide_eq_true hi
          cases gk with
          | zero => omega
          | succ q3 =>
           go_wp2_with (first | (go_at_call 70; (with_reducible refine (seg_w (hx_ X)).mono ?_); rintro e w4 ⟨_, κ5, rfl, hx, ⟨a, _, rfl, a1, a2, E, e1, e2, rfl, e3, he⟩, X⟩; have HG := am_ (And.intro hx (And.intro a1 (And.intro a2 (And.intro (show e1 ≤ 64 from e3) he)))); clear hx a1 a2 he e3) | ((with_reducible refine gate_dst (N := 9) rfl ?_); refine hb_ X 9 [.string ⟨#[]⟩, .slice none 0 0] 49 ?_; intro gg w1 X) | (((with_reducible refine gate_store (t := 49) (p := 9) rfl ?_); refine hv_ X 0 0 [.string a, .slice E e1 e2] rfl rfl ?_; intro w1 X); have hc := (X.out).rd 0 rfl) | (go_at_call 41; (with_reducible refine (right_w rn (hx_ X) (Nat.le_trans HG.out.2.1 (by omega)) HG.out.2.2.2.2 HG.out.2.2.2.1).mono ?_); rintro e w2 ⟨f1, rfl, X⟩; have hc := (X.out).rd 0 rfl; have hc2 := (X.out).rd 1 rfl) | (go_at_call 42; (with_reducible refine (own_w (hx_ X) _).mono ?_); rintro e w2 ⟨f2, rfl, X⟩; have hc := (X.out).rd 0 rfl; have hc2 := (X.out).rd 1 rfl) | (go_at_call 71; (with_reducible refine (one_w (hx_ X) _ (by omega) (by omega)).mono ?_); rintro e w3 ⟨f3, rfl, X⟩; have hc := (X.out).rd 0 rfl; have hc2 := (X.out).rd 1 rfl) | (at_builtin; refine ha_ .g rfl rfl rfl rfl (hx_ X) (vS.out.ext HG.out.1) ⟨_, _, rfl, Nat.le_trans HG.out.2.1 (by omega), HG.out.2.2.1, HG.out.2.2.2.2.mk HG.out.2.2.2.1⟩ (by omega) ?_; intro A' c' κ' w4 X dM hr2) | ((with_reducible refine gate_store (t := 26) (p := 67) rfl ?_); refine hv_ X 1 1 [.slice A' (p + 1) c'] rfl rfl ?_; intro w1 X))
           all_goals
            go_roundg q3
            case measure => omega
            case rel => first | exact ⟨_, A', p + 1, c', κ', rfl, ⟨by omega, by omega, by omega, hr2, Oo.out.trans (HG.out.1.trans dM)⟩, ⟨X.out.tl⟩⟩ | exact ⟨_, D, p, q, κ5, rfl, ⟨by omega, by omega, by omega, vS.out.ext HG.out.1, Oo.out.trans HG.out.1⟩, ⟨X.out.tl⟩⟩
         ·have hib : decide (0 < i) = false := decide_eq_false hi
          have hc := (X.out).rd 0 rfl
          have hc2 := (X.out).rd 1 rfl
          go_wp2_with (first | (at_builtin; refine ha_ .m rfl rfl rfl rfl (hx_ X) (U8.out.ext Oo.out) ⟨_, _, rfl, ⟨by omega, by omega⟩, vS.out.mk (show _ ≤ 3 by omega)⟩ (by omega) ?_; intro A' c' κ' w4 X dM hr2) | ((with_reducible refine gate_store (t := 51) (p := 73) rfl ?_); refine hv_ X 1 2 [.slice A' (m + 1) c'] rfl rfl ?_; intro w1 X))
          go_roundg q2
          case measure => omega
          case rel => exact ⟨_, A', m + 1, c', κ', rfl, ⟨by omega, by omega, by omega, by omega, hr2, QQ.out.trans (Oo.out.trans dM)⟩, ⟨X.out.tl⟩⟩
      ·have hjb : decide (0 < j) = false := decide_eq_false hj
       have hc := (X.out).rd 0 rfl
       have hc2 := (X.out).rd 1 rfl
       go_wp2_with (first | (at_builtin; refine ha_ .b rfl rfl rfl rfl (hx_ X) (HR.out.ext QQ.out) ⟨_, _, _, rfl, ⟨by omega, by omega⟩, ⟨by omega, by omega⟩, U8.out.mk (show _ ≤ 11 by omega)⟩ (by omega) ?_; intro A' c' κ' w4 X dM hr2) | ((with_reducible refine gate_store (t := 28) (p := 79) rfl ?_); refine hv_ X 1 3 [.slice A' (n + 1) c'] rfl rfl ?_; intro w1 X))
       go_roundg q1
       case measure => omega
       case rel => exact ⟨_, A', n + 1, c', κ', rfl, ⟨by omega, by omega, by omega, by omega, hr2, HE.out.trans (QQ.out.trans dM)⟩, ⟨X.out.tl⟩⟩
   ·have hkb : decide (0 < k) = false := decide_eq_false hk
    go_wp2
    go_meet
    case rel => exact ⟨A, n, c, κ2, ⟨by omega, by omega, HR.out, HE.out⟩, ⟨hx_ X⟩⟩
 case rest =>
  clear X s0 s1
  obtain ⟨A, n, c, κ2, ⟨n1, n2, hr, hx⟩, X⟩ := hcut
  obtain ⟨kb, rfl⟩ := hr.some (by omega)
  have HR := am_ hr
  have HE := am_ hx
  clear hr hx
  have Fe : 0 < n := by omega
  go_upto_if 81 with (go_at_call 71; (with_reducible refine (one_w (hx_ X) _ (by omega) (by omega)).mono ?_); rintro e w3 ⟨f, rfl, X⟩)
  go_cut [] (fun wc => ∃ (s t : ByteArray) (m : Int) (A : Option Addr) (n c : Nat) (κ' : Gh), Aside0 (s.size ≤ 64 ∧ t.size ≤ 64 ∧ nb m ∧ n ≤ 6 ∧ SR κ' .b A n c ∧ Ext κ κ') ∧ Aside0 (HX w0 wc g b κ' ((gi, [.string s, .string t, .int .i64 m, .slice A n c], 30) :: (gr, [.string ⟨#[]⟩, .string ⟨#[]⟩, .int .i64 0, .slice none 0 0], 30) :: l)))
  case first =>
   cases f
   ·go_wp2
    go_meet
    case rel => exact ⟨_, _, _, _, n, c, κ2, ⟨HT.out, by decide, ⟨by omega, by omega⟩, by omega, HR.out, HE.out⟩, ⟨hx_ X⟩⟩
   ·have hcw := (X.out).rd 0 rfl
    go_wp2_with (first | (go_at_call 69; (with_reducible refine (n_w (hx_ X) 6 (by omega) (by omega)).mono ?_); rintro e w3 ⟨v, rfl, v0, v1, X⟩) | (go_at_call 69; (with_reducible refine (n_w (hx_ X) 3 (by omega) (by omega)).mono ?_); rintro e w3 ⟨x, rfl, x0, x1, X⟩; obtain ⟨u, hu, hcu⟩ := int3 x0 x1 ((X.out).rd 0 rfl).1; have HU := am_ hu; clear hu) | (go_at_call 68; refine (pick_w (hx_ X) fromL (by decide) (by decide)).mono ?_; rintro e w2 ⟨t2, rfl, ht, X⟩; have YO := am_ (fromL_ok t2 ht); clear ht) | ((with_reducible refine gate_dst (N := 114) rfl ?_); refine hbs_ X 114 3 [.int .i64 0, .int .i64 999999, .int .i64 1000000] 2 ?_; intro kl w1 X) | ((with_reducible refine gate_store (t := 9) (p := 111) rfl ?_); refine hv_ X 0 0 [.string t2] rfl rfl ?_; intro w1 X) | ((with_reducible refine gate_store (t := 2) (p := 119) rfl ?_); refine hv_ X 1 2 [.int .i64 u] rfl rfl ?_; intro w1 X) | ((with_reducible refine gate_store (t := 28) (p := 122) rfl ?_); refine hv_ X 0 3 [.slice none 0 0] rfl rfl ?_; intro w1 X))
    ·go_meet
     case rel => exact ⟨_, _, _, _, n, c, κ2, ⟨YO.out, by decide, ⟨by omega, by omega⟩, by omega, HR.out, HE.out⟩, ⟨hx_ X⟩⟩
    ·go_meet
     case rel => exact ⟨_, _, _, _, n, c, κ2, ⟨HT.out, by decide, HU.out, by omega, HR.out, HE.out⟩, ⟨X.out.tl⟩⟩
    ·go_meet
     case rel => exact ⟨_, _, _, none, 0, 0, κ2, ⟨HT.out, by decide, ⟨by omega, by omega⟩, by omega, .inl ⟨rfl, rfl, rfl⟩, HE.out⟩, ⟨hx_ X⟩⟩
    ·skip
     refine start_ (n := 8) (S := HS w0 g b κ2 ((gi, [.string t, .string (⟨#[68, 79, 67, 75]⟩ : ByteArray), .int .i64 (1 + r), .slice (some ⟨kb, 0, none⟩) n c], 30) :: (gr, [.string ⟨#[]⟩, .string ⟨#[]⟩, .int .i64 0, .slice none 0 0], 30) :: l)) (ds := [7]) (bs 8 0) (by kernel_rfl) rfl rfl (hs_w X) (fun hHeld => ?_)
     refine with_tabW W38.tab29 W38.bits29 (fun HT_ HW_ => ?_)
     obtain ⟨w1, ey, X⟩ := drw_ X
     rw [← ey] at hHeld ⊢
     clear ey
     refine pq_ 0 HT_ ?_
     refine pq_ 2 HT_ ?_
     refine tq_ 1 HT_ HW_ hHeld rfl (ld_ 0 rfl) ?_
     refine oq_ 3 HT_ (fun K hK => ?_)
     refine gr_ Tryz.func69 #[.pointer (some ⟨g, 0, none⟩), .int .i64 2] (by rfl) ?_ rfl rfl rfl
     with_reducible refine (n_w X.out 2 (by omega) (by omega)).mono ?_
     rintro e w3 ⟨x, rfl, x0, x1, X⟩
     refine ⟨_, rfl, ?_⟩
     refine hK.out _ _ (hs_ (Ext.refl _) X) (fun hHeld => ?_)
     clear hK K
     refine no_ 128 ?_
     refine pq_ 4 HT_ ?_
     refine pq_ 5 HT_ ?_
     refine pq_ 6 HT_ ?_
     refine lq_ 7 HT_ (fun K hK => ?_)
     refine rp_ X HR.out 0 0 0 Fe (by decide) (.int .i64 (wrap64 (8 * x))) (fun _ => el_kind ⟨by unfold wrap64; omega, by unfold wrap64; omega⟩) ?_
     intro w6 X _
     refine hK.out _ _ ?_
     clear hK K
     refine done_ (done_of HT_.out (by kernel_rfl)) ?_
     go_wp2
     go_meet
     case rel => exact ⟨_, _, _, _, n, c, κ2, ⟨HT.out, by decide, ⟨by omega, by omega⟩, by omega, HR.out, HE.out⟩, ⟨hx_ X⟩⟩
    ·go_loopg [] 6 (fun kq w' => ∃ (A : Option Addr) (n c : Nat) (κ' : Gh), Aside0 (1 ≤ n ∧ n ≤ 6 ∧ 6 ≤ n + kq ∧ SR κ' .b A n c ∧ Ext κ κ') ∧ Aside0 (HX w0 w' g b κ' ((gi, [.string t, .string (⟨#[68, 79, 67, 75]⟩ : ByteArray), .int .i64 (1 + r), .slice A n c], 30) :: (gr, [.string ⟨#[]⟩, .string ⟨#[]⟩, .int .i64 0, .slice none 0 0], 30) :: l)))
     case atStart => exact ⟨_, n, c, κ2, ⟨by omega, by omega, by omega, HR.out, HE.out⟩, ⟨hx_ X⟩⟩
     case round =>
      clear X HR HE n1 n2 Fe
      obtain ⟨A, n, c, κ3, ⟨n1, n2, n3, hr, hx⟩, X⟩ := hrel
      obtain ⟨kb, rfl⟩ := hr.some (by omega)
      have HR := am_ hr
      have HE := am_ hx
      clear hr hx
      have Fe : 0 < n := by omega
      go_upto_region 31 with (fail)
      refine start_ (n := 7) (S := HS w0 g b κ3 ((gi, [.string t, .string (⟨#[68, 79, 67, 75]⟩ : ByteArray), .int .i64 (1 + r), .slice (some ⟨kb, 0, none⟩) n c], 30) :: (gr, [.string ⟨#[]⟩, .string ⟨#[]⟩, .int .i64 0, .slice none 0 0], 30) :: l)) (ds := []) (bs 7 0) (by kernel_rfl) rfl rfl (hs_w X) (fun hHeld => ?_)
      refine with_tabW W38.tab31 W38.bits31 (fun HT_ HW_ => ?_)
      obtain ⟨w1, ey, X⟩ := drw_ X
      rw [← ey] at hHeld ⊢
      clear ey
      refine pq_ 0 HT_ ?_
      refine pq_ 3 HT_ ?_
      refine tq_ 1 HT_ HW_ hHeld rfl (ld_ 0 rfl) ?_
      refine pq_ 2 HT_ ?_
      refine oq_ 4 HT_ (fun K hK => ?_)
      refine gr_ Tryz.func69 #[.pointer (some ⟨g, 0, none⟩), .int .i64 2] (by rfl) ?_ rfl rfl rfl
      with_reducible refine (n_w X.out 2 (by omega) (by omega)).mono ?_
      rintro e w3 ⟨x, rfl, x0, x1, X⟩
      refine ⟨_, rfl, ?_⟩
      refine hK.out _ _ (hs_ (Ext.refl _) X) (fun hHeld => ?_)
      clear hK K
      refine no_ 138 ?_
      refine pq_ 5 HT_ ?_
      refine pq_ 6 HT_ ?_
      refine done_ (done_of HT_.out (by kernel_rfl)) ?_
      go_wp2
      ·have hlt : (n : Int) < wrap64 (5 + x) := by assumption
       have U7 : n ≤ 5 := by unfold wrap64 at hlt; omega
       obtain ⟨bx, by_, M, m, d, hbx, hby, hm, hs, hcb⟩ := X.out.bun HR.out Fe
       have HM := am_ hs
       have HCB := am_ hcb
       have HN := am_ (And.intro hbx hby)
       clear hs hcb hbx hby hlt
       refine start_ (n := 10) (S := HEl w0 g b κ3 ((gi, [.string t, .string (⟨#[68, 79, 67, 75]⟩ : ByteArray), .int .i64 (1 + r), .slice (some ⟨kb, 0, none⟩) n c], 30) :: (gr, [.string ⟨#[]⟩, .string ⟨#[]⟩, .int .i64 0, .slice none 0 0], 30) :: l) kb 0 [.int .i64 bx, .int .i64 by_, .slice M m d]) (ds := [7, 9]) (bs 10 0) (by kernel_rfl) rfl rfl (he_0 X HCB.out) (fun hHeld => ?_)
       refine with_tabW W38.tab32 W38.bits32 (fun HT_ HW_ => ?_)
       obtain ⟨w1, ey, X⟩ := drw_ X
       rw [← ey] at hHeld ⊢
       clear ey
       refine pq_ 0 HT_ ?_
       refine pq_ 2 HT_ ?_
       refine tq_ 1 HT_ HW_ hHeld rfl (lde_ 0 rfl) ?_
       refine tq_ 3 HT_ HW_ hHeld rfl (lde_ 0 rfl) ?_
       refine pq_ 4 HT_ ?_
       refine tq_ 5 HT_ HW_ hHeld rfl (ldc_) ?_
       refine oq_ 6 HT_ (fun K hK => ?_)
       refine rb_ 147 1 [.int .i64 bx, .int .i64 by_, .slice M m d] 53 ?_
       refine hK.out _ _ (hHeld.alloc (X.out.rlt HR.out) _) (fun hHeld => ?_)
       clear hK K
       refine no_ 147 ?_
       refine lq_ 7 HT_ (fun K hK => ?_)
       refine has_ .b rfl rfl rfl rfl X.out HR.out ⟨_, _, _, rfl, HN.out.1, HN.out.2, HM.out.mk hm⟩ (by omega) ?_
       intro A' c' κ' w5 X hx hr
       refine hK.out _ _ ?_
       clear hK K
       refine no_ 148 ?_
       refine pq_ 8 HT_ ?_
       refine lq_ 9 HT_ (fun K hK => ?_)
       refine rv_ X 0 3 [.slice A' (n + 1) c'] rfl ?_
       intro w6 X
       refine hK.out _ _ ?_
       clear hK K
       refine done_ (done_of HT_.out (by kernel_rfl)) ?_
       go_wp2
       cases gk with
       | zero => omega
       | succ k1 =>
        go_roundg k1
        case measure => omega
        case rel => exact ⟨_, n + 1, c', κ', ⟨by omega, by omega, by omega, hr, HE.out.trans hx⟩, ⟨hx_ X⟩⟩
      ·go_meet
       case rel => exact ⟨_, _, _, _, n, c, κ3, ⟨HT.out, by decide, ⟨by omega, by omega⟩, by omega, HR.out, HE.out⟩, ⟨hx_ X⟩⟩
    ·go_loopg [] 12 (fun kq w' => ∃ (M : Option Addr) (m d : Nat) (κ' : Gh), Aside0 (w'.cell? ⟨kb, 2, none⟩ = some (.slice M m d)) ∧ Aside0 (11 ≤ m + kq ∧ Ext κ2 κ') ∧ Aside0 (HX w0 w' g b κ' ((gi, [.string t, .string (⟨#[68, 79, 67, 75]⟩ : ByteArray), .int .i64 (1 + r), .slice (some ⟨kb, 0, none⟩) n c], 30) :: (gr, [.string ⟨#[]⟩, .string ⟨#[]⟩, .int .i64 0, .slice none 0 0], 30) :: l)))
     case atStart =>
      obtain ⟨bx, by_, M, m, d, hbx, hby, hm, hs, hcb⟩ := X.out.bun HR.out Fe
      exact ⟨M, m, d, κ2, ⟨hcb 2 _ rfl⟩, ⟨by omega, Ext.refl _⟩, ⟨hx_ X⟩⟩
     case round =>
      clear X
      obtain ⟨M, m, d, κ3, hc0, ⟨m1, hx⟩, X⟩ := hrel
      have HF := am_ hx
      have vS := am_ (HR.out.ext hx)
      obtain ⟨bx, by_, M', m', d', hbx, hby, hm, hs, hcb⟩ := X.out.bun vS.out Fe
      obtain ⟨rfl, rfl, rfl⟩ : M' = M ∧ m' = m ∧ d' = d := by
       have h1 := (hcb 2 _ rfl).symm.trans hc0.out
       injection h1 with h1
       injection h1 with h1 h2 h3
       exact ⟨h1, h2, h3⟩
      have HM := am_ hs
      have HCB := am_ hcb
      clear hs hcb hbx hby hx
      go_upto_region 20 with (fail)
      refine start_ (n := 10) (S := HEl w0 g b κ3 ((gi, [.string t, .string (⟨#[68, 79, 67, 75]⟩ : ByteArray), .int .i64 (1 + r), .slice (some ⟨kb, 0, none⟩) n c], 30) :: (gr, [.string ⟨#[]⟩, .string ⟨#[]⟩, .int .i64 0, .slice none 0 0], 30) :: l) kb 0 [.int .i64 bx, .int .i64 by_, .slice M' m' d']) (ds := []) (bs 10 0) (by kernel_rfl) rfl rfl (he_0 X HCB.out) (fun hHeld => ?_)
      refine with_tabW W38.tab20 W38.bits20 (fun HT_ HW_ => ?_)
      obtain ⟨w1, ey, X⟩ := drw_ X
      rw [← ey] at hHeld ⊢
      clear ey
      refine pq_ 0 HT_ ?_
      refine pq_ 6 HT_ ?_
      refine tq_ 1 HT_ HW_ hHeld rfl (lde_ 0 rfl) ?_
      refine pq_ 2 HT_ ?_
      refine pq_ 3 HT_ ?_
      refine tq_ 4 HT_ HW_ hHeld rfl (ldc_) ?_
      refine pq_ 5 HT_ ?_
      refine oq_ 7 HT_ (fun K hK => ?_)
      have hlt := X.out.rlt vS.out
      refine gr_ Tryz.func69 #[.pointer (some ⟨g, 0, none⟩), .int .i64 2] (by rfl) ?_ rfl rfl rfl
      with_reducible refine (nk_w X.out 2 (by omega) (by omega)).mono ?_
      rintro e w3 ⟨x, rfl, x0, x1, X, hk⟩
      refine ⟨_, rfl, ?_⟩
      refine hK.out _ _ (hHeld.step (hs_ (Ext.refl _) X) (hk.2 kb hlt (X.out.rne vS.out) (by simp)).symm) (fun hHeld => ?_)
      clear hK K
      refine no_ 91 ?_
      refine pq_ 8 HT_ ?_
      refine pq_ 9 HT_ ?_
      refine done_ (done_of HT_.out (by kernel_rfl)) ?_
      have HH := am_ hHeld
      clear hHeld
      go_wp2
      ·have hlt : (m' : Int) < wrap64 (10 + x) := by assumption
       have YP : m' ≤ 10 := by unfold wrap64 at hlt; omega
       clear hlt
       refine start_ (n := 13) (S := HEl w0 g b κ3 ((gi, [.string t, .string (⟨#[68, 79, 67, 75]⟩ : ByteArray), .int .i64 (1 + r), .slice (some ⟨kb, 0, none⟩) n c], 30) :: (gr, [.string ⟨#[]⟩, .string ⟨#[]⟩, .int .i64 0, .slice none 0 0], 30) :: l) kb 0 [.int .i64 bx, .int .i64 by_, .slice M' m' d']) (ds := [12]) (bs 13 0) (by kernel_rfl) rfl rfl (he_w X HH.out.2) (fun hHeld => ?_)
       refine with_tabW W38.tab21 W38.bits21 (fun HT_ HW_ => ?_)
       obtain ⟨w1, ey, X⟩ := drw_ X
       rw [← ey] at hHeld ⊢
       clear ey
       refine pq_ 0 HT_ ?_
       refine pq_ 2 HT_ ?_
       refine pq_ 7 HT_ ?_
       refine tq_ 1 HT_ HW_ hHeld rfl (lde_ 0 rfl) ?_
       refine tq_ 3 HT_ HW_ hHeld rfl (lde_ 0 rfl) ?_
       refine pq_ 4 HT_ ?_
       refine pq_ 5 HT_ ?_
       refine tq_ 6 HT_ HW_ hHeld rfl (ldc_) ?_
       refine oq_ 8 HT_ (fun K hK => ?_)
       have hh := hHeld
       refine rb_ 102 1 [.int .i64 1, .slice none 0 0] 56 ?_
       refine hK.out _ _ (hHeld.alloc (X.out.rlt vS.out) _) (fun hHeld => ?_)
       clear hK K
       refine no_ 102 ?_
       refine oq_ 9 HT_ (fun K hK => ?_)
       have hlt := X.out.rlt vS.out
       refine hask_ .m rfl rfl rfl rfl X.out HM.out ⟨_, _, rfl, ⟨by omega, by omega⟩, SV.nil _ _⟩ (by omega) ?_
       intro A' c' κ' w5 X hx hr hkp
       refine hK.out _ _ (hh.step (hs_ hx X) (hkp kb hlt (sr_ne vS.out HM.out)).symm) (fun hHeld => ?_)
       clear hh hkp
       clear hK K
       refine no_ 103 ?_
       refine pq_ 10 HT_ ?_
       refine pq_ 11 HT_ ?_
       refine lq_ 12 HT_ (fun K hK => ?_)
       refine rp_ X (vS.out.ext hx) 0 2 2 Fe (by decide) (.slice A' (m' + 1) c') (fun _ => el_msgs (hr.mk (show _ ≤ 11 by omega))) ?_
       intro w6 X hcw
       refine hK.out _ _ ?_
       clear hK K
       refine done_ (done_of HT_.out (by kernel_rfl)) ?_
       go_wp2
       cases gk with
       | zero => omega
       | succ k1 =>
        go_roundg k1
        case measure => omega
        case rel => exact ⟨A', m' + 1, c', κ', ⟨hcw⟩, ⟨by omega, HF.out.trans hx⟩, ⟨hx_ X⟩⟩
      ·go_meet
       case rel => exact ⟨_, _, _, _, n, c, κ3, ⟨HT.out, by decide, ⟨by omega, by omega⟩, by omega, vS.out, HE.out.trans HF.out⟩, ⟨hx_ X⟩⟩
  case rest =>
   clear X HR HE HT
   obtain ⟨s, t, m, A, n, c, κ3, ⟨s1, s2, s3, s4, hr, hx⟩, X⟩ := hcut
   have HP := am_ (And.intro s3 (And.intro hr hx))
   clear hr hx
   have hc := (X.out).rd 0 rfl
   go_wp2_with (first | ((with_reducible refine gate_store (t := 30) (p := 2) rfl ?_); refine hv_ X 1 0 [.string s, .string t, .int .i64 m, .slice A n c] rfl rfl ?_; intro w1 X))
   refine bodyPost_ret (results_cell_row rfl _ _ gr 30 #[.string s, .string t, .int .i64 m, .slice A n c] (0, 0) _ rfl (X.out.get 1 rfl) Tryz.underlying30 rfl (by kernel_rfl)) rfl ?_
   exact ⟨_, κ3, rfl, HP.out.2.2, ⟨s, t, m, _, rfl, s1, s2, HP.out.1, HP.out.2.1.mk (show _ ≤ 6 by omega)⟩, ⟨X.out.tl.tl⟩⟩
end
def W45.T7 : Bool × List (List Nat × List Nat) := (true, [([], []), ([], []), ([0, 1], [0, 1]), ([], []), ([], []), ([4], [4]), ([3, 5], [3, 5]), ([2, 6], [2, 6]), ([7, 7, 0, 1, 2, 3, 4, 5, 6, 7], [0, 3, 7])])
def W45.B7 : List Nat := [0, 0, 3, 0, 0, 16, 56, 127, 255]
theorem W45.tab7 : rtab .any (opsOf Tryz.f45 7) = W45.T7 := by kernel_rfl
theorem W45.bits7 : waitsOk W45.T7.2 W45.B7 = true := by kernel_rfl
def W45.T5 : Bool × List (List Nat × List Nat) := (true, [([], []), ([], []), ([], []), ([], []), ([2, 3], [2, 3]), ([4], [4]), ([5], [5]), ([], []), ([], []), ([7, 8], [7, 8]), ([9], [9]), ([6, 10, 9], [6, 10]), ([0, 1, 0, 1, 2, 3, 4, 5, 6, 7, 8, 9, 10, 11], [0, 1]), ([12, 11, 11, 0, 1, 2, 3, 4, 5, 6, 7, 8, 9, 10, 11], [11, 12])])
def W45.B5 : List Nat := [0, 0, 0, 0, 12, 28, 60, 0, 0, 384, 896, 2044, 4095, 8191]
theorem W45.tab5 : rtab .any (opsOf Tryz.f45 5) = W45.T5 := by kernel_rfl
theorem W45.bits5 : waitsOk W45.T5.2 W45.B5 = true := by kernel_rfl
section
variable {w0 W : World} {g : Nat} {b : List Int} {κ : Gh} {l : List (Nat × List Value × Nat)}
theorem n1_w (X : HX w0 W g b κ l) (m : Int) (hm : 1 ≤ m) (hm2 : m ≤ 9223372036854775807) :
  Calls Tryz.prog 69 #[.pointer (some ⟨g, 0, none⟩), .int .i64 m] W fun e w' => ∃ r, e = .returned (.int .i64 r) ∧ 0 ≤ r ∧ r < m ∧ Aside0 (HX w0 w' g b κ l) := by
 rcases (show m = 1 ∨ 2 ≤ m by omega) with rfl | h
 ·refine (n_one _ 1 (by omega)).mono ?_
  rintro e w' ⟨rfl, rfl⟩
  exact ⟨0, rfl, by omega, by omega, ⟨X⟩⟩
 ·exact n_w X m h hm2
def trailL : List ByteArray := [⟨#[77, 83, 84]⟩, ⟨#[71, 82, 84]⟩, ⟨#[73, 88, 84]⟩, ⟨#[71, 82, 72]⟩]
theorem trailL_ok : ∀ t ∈ trailL, t.size ≤ 4096 := by decide
def lastL : List ByteArray := [⟨#[120]⟩, ⟨#[48, 49]⟩, ⟨#[53]⟩]
theorem lastL_ok : ∀ t ∈ lastL, t.size ≤ 12 := by decide
theorem list_w (xt : Tot15) (lV : Tot26) (rn : Tot41) (X0 : HX w0 W g b κ l) : Calls Tryz.prog 45 #[.pointer (some ⟨g, 0, none⟩)] W (PT w0 g b κ l fun κ' v => ∃ P p q, v = .slice P p q ∧ p ≤ 400001 ∧ SR κ' .gl P p q) := by
 have dk := Tryz.underlying49
 have X := am_ X0
 clear X0
 go_enter Tryz.func45, Tryz.ntmps45
 go_upto_region 2 with (first | ((with_reducible refine gate_dst (N := 5) rfl ?_); refine hlk_ X .gl [] (fun _ h => by simp at h) ?_; intro k κ1 w2 X hx hr; have HR := am_ hr; have HF := am_ hx; clear hx hr) | (go_at_call 38; (with_reducible refine (ix_w rn (hx_ X)).mono ?_); rintro e w3 ⟨_, κ3, rfl, hx, ⟨s, t, n, _, rfl, s1, s2, s3, A, m, c, rfl, hm, hA⟩, X⟩; replace hm : m ≤ 6 := hm; replace HR := am_ (HR.out.ext hx); replace HF := am_ (HF.out.trans hx); have HA := am_ hA; have HN := am_ (And.intro s1 (And.intro s2 s3)); clear hx hA s1 s2 s3) | (go_at_call 6; (with_reducible refine (segs_w xt lV (hx_ X) HN.out.1 HN.out.2.1 HN.out.2.2 HA.out hm).mono ?_); rintro e w3 ⟨_, κ3, rfl, hx, ⟨P, p, q, rfl, hp, hP⟩, X⟩; replace HR := am_ (HR.out.ext hx); replace HF := am_ (HF.out.trans hx); have HP := am_ hP; clear hx hP HA HN hm) | (at_builtin; refine hap_ .gl rfl rfl rfl rfl (hx_ X) HR.out (X.out.elems HP.out).choose_spec (by simp; omega) ?_; intro A' c' κ' w4 X hx hr; simp only [List.length_nil, Nat.zero_add] at hr ⊢; replace HR := am_ hr; replace HF := am_ (HF.out.trans hx); clear hx hr HP))
 by_cases YQ : 0 < p
 ·obtain ⟨kp, rfl⟩ := HR.out.some YQ
  have hpc := HR.out.le
  go_wp2_with (first | (go_at_call 71; (with_reducible refine (one_w (hx_ X) _ (by omega) (by omega)).mono ?_); rintro e w3 ⟨f, rfl, X⟩) | (go_at_call 69; (with_reducible refine (n_w (hx_ X) 6 (by omega) (by omega)).mono ?_); rintro e w3 ⟨v, rfl, v0, v1, X⟩; obtain ⟨y, M, m, d, hE, q0, q1⟩ := X.out.gl HR.out hjp; have HEL := am_ hE; clear hE) | (go_at_call 69; (with_reducible refine (n_w (hx_ X) 4 (by omega) (by omega)).mono ?_); rintro e w3 ⟨x, rfl, x0, x1, X⟩) | (go_at_call 69; (with_reducible refine (n_w (hx_ X) 99 (by omega) (by omega)).mono ?_); rintro e w3 ⟨z, rfl, z0, z1, X⟩) | (go_at_call 69; refine (n1_w (hx_ X) _ (by omega) (by omega)).mono ?_; rintro e w3 ⟨k, rfl, k0, k1, X⟩; obtain ⟨j, rfl⟩ : ∃ j : Nat, k = j := ⟨k.toNat, by omega⟩; have hjp : j < p := (by omega)) | (at_builtin; refine ha_ .gl rfl rfl rfl rfl (hx_ X) HR.out HEL.out (by omega) ?_; intro A' c' κ' w4 X hx hr; replace HR := am_ hr; replace HF := am_ (HF.out.trans hx); clear hx hr HEL) | (go_at_call 70; (with_reducible refine (seg_w (hx_ X)).mono ?_); rintro e w4 ⟨_, κ5, rfl, hx, ⟨a, _, rfl, a1, a2, E, e1, e2, rfl, e3, he⟩, X⟩; replace HR := am_ (HR.out.ext hx); replace HF := am_ (HF.out.trans hx); have HEL := am_ (show EL κ5 .gl [.string a, .slice E e1 e2] from ⟨_, _, rfl, by omega, .inr ⟨he.mk e3, a2⟩⟩); clear hx he e3 a1 a2) | (go_at_call 68; refine (pick_w (hx_ X) trailL (by decide) (by decide)).mono ?_; rintro e w2 ⟨a, rfl, ht, X⟩; have HT := am_ (trailL_ok a ht); clear ht) | (go_at_call 24; refine (two_w lV (hx_ X) _ ⟨by omega, by omega⟩ ⟨by omega, by omega⟩).mono ?_; rintro e w3 ⟨_, κ5, rfl, hx, ⟨_, rfl, E, e1, e2, rfl, hp, hE⟩, X⟩; replace HR := am_ (HR.out.ext hx); replace HF := am_ (HF.out.trans hx); have HEL := am_ (show EL κ5 .gl [.string a, .slice E e1 e2] from ⟨_, _, rfl, HT.out, .inl (hE.mk hp)⟩); clear hx hE hp) | ((with_reducible refine gate_store (t := 49) (p := 66) rfl ?_); refine hvg_ X HR.out j hjp (.string a) (.slice E e1 e2) HEL.out rfl ?_; intro w1 X) | ((with_reducible refine gate_store (t := 49) (p := 79) rfl ?_); refine hvg_ X HR.out j hjp (.string a) (.slice E e1 e2) HEL.out rfl ?_; intro w1 X))
  ·have hj1 : (j : Int) + 1 ≤ (p : Int) := by omega
   have hj2 : (0 : Int) ≤ (j : Int) + 1 := by omega
   have hjc : j ≤ c' := by omega
   have ey : wrap64 ((j : Int) + 1) = (j : Int) + 1 := wid_ (by omega) (by omega)
   refine start_ (n := 9) (S := HS w0 g b κ' (l)) (ds := [7]) (bs 9 0) (by kernel_rfl) rfl rfl (hs_w X) (fun hHeld => ?_)
   refine with_tabW W45.tab7 W45.bits7 (fun HT_ HW_ => ?_)
   obtain ⟨w1, ey, X⟩ := drw_ X
   rw [← ey] at hHeld ⊢
   clear ey
   refine pq_ 0 HT_ ?_
   refine pq_ 1 HT_ ?_
   refine pq_ 2 HT_ ?_
   refine pq_ 3 HT_ ?_
   refine pq_ 4 HT_ ?_
   refine pq_ 5 HT_ ?_
   refine pq_ 6 HT_ ?_
   refine lq_ 7 HT_ (fun K hK => ?_)
   obtain ⟨ys, y1, y2, y3⟩ := X.out.tail HR.out (show j + 1 ≤ p by omega)
   refine haps_ .gl rfl rfl rfl rfl X.out (HR.out.cut (show j ≤ p by omega)) ⟨y1, y2, .inr ?_⟩ (by omega) ?_
   ·by_cases hq : c' = j + 1
    ·have hy : ys = [] := List.eq_nil_of_length_eq_zero (by omega)
     exact ⟨_, if_pos hq, fun i u h => by rw [hy] at h; simp at h⟩
    ·exact ⟨_, if_neg hq, y3⟩
   intro B q κ5 w5 X hx hr _
   refine hK.out _ _ ?_
   clear hK K
   refine no_ 45 ?_
   refine pq_ 8 HT_ ?_
   refine done_ (done_of HT_.out (by kernel_rfl)) ?_
   go_wp2
   all_goals
    go_ret
    exact ⟨_, _, rfl, HF.out.trans hx, ⟨_, _, _, rfl, by omega, hr⟩, ⟨hx_ X⟩⟩
  ·go_ret
   exact ⟨_, _, rfl, HF.out, ⟨_, j, _, rfl, by omega, HR.out.cut (by omega)⟩, ⟨hx_ X⟩⟩
  ·go_ret
   exact ⟨_, _, rfl, HF.out, ⟨_, p + 1, _, rfl, by omega, HR.out⟩, ⟨hx_ X⟩⟩
  ·go_ret
   exact ⟨_, _, rfl, HF.out, ⟨_, p, _, rfl, by omega, HR.out⟩, ⟨hx_ X⟩⟩
  ·go_ret
   exact ⟨_, _, rfl, HF.out, ⟨_, p, _, rfl, by omega, HR.out⟩, ⟨hx_ X⟩⟩
  ·obtain ⟨_, _, hh, hsz, _⟩ := HEL.out
   injection hh with hh _
   injection hh with hh
   subst hh
   have HSZ := am_ hsz
   clear hsz
   refine start_ (n := 14) (S := HEl w0 g b κ' l kp (j * 2) [.string y]) (ds := [11, 13]) (bs 14 0) (by kernel_rfl) rfl rfl (he_1 X q0) (fun hHeld => ?_)
   refine with_tabW W45.tab5 W45.bits5 (fun HT_ HW_ => ?_)
   obtain ⟨w1, ey, X⟩ := drw_ X
   rw [← ey] at hHeld ⊢
   clear ey
   refine pq_ 0 HT_ ?_
   refine pq_ 1 HT_ ?_
   refine pq_ 2 HT_ ?_
   refine pq_ 3 HT_ ?_
   refine pq_ 4 HT_ ?_
   refine pq_ 5 HT_ ?_
   refine pq_ 7 HT_ ?_
   refine tq_ 6 HT_ HW_ hHeld rfl (ld1_) ?_
   refine oq_ 8 HT_ (fun K hK => ?_)
   have hlt := X.out.rlt HR.out
   refine rtk_ X 31 3 lastL ?_
   intro kl w4 X hb
   refine hK.out _ _ (hHeld.step (hs_ (Ext.refl _) ⟨X.out.tl⟩) (hb.block kp hlt).symm) (fun hHeld => ?_)
   clear hK K
   refine no_ 31 ?_
   refine oq_ 9 HT_ (fun K hK => ?_)
   have hlt := X.out.rlt HR.out
   have hne := X.out.rne HR.out
   refine gr_ Tryz.func68 #[.pointer (some ⟨g, 0, none⟩), .slice (some ⟨kl, 0, none⟩) 3 3] (by rfl) ?_ rfl rfl rfl
   refine (ptk_w X.out 0 lastL rfl rfl (by decide) (by decide)).mono ?_
   rintro e w5 ⟨a, rfl, ha, Y, hk⟩
   have X := am_ Y.out.tl
   refine ⟨_, rfl, ?_⟩
   refine hK.out _ _ (hHeld.step (hs_ (Ext.refl _) X) (hk.2 kp hlt hne (by simp)).symm) (fun hHeld => ?_)
   clear hK K
   refine no_ 32 ?_
   refine oq_ 10 HT_ (fun K hK => ?_)
   have hlt := X.out.rlt HR.out
   refine rlk_ X 33 (.t 12) [[.string ⟨#[49]⟩], [.string a]] (fun x hx => by simp at hx; rcases hx with rfl | rfl; exact ⟨_, rfl, by decide⟩; exact ⟨_, rfl, lastL_ok a ha⟩) ?_
   intro kB κ8 w6 X hx hr hb
   refine hK.out _ _ (hHeld.step (hs_ hx X) (hb.block kp hlt).symm) (fun hHeld => ?_)
   clear hK K
   refine no_ 33 ?_
   refine lq_ 11 HT_ (fun K hK => ?_)
   refine gr_ Tryz.func25 #[.string y, .slice (some ⟨kB, 0, none⟩) 2 2] (by rfl) ?_ rfl rfl rfl
   refine (sgl_w X.out _ hr (by simp)).mono ?_
   rintro e w7 ⟨_, κ9, rfl, dM, ⟨_, rfl, E, e1, e2, rfl, e3, he⟩, X⟩
   refine ⟨_, rfl, ?_⟩
   refine hK.out _ _ ?_
   clear hK K
   refine no_ 34 ?_
   refine pq_ 12 HT_ ?_
   refine lq_ 13 HT_ (fun K hK => ?_)
   refine rvg_ X ((HR.out.ext hx).ext dM) j hjp (.string y) (.slice E e1 e2) ⟨_, _, rfl, HSZ.out, .inl (he.mk e3)⟩ ?_
   intro w8 X
   refine hK.out _ _ ?_
   clear hK K
   refine done_ (done_of HT_.out (by kernel_rfl)) ?_
   go_wp2
   go_ret
   exact ⟨_, _, rfl, HF.out.trans (hx.trans dM), ⟨_, p, _, rfl, by omega, (HR.out.ext hx).ext dM⟩, ⟨hx_ X⟩⟩
  ·go_ret
   exact ⟨_, _, rfl, HF.out, ⟨_, p, _, rfl, by omega, HR.out⟩, ⟨hx_ X⟩⟩
 ·obtain rfl : p = 0 := by omega
  go_wp2_with (first | (go_at_call 71; (with_reducible refine (one_w (hx_ X) _ (by omega) (by omega)).mono ?_); rintro e w3 ⟨f, rfl, X⟩))
  all_goals
   go_ret
   exact ⟨_, _, rfl, HF.out, ⟨_, _, _, rfl, by omega, HR.out⟩, ⟨hx_ X⟩⟩
end
def Tot37 : Prop := ∀ L : List Int, L.length ≤ 1048576 → ∃ k mix size, F37.f k L = some (L, 0, mix, size)
section
variable {w0 w : World} {A : Option Addr} {c : Nat} {L : List Int}
def κ0 : Gh := fun _ => none
theorem source_w (zy : Tot37) (hB : Below w0.heap.size w0 w) (hr : Kd.C (Kd.int .u8) w0 A L.length L) (hc : L.length ≤ c) (hL : L.length ≤ 1048576) {l : List (Nat × List Value × Nat)} (hl : (∀ p ∈ l, w0.heap.size ≤ p.1 ∧ p.2.2 ≠ 104 ∧ w.heap[p.1]? = some (.cells p.2.1.toArray p.2.2 (0, 0))) ∧ (l.map (·.1)).Nodup) :
  Calls Tryz.prog 37 #[.slice A L.length c] w fun e w' => ∃ g, e = .returned (.pointer (some ⟨g, 0, none⟩)) ∧ Aside0 (HX w0 w' g L κ0 l) := by
 obtain ⟨k, mix, size, hf⟩ := zy L hL
 refine (F37.calls w0 hB hr hc hf).mono ?_
 rintro e w' ⟨g, rfl, hi, hb, hb2⟩
 have YR := hi
 obtain ⟨A1, c1, i1, i2, i3⟩ := YR
 refine ⟨g, rfl, ⟨⟨⟨_, _, _, _, _, i1, i2, i3, by omega, by omega⟩, hb, hL, fun k e c h => by simp [κ0] at h, fun p hp => ?_, hl.2⟩⟩⟩
 obtain ⟨h1, h2, h3⟩ := hl.1 p hp
 have h4 := blk_below h3 hb2
 exact ⟨(hi.ne_blk h4 h2).symm, h1, h4⟩
theorem hl_box {gr : Nat} {cs : Array Value} (h : gr = w0.heap.size) (hb : w.heap[gr]? = some (.cells cs 30 (0, 0))) : (∀ p ∈ [(gr, cs.toList, 30)], w0.heap.size ≤ p.1 ∧ p.2.2 ≠ 104 ∧ w.heap[p.1]? = some (.cells p.2.1.toArray p.2.2 (0, 0))) ∧ ([(gr, cs.toList, 30)].map (·.1)).Nodup := by
 refine ⟨fun p hp => ?_, by simp⟩
 rw [List.mem_singleton.1 hp]
 exact ⟨Nat.le_of_eq h.symm, (by decide : (30 : Nat) ≠ 104), by simpa using hb⟩
theorem hl_none : (∀ p ∈ ([] : List (Nat × List Value × Nat)), w0.heap.size ≤ p.1 ∧ p.2.2 ≠ 104 ∧ w.heap[p.1]? = some (.cells p.2.1.toArray p.2.2 (0, 0))) ∧ (([] : List (Nat × List Value × Nat)).map (·.1)).Nodup := ⟨fun p hp => by simp at hp, by simp⟩
def PX (w : World) (e : Ending) (w' : World) : Prop := ∃ (s t : ByteArray) (n : Int) (A : Option Addr) (c : Nat) (L : List S53), e = .returned (.agg #[.string s, .string t, .int .i64 n, .slice A L.length c]) ∧ Aside0 (s.size ≤ 64 ∧ t.size ≤ 64 ∧ nb n ∧ L.length ≤ 6 ∧ (∀ x ∈ L, WB x)) ∧ Aside0 (Kd.C k53 w' A L.length L) ∧ L.length ≤ c ∧ Below w.heap.size w w'
theorem drawix_w (rn : Tot41) (zy : Tot37) (hr : Kd.C (Kd.int .u8) w A L.length L) (hc : L.length ≤ c) (hL : L.length ≤ 1048576) : Calls Tryz.prog 14 #[.slice A L.length c] w (PX w) := by
 have gJ := Tryz.underlying30
 have HR := am_ hr
 have HC := am_ hc
 have HL := am_ hL
 clear hr hc hL
 go_enter Tryz.func14, Tryz.ntmps14
 go_wp2_with (first | ((with_reducible refine gate_dst (N := 2) rfl ?_); refine be_ 2 #[.string ⟨#[]⟩, .string ⟨#[]⟩, .int .i64 0, .slice none 0 0] 30 ?_; intro gr hg w1 hb1 hb; have B := am_ (And.intro hg (And.intro hb1 hb)); clear hg hb1 hb) | (go_at_call 37; (with_reducible refine (source_w zy (w0 := w) B.out.2.2 HR.out HC.out HL.out (hl_box B.out.1 B.out.2.1)).mono ?_); rintro e w2 ⟨g, rfl, X⟩) | (go_at_call 38; (with_reducible refine (ix_w rn (hx_ X)).mono ?_); rintro e w3 ⟨_, κ3, rfl, hx, ⟨s, t, n, _, rfl, s1, s2, s3, D, m, d, rfl, hm, hA⟩, X⟩; have HA := am_ (And.intro hA (And.intro s1 (And.intro s2 (And.intro s3 (show m ≤ 6 from hm))))); clear hx hA s1 s2 s3 hm) | ((with_reducible refine gate_store (t := 30) (p := 2) rfl ?_); refine hv_ X 0 0 [.string s, .string t, .int .i64 n, .slice D m d] rfl rfl ?_; intro w1 X))
 refine bodyPost_ret (results_cell_row rfl _ _ gr 30 #[.string s, .string t, .int .i64 n, .slice D m d] (0, 0) _ rfl (X.out.get 0 rfl) Tryz.underlying30 rfl (by kernel_rfl)) rfl ?_
 obtain ⟨M, h1, h2, h3, h4⟩ := X.out.C_b HA.out.1
 subst h1
 exact ⟨s, t, n, D, d, M, rfl, ⟨HA.out.2.1, HA.out.2.2.1, HA.out.2.2.2.1, HA.out.2.2.2.2, h3⟩, ⟨h2⟩, h4, X.out.2.1⟩
def PL (w : World) (e : Ending) (w' : World) : Prop := ∃ (A : Option Addr) (c : Nat) (L : List S49), e = .returned (.slice A L.length c) ∧ Aside0 (L.length ≤ 400001 ∧ (∀ x ∈ L, WL x)) ∧ Aside0 (Kd.C k49 w' A L.length L) ∧ L.length ≤ c ∧ Below w.heap.size w w'
theorem drawlist_w (xt : Tot15) (lV : Tot26) (rn : Tot41) (zy : Tot37) (hr : Kd.C (Kd.int .u8) w A L.length L) (hc : L.length ≤ c) (hL : L.length ≤ 1048576) : Calls Tryz.prog 19 #[.slice A L.length c] w (PL w) := by
 have HR := am_ hr
 have HC := am_ hc
 have HL := am_ hL
 clear hr hc hL
 go_enter Tryz.func19, Tryz.ntmps19
 go_wp2_with (first | (go_at_call 37; (with_reducible refine (source_w zy (w0 := w) (Below.refl _ _) HR.out HC.out HL.out hl_none).mono ?_); rintro e w2 ⟨g, rfl, X⟩) | (go_at_call 45; (with_reducible refine (list_w xt lV rn (hx_ X)).mono ?_); rintro e w3 ⟨_, κ3, rfl, hx, ⟨D, m, d, rfl, hm, hA⟩, X⟩; have HA := am_ (And.intro hA hm); clear hx hA hm))
 go_ret
 obtain ⟨M, h1, h2, h3, h4⟩ := X.out.C_gl HA.out.1
 subst h1
 exact ⟨D, d, M, rfl, ⟨HA.out.2, h3⟩, ⟨h2⟩, h4, X.out.2.1⟩
end
def LX (w0 : World) (l : List (Nat × List Value × Nat)) (W : World) : Prop := Below w0.heap.size w0 W ∧ (∀ p ∈ l, w0.heap.size ≤ p.1 ∧ W.heap[p.1]? = some (.cells p.2.1.toArray p.2.2 (0, 0))) ∧ (l.map (·.1)).Nodup
section
variable {w0 W W1 : World} {l l' : List (Nat × List Value × Nat)}
theorem LX.below (h : LX w0 l W) (hb : Below W.heap.size W W1) : LX w0 l W1 := ⟨below_step h.1 hb, fun p hp => ⟨(h.2.1 p hp).1, blk_below (h.2.1 p hp).2 hb⟩, h.2.2⟩
theorem LX.drewN (h : LX w0 l W) (m : Nat) : LX w0 l (W.drewN m) := h.below (pw_below_drewN (Below.refl _ _) m)
theorem LX.drew (h : LX w0 l W) : LX w0 l W.drew := h.below (below_drew1 (Below.refl _ _))
theorem LX.rd (h : LX w0 l W) (i : Nat) {gb : Nat} {cs : List Value} {ty : Nat} (hi : l[i]? = some (gb, cs, ty)) : (∀ j, W.cell? ⟨gb, j, none⟩ = cs[j]?) ∧ ∀ j, W.frozen? ⟨gb, j, none⟩ = false :=
 ⟨fun j => (blk_cell (h.2.1 _ (List.mem_of_getElem? hi)).2 j).trans (by simp), fun j => blk_frozen (h.2.1 _ (List.mem_of_getElem? hi)).2 j⟩
theorem lx_ (X : Aside0 (LX w0 l W)) (h : LX w0 l W → LX w0 l W1 := by intro hq_; (with_reducible repeat (first | exact hq_ | apply LX.drewN | apply LX.drew))) : LX w0 l W1 := h X.out
theorem lxb_ (X : Aside0 (LX w0 l W)) (h : LX w0 l W → LX w0 l W1 := by intro hq_; (with_reducible repeat (first | exact hq_ | apply LX.drewN | apply LX.drew))) : Below w0.heap.size w0 W1 := (h X.out).1
theorem drl_ (X : Aside0 (LX w0 l W)) (h : LX w0 l W → LX w0 l W1 := by intro hq_; (with_reducible repeat (first | exact hq_ | apply LX.drewN | apply LX.drew))) : ∃ w1, w1 = W1.drew ∧ Aside0 (LX w0 l w1) ∧ Below W1.heap.size W1 w1 := ⟨_, rfl, ⟨(h X.out).drew⟩, below_drew1 (Below.refl _ _)⟩
theorem ldl_ {P : Program} {a : Act} {o : Oper} {v : Value} (i : Nat) {gb ty : Nat} {cs : List Value} (hi : l[i]? = some (gb, cs, ty)) (h : ∀ w, (∀ j, w.cell? ⟨gb, j, none⟩ = cs[j]?) → (execOp a.eval o).run P w = .ok (.value v) w := by intro w' hc_; go_simp; with_reducible rfl) : ∀ w, LX w0 l w → (execOp a.eval o).run P w = .ok (.value v) w := fun w hS => h w (hS.rd i hi).1
section
variable {P : Program} {ops : Array Oper} {rest : List Oper} {o : Oper} {a : Act} {Q : Exit → Act → World → Prop}
theorem lb_ (X : Aside0 (LX w0 l W)) (N : Tmp) (cs : List Value) (t : TypeId) (h : ∀ gb w1, Aside0 (LX w0 ((gb, cs, t) :: l) w1) → gb = W1.heap.size → Below W1.heap.size W1 w1 → wpList P ops Q rest (a.put o.dst (.pointer (some ⟨gb, 0, none⟩))) w1)
  (hX : LX w0 l W → LX w0 l W1 := by intro hq_; (with_reducible repeat (first | exact hq_ | apply LX.drewN | apply LX.drew))) (hd : o.dst = some N := by rfl) (hgd : o.guard = none := by rfl)
  (hrun : (execOp a.eval o).run P W1 = .ok (.value (.pointer (some ⟨W1.heap.size, 0, none⟩))) (W1.alloc (.cells cs.toArray t (0, 0))) := by first | (go_simp; done) | (go_simp; rfl)) : wpList P ops Q (o :: rest) a W1 :=
 box_event hgd hd hrun (fun gb hg w1 hc hb => h gb w1 ⟨by
  have X1 := hX X.out
  have X2 := X1.below hb
  have hz := X1.1.size
  refine ⟨X2.1, fun p hp => ?_, ?_⟩
  ·rcases List.mem_cons.1 hp with rfl | hp
   ·exact ⟨by show w0.heap.size ≤ gb; omega, hc⟩
   ·exact X2.2.1 p hp
  ·rw [List.map_cons, List.nodup_cons]
   refine ⟨fun hm => ?_, X2.2.2⟩
   obtain ⟨p, hp, he⟩ := List.mem_map.1 hm
   have := blk_lt (X1.2.1 p hp).2
   omega⟩ hg hb)
theorem lbv_ (X : Aside0 (LX w0 l W)) (N : Tmp) (cs us : List Value) (t : TypeId) {o2 : Oper} {v : Operand} (ho2 : o2.op = .store t (.tmp N) v) (h : ∀ gb w2, Aside0 (LX w0 ((gb, us, t) :: l) w2) → Below W1.heap.size W1 w2 → wpList P ops Q rest (a.put (some N) (.pointer (some ⟨gb, 0, none⟩))) w2)
  (hX : LX w0 l W → LX w0 l W1 := by intro hq_; (with_reducible repeat (first | exact hq_ | apply LX.drewN | apply LX.drew))) (hd : o.dst = some N := by rfl) (hgd : o.guard = none := by rfl) (hN : o2.dst = none := by rfl) (nW : o2.guard = none := by rfl)
  (hrun : (execOp a.eval o).run P W1 = .ok (.value (.pointer (some ⟨W1.heap.size, 0, none⟩))) (W1.alloc (.cells cs.toArray t (0, 0))) := by first | (go_simp; done) | (go_simp; rfl))
  (Ky : ∀ gb w, (∀ j, w.cell? ⟨gb, j, none⟩ = cs[j]?) ∧ (∀ j, w.frozen? ⟨gb, j, none⟩ = false) → (execOp (a.put (some N) (.pointer (some ⟨gb, 0, none⟩))).eval o2).run P w = .ok .skip (sets w gb 0 us) := by intro gb_ w_ ⟨hc_, hf_⟩; first | (go_simp; done) | (go_simp; rfl))
  (hl : spl cs 0 us = us := by simp only [List.set_cons_zero, List.set_cons_succ, spl]) : wpList P ops Q (o :: o2 :: rest) a W1 := by
 refine lb_ X N cs t (fun gb w1 Y hg hb => ?_) hX hd hgd hrun
 rw [hd]
 obtain ⟨h1, h2, h3⟩ := Y.out
 obtain ⟨q1, q2⟩ := h2 _ List.mem_cons_self
 obtain ⟨s1, s2, s3⟩ := sets_heap (us := us) (j := 0) q2
 rw [List.map_cons, List.nodup_cons] at h3
 exact store_event nW ho2 hN (Ky gb w1 (Y.out.rd 0 rfl)) (fun w2 hw => by
  rw [hw]
  refine h gb _ ⟨sets_below q1 h1, fun p hp => ?_, by rw [List.map_cons, List.nodup_cons]; exact h3⟩ (sets_below (Nat.le_of_eq hg.symm) hb)
  rcases List.mem_cons.1 hp with rfl | hp
  ·rw [hl] at s1
   exact ⟨q1, s1⟩
  ·obtain ⟨a1, a2⟩ := h2 p (List.mem_cons_of_mem _ hp)
   exact ⟨a1, (s3 p.1 (fun e => h3.1 (by rw [← e]; exact List.mem_map_of_mem hp))).trans a2⟩)
end
end
theorem c_keep {α : Type} {d : Kd α} {w W : World} {A : Option Addr} {n : Nat} {xs : List α} (h : Kd.C d w A n xs) (hb : Below w.heap.size w W) : Kd.C d W A n xs := Kd.C_below h hb
def W21.T6 : Bool × List (List Nat × List Nat) := (true, [([], []), ([], []), ([0, 1], [0, 1]), ([2], [2]), ([], []), ([], []), ([4, 5], [4, 5]), ([6], [6]), ([3, 7], [3, 7]), ([8], [8])])
def W21.B6 : List Nat := [0, 0, 3, 7, 0, 0, 48, 112, 255, 511]
theorem W21.tab6 : rtab .any (opsOf Tryz.f21 6) = W21.T6 := by kernel_rfl
theorem W21.bits6 : waitsOk W21.T6.2 W21.B6 = true := by kernel_rfl
def W17.T13 : Bool × List (List Nat × List Nat) := (true, [([], []), ([0], [0]), ([], []), ([1, 2], [1, 2]), ([3], [3]), ([4], [4]), ([], []), ([6], [6]), ([], []), ([7, 8], [7, 8]), ([9], [9]), ([10], [10]), ([5, 11], [5, 11]), ([12], [12]), ([13], [13]), ([14, 13], [13, 14]), ([13], [13]), ([15, 16, 13], [13, 15, 16]), ([17, 13], [13, 17]), ([18, 13], [13, 18]), ([13], [13]), ([20, 13], [13, 20]), ([13], [13]), ([21, 22, 13], [13, 21, 22]), ([23, 13], [13, 23]), ([24, 13], [13, 24]), ([19, 25, 13, 13], [13, 19, 25]), ([26, 13], [13, 26]), ([13, 27], [13, 27])])
def W17.B13 : List Nat := [0, 1, 0, 7, 15, 31, 0, 64, 0, 448, 960, 1984, 4095, 8191, 16383, 32767, 16383, 131071, 262143, 524287, 16383, 1064959, 16383, 7356415, 15745023, 32522239, 67108863, 134217727, 268435455]
theorem W17.tab13 : rtab .any (opsOf Tryz.f17 13) = W17.T13 := by kernel_rfl
theorem W17.bits13 : waitsOk W17.T13.2 W17.B13 = true := by kernel_rfl
section
variable {w : World} {A B : Option Addr} {n : Nat}
theorem c_el {L : List S91} (h : Kd.C k91 w A n L) {i : Nat} (hi : i < n) {x : S91} (hx : Aside0 (L.getD i z91 = x)) : ∃ ad B c, A = some ad ∧ w.cell? (ad.add i) = some (.slice B x.f0.length c) ∧ Kd.string.C w B x.f0.length x.f0 := by
 obtain ⟨ad, B, c, h1, h2, h3, h4⟩ := at_T91 h (i : Int) (by omega) (by omega)
 have e : rd_T91 L (i : Int) = x := hx.out
 rw [e] at h2 h4
 exact ⟨ad, B, c, h1, h2, h4⟩
theorem c_tx {L : List ByteArray} (h : Kd.C Kd.string w A n L) {i : Nat} (hi : i < n) {x : ByteArray} (hx : Aside0 (L.getD i ByteArray.empty = x)) : ∃ ad, A = some ad ∧ w.cell? (ad.add i) = some (.string x) := by
 obtain ⟨ad, h1, h2⟩ := Kd.at_string h (i : Int) (by omega) (by omega)
 have e : rdOf ByteArray.empty L (i : Int) = x := hx.out
 rw [e] at h2
 exact ⟨ad, h1, h2⟩
theorem nm_ {α : Type} (x : α) : ∃ y, Aside0 (x = y) := ⟨x, ⟨rfl⟩⟩
def Same (w : World) (e : Ending) (w' : World) : Prop := e = .returned (.bool true) ∧ Below w.heap.size w w'
theorem seg_same (t : ByteArray) (L : List S91) {c d : Nat} (hA : Kd.C k91 w A L.length L) (hB : Kd.C k91 w B L.length L) : Calls Tryz.prog 51 #[.agg #[.string t, .slice A L.length c], .agg #[.string t, .slice B L.length d]] w (Same w) := by
 have dk := Tryz.underlying49
 have kX := Tryz.underlying91
 have X : Aside0 (LX w [] w) := ⟨Below.refl _ _, fun p hp => by simp at hp, by simp⟩
 have HA := am_ hA
 have HB := am_ hB
 have hm := hA.2.1
 have xr : (!(t.toList == t.toList)) = false := by simp
 have At : (t.toList == t.toList) = true := by simp
 clear hA hB
 go_enter Tryz.func51, Tryz.ntmps51
 go_upto_region 1 with (first | ((with_reducible refine gate_dst (N := 2) rfl ?_); refine lb_ X 2 [.string t, .slice A L.length c] 49 ?_; intro ga w1 X hg_ hb_; clear hg_ hb_) | ((with_reducible refine gate_dst (N := 3) rfl ?_); refine lb_ X 3 [.string t, .slice B L.length d] 49 ?_; intro gb w1 X hg_ hb_; clear hg_ hb_; have hc := (X.out).rd 0 rfl; have hc2 := (X.out).rd 1 rfl))
 go_wp2
 repeat (go_quiet (fail); try go_wp2)
 go_loopg [5] L.length (fun kq v5 w' => ∃ i : Nat, v5 = .int .i64 i ∧ Aside0 (i + kq = L.length) ∧ Aside0 (LX w ([(gb, [.string t, .slice B L.length d], 49), (ga, [.string t, .slice A L.length c], 49)]) w'))
 case atStart => exact ⟨0, rfl, ⟨by omega⟩, ⟨lx_ X⟩⟩
 case round =>
  clear X hc hc2
  obtain ⟨i, rfl, ⟨i1⟩, X⟩ := hrel
  have hc := (X.out).rd 0 rfl
  have hc2 := (X.out).rd 1 rfl
  cases gk with
  | zero =>
   have hi : ¬ i < L.length := by omega
   go_wp2
   go_ret
   exact ⟨rfl, lxb_ X⟩
  | succ k1 =>
   have hi : i < L.length := by omega
   obtain ⟨x, hx⟩ := nm_ (L.getD i z91)
   obtain ⟨aa, A1, c1, rfl, ha, hCa⟩ := c_el (c_keep HA.out (lxb_ X : Below w.heap.size w wr)) hi hx
   obtain ⟨ab, B1, d1, rfl, hb, hCb⟩ := c_el (c_keep HB.out (lxb_ X : Below w.heap.size w wr)) hi hx
   have hm2 := hCa.2.1
   clear hCa hCb
   go_upto_region 6 with (fail)
   repeat (go_quiet (fail); try go_wp2)
   go_loopg [6] x.f0.length (fun kq v6 w' => ∃ k : Nat, v6 = .int .i64 k ∧ Aside0 (k + kq = x.f0.length) ∧ Aside0 (LX w ([(gb, [.string t, .slice (some ab) L.length d], 49), (ga, [.string t, .slice (some aa) L.length c], 49)]) w'))
   case atStart => exact ⟨0, rfl, ⟨by omega⟩, ⟨lx_ X⟩⟩
   case round =>
    clear X hc hc2 ha hb
    obtain ⟨k, rfl, ⟨kk⟩, X⟩ := hrel
    have hc := (X.out).rd 0 rfl
    have hc2 := (X.out).rd 1 rfl
    obtain ⟨_, A1, c1, ea, ha, hCa⟩ := c_el (c_keep HA.out (lxb_ X : Below w.heap.size w wr)) hi hx
    injection ea with ea
    subst ea
    obtain ⟨_, B1, d1, eb, hb, hCb⟩ := c_el (c_keep HB.out (lxb_ X : Below w.heap.size w wr)) hi hx
    injection eb with eb
    subst eb
    cases gk with
    | zero =>
     have hk : ¬ k < x.f0.length := by omega
     clear hCa hCb
     go_wp2
     go_roundg k1
     case measure => omega
     case rel => exact ⟨i + 1, rfl, ⟨by omega⟩, ⟨lx_ X⟩⟩
    | succ k2 =>
     have hk : k < x.f0.length := by omega
     obtain ⟨y, hy⟩ := nm_ (x.f0.getD k ByteArray.empty)
     obtain ⟨ta, rfl, hta⟩ := c_tx hCa hk hy
     obtain ⟨tb, rfl, htb⟩ := c_tx hCb hk hy
     clear hCa hCb
     have U9 : (y.toList == y.toList) = true := by simp
     go_upto_region 11 with (fail)
     repeat (go_quiet (fail); try go_wp2)
     go_roundg k2
     case measure => omega
     case rel => exact ⟨k + 1, rfl, ⟨by omega⟩, ⟨lx_ X⟩⟩
theorem c_sg {L : List S49} (h : Kd.C k49 w A n L) {i : Nat} (hi : i < n) {x : S49} (hx : Aside0 (L.getD i z49 = x)) : ∃ ad B c, A = some ad ∧ w.cell? (ad.add (i * 2)) = some (.string x.f0) ∧ w.cell? ⟨(ad.add (i * 2)).block, (ad.add (i * 2)).off + 1, none⟩ = some (.slice B x.f1.length c) ∧ Kd.C k91 w B x.f1.length x.f1 := by
 obtain ⟨ad, B, c, h1, h2, h3, h4, h5⟩ := at_T49 h (i : Int) (by omega) (by omega)
 have e : rd_T49 L (i : Int) = x := hx.out
 rw [e] at h2 h3 h5
 exact ⟨ad, B, c, h1, h2, h3, h5⟩
def LXe (w0 : World) (l : List (Nat × List Value × Nat)) (F : World → Prop) (w' : World) : Prop := LX w0 l w' ∧ F w'
theorem ldle_ {w0 : World} {l : List (Nat × List Value × Nat)} {F : World → Prop} {P : Program} {a : Act} {o : Oper} {v : Value} (i : Nat) {gb ty : Nat} {cs : List Value} (hi : l[i]? = some (gb, cs, ty)) (h : ∀ w, (∀ j, w.cell? ⟨gb, j, none⟩ = cs[j]?) → (execOp a.eval o).run P w = .ok (.value v) w := by intro w' hc_; go_simp; with_reducible rfl) : ∀ w, LXe w0 l F w → (execOp a.eval o).run P w = .ok (.value v) w := fun w hS => ldl_ i hi h w hS.1
theorem segs_same (L : List S49) {c d : Nat} (hA : Kd.C k49 w A L.length L) (hB : Kd.C k49 w B L.length L) : Calls Tryz.prog 21 #[.slice A L.length c, .slice B L.length d] w (Same w) := by
 have dk := Tryz.underlying49
 have X : Aside0 (LX w [] w) := ⟨Below.refl _ _, fun p hp => by simp at hp, by simp⟩
 have HA := am_ hA
 have HB := am_ hB
 have hm := hA.2.1
 clear hA hB
 go_enter Tryz.func21, Tryz.ntmps21
 go_wp2
 go_loopg [5] L.length (fun kq v5 w' => ∃ i : Nat, v5 = .int .i64 i ∧ Aside0 (i + kq = L.length) ∧ Aside0 (LX w [] w'))
 case atStart => exact ⟨0, rfl, ⟨by omega⟩, ⟨lx_ X⟩⟩
 case round =>
  clear X
  obtain ⟨i, rfl, ⟨i1⟩, X⟩ := hrel
  cases gk with
  | zero =>
   have hi : ¬ i < L.length := by omega
   go_wp2
   go_ret
   exact ⟨rfl, lxb_ X⟩
  | succ k1 =>
   have hi : i < L.length := by omega
   obtain ⟨x, hx⟩ := nm_ (L.getD i z49)
   obtain ⟨aa, A1, c1, rfl, ha0, QR, hCa⟩ := c_sg (c_keep HA.out (lxb_ X : Below w.heap.size w wr)) hi hx
   obtain ⟨ab, B1, d1, rfl, hb0, hb1, hCb⟩ := c_sg (c_keep HB.out (lxb_ X : Below w.heap.size w wr)) hi hx
   have H1 := am_ hCa
   have H2 := am_ hCb
   clear hCa hCb
   go_upto_region 6 with (fail)
   refine start_ (n := 10) (S := LXe w [] (fun w' => w'.cell? (aa.add (i * 2)) = some (.string x.f0) ∧ w'.cell? ⟨(aa.add (i * 2)).block, (aa.add (i * 2)).off + 1, none⟩ = some (.slice A1 x.f1.length c1) ∧ w'.cell? (ab.add (i * 2)) = some (.string x.f0) ∧ w'.cell? ⟨(ab.add (i * 2)).block, (ab.add (i * 2)).off + 1, none⟩ = some (.slice B1 x.f1.length d1))) (ds := [8]) (bs 10 0) (by kernel_rfl) rfl rfl (⟨X.out.drew, ha0, QR, hb0, hb1⟩) (fun hHeld => ?_)
   refine with_tabW W21.tab6 W21.bits6 (fun HT_ HW_ => ?_)
   obtain ⟨w1, ey, X, hbw⟩ := drl_ X
   rw [← ey] at hHeld ⊢
   clear ey
   refine pq_ 0 HT_ ?_
   refine pq_ 1 HT_ ?_
   refine pq_ 2 HT_ ?_
   refine pq_ 4 HT_ ?_
   refine pq_ 5 HT_ ?_
   refine pq_ 6 HT_ ?_
   refine tq_ 3 HT_ HW_ hHeld rfl ((by rintro w' ⟨-, h0, h1, -, -⟩; go_simp; with_reducible rfl)) ?_
   refine tq_ 7 HT_ HW_ hHeld rfl ((by rintro w' ⟨-, -, -, h0, h1⟩; go_simp; with_reducible rfl)) ?_
   refine lq_ 8 HT_ (fun K hK => ?_)
   refine gr_ Tryz.func51 #[.agg #[.string x.f0, .slice A1 x.f1.length c1], .agg #[.string x.f0, .slice B1 x.f1.length d1]] (by rfl) ?_ rfl rfl rfl
   refine (seg_same _ _ (c_keep H1.out hbw) (c_keep H2.out hbw)).mono ?_
   rintro e w3 ⟨rfl, hb⟩
   refine ⟨_, rfl, ?_⟩
   replace X := am_ (X.out.below hb)
   refine hK.out _ _ ?_
   clear hK K
   refine no_ 25 ?_
   refine pq_ 9 HT_ ?_
   refine done_ (done_of HT_.out (by kernel_rfl)) ?_
   go_wp2
   go_roundg k1
   case measure => omega
   case rel => exact ⟨i + 1, rfl, ⟨by omega⟩, ⟨lx_ X⟩⟩
theorem c_ms {L : List S56} (h : Kd.C k56 w A n L) {i : Nat} (hi : i < n) {x : S56} (hx : Aside0 (L.getD i z56 = x)) : ∃ ad B c, A = some ad ∧ w.cell? (ad.add (i * 2)) = some (.int .i64 x.f0) ∧ w.cell? ⟨(ad.add (i * 2)).block, (ad.add (i * 2)).off + 1, none⟩ = some (.slice B x.f1.length c) ∧ Kd.C k49 w B x.f1.length x.f1 := by
 obtain ⟨ad, B, c, h1, h2, h3, h4, h5⟩ := at_T56 h (i : Int) (by omega) (by omega)
 have e : rd_T56 L (i : Int) = x := hx.out
 rw [e] at h2 h3 h5
 exact ⟨ad, B, c, h1, h2, h3, h5⟩
theorem c_bn {L : List S53} (h : Kd.C k53 w A n L) {i : Nat} (hi : i < n) {x : S53} (hx : Aside0 (L.getD i z53 = x)) : ∃ ad B c, A = some ad ∧ w.cell? (ad.add (i * 3)) = some (.int .i64 x.f0) ∧ w.cell? ⟨(ad.add (i * 3)).block, (ad.add (i * 3)).off + 1, none⟩ = some (.int .i64 x.f1) ∧ w.cell? ⟨(ad.add (i * 3)).block, (ad.add (i * 3)).off + 2, none⟩ = some (.slice B x.f2.length c) ∧ Kd.C k56 w B x.f2.length x.f2 := by
 obtain ⟨ad, B, c, h1, h2, h3, h4, h5, h6⟩ := at_T53 h (i : Int) (by omega) (by omega)
 have e : rd_T53 L (i : Int) = x := hx.out
 rw [e] at h2 h3 h4 h6
 exact ⟨ad, B, c, h1, h2, h3, h4, h6⟩
theorem LX.tl {w W : World} {p : Nat × List Value × Nat} {l : List (Nat × List Value × Nat)} (h : LX w (p :: l) W) : LX w l W := ⟨h.1, fun q hq => h.2.1 q (List.mem_cons_of_mem _ hq), (List.nodup_cons.1 (by simpa using h.2.2)).2⟩
theorem ix_same (s t : ByteArray) (n : Int) (L : List S53) {c d : Nat} (hA : Kd.C k53 w A L.length L) (hB : Kd.C k53 w B L.length L) : Calls Tryz.prog 17 #[.agg #[.string s, .string t, .int .i64 n, .slice A L.length c], .agg #[.string s, .string t, .int .i64 n, .slice B L.length d]] w (Same w) := by
 have gJ := Tryz.underlying30
 have mD := Tryz.underlying53
 have mB := Tryz.underlying56
 have X : Aside0 (LX w [] w) := ⟨Below.refl _ _, fun p hp => by simp at hp, by simp⟩
 have HA := am_ hA
 have HB := am_ hB
 have hm := hA.2.1
 have xr : (s.toList == s.toList) = true := by simp
 have At : (t.toList == t.toList) = true := by simp
 clear hA hB
 go_enter Tryz.func17, Tryz.ntmps17
 go_upto_region 1 with (first | ((with_reducible refine gate_dst (N := 2) rfl ?_); refine lb_ X 2 [.string s, .string t, .int .i64 n, .slice A L.length c] 30 ?_; intro ga w1 X hg_ hb_; clear hg_ hb_) | ((with_reducible refine gate_dst (N := 3) rfl ?_); refine lb_ X 3 [.string s, .string t, .int .i64 n, .slice B L.length d] 30 ?_; intro gb w1 X hg_ hb_; clear hg_ hb_; have hc := (X.out).rd 0 rfl; have hc2 := (X.out).rd 1 rfl))
 go_wp2
 repeat (go_quiet (fail); try go_wp2)
 go_loopg [5] L.length (fun kq v5 w' => ∃ i : Nat, v5 = .int .i64 i ∧ Aside0 (i + kq = L.length) ∧ Aside0 (LX w ([(gb, [.string s, .string t, .int .i64 n, .slice B L.length d], 30), (ga, [.string s, .string t, .int .i64 n, .slice A L.length c], 30)]) w'))
 case atStart => exact ⟨0, rfl, ⟨by omega⟩, ⟨lx_ X⟩⟩
 case round =>
  clear X hc hc2
  obtain ⟨i, rfl, ⟨i1⟩, X⟩ := hrel
  have hc := (X.out).rd 0 rfl
  have hc2 := (X.out).rd 1 rfl
  cases gk with
  | zero =>
   have hi : ¬ i < L.length := by omega
   go_wp2
   go_ret
   exact ⟨rfl, lxb_ X⟩
  | succ k1 =>
   have hi : i < L.length := by omega
   obtain ⟨x, hx⟩ := nm_ (L.getD i z53)
   obtain ⟨aa, A1, c1, rfl, ha0, QR, YS, hCa⟩ := c_bn (c_keep HA.out (lxb_ X : Below w.heap.size w wr)) hi hx
   have H1 := am_ hCa
   clear hCa
   go_upto_region 8 with (first | ((with_reducible refine gate_dst (N := 6) rfl ?_); refine lbv_ X 6 [.int .i64 0, .int .i64 0, .slice none 0 0] [.int .i64 x.f0, .int .i64 x.f1, .slice A1 x.f2.length c1] 53 rfl ?_; intro gx w2 X hb; replace H1 := am_ (c_keep H1.out hb); clear hb hc hc2 ha0 QR YS; have hc2 := (X.out).rd 1 rfl; obtain ⟨ab, B1, d1, rfl, hb0, hb1, hb2, hCb⟩ := c_bn (c_keep HB.out (lxb_ X : Below w.heap.size w w2)) hi hx; have H2 := am_ hCb; clear hCb) | ((with_reducible refine gate_dst (N := 7) rfl ?_); refine lbv_ X 7 [.int .i64 0, .int .i64 0, .slice none 0 0] [.int .i64 x.f0, .int .i64 x.f1, .slice B1 x.f2.length d1] 53 rfl ?_; intro gy w2 X hb; replace H1 := am_ (c_keep H1.out hb); replace H2 := am_ (c_keep H2.out hb); clear hb hc2 hb0 hb1 hb2; have hc := (X.out).rd 0 rfl; have hc2 := (X.out).rd 1 rfl))
   go_wp2
   repeat (go_quiet (fail); try go_wp2)
   have hm2 := H1.out.2.1
   go_loopg [8] x.f2.length (fun kq v8 w' => ∃ k : Nat, v8 = .int .i64 k ∧ Aside0 (k + kq = x.f2.length) ∧ Aside0 (Kd.C k56 w' A1 x.f2.length x.f2 ∧ Kd.C k56 w' B1 x.f2.length x.f2) ∧ Aside0 (LX w ([(gy, [.int .i64 x.f0, .int .i64 x.f1, .slice B1 x.f2.length d1], 53), (gx, [.int .i64 x.f0, .int .i64 x.f1, .slice A1 x.f2.length c1], 53), (gb, [.string s, .string t, .int .i64 n, .slice (some ab) L.length d], 30), (ga, [.string s, .string t, .int .i64 n, .slice (some aa) L.length c], 30)]) w'))
   case atStart => exact ⟨0, rfl, ⟨by omega⟩, ⟨H1.out, H2.out⟩, ⟨lx_ X⟩⟩
   case round =>
    clear X hc hc2 H1 H2
    obtain ⟨k, rfl, ⟨kk⟩, H, X⟩ := hrel
    have hc := (X.out).rd 0 rfl
    have hc2 := (X.out).rd 1 rfl
    cases gk with
    | zero =>
     have hk : ¬ k < x.f2.length := by omega
     go_wp2
     go_roundg k1
     case measure => omega
     case rel => exact ⟨i + 1, rfl, ⟨by omega⟩, ⟨lx_ ⟨LX.tl (LX.tl X.out)⟩⟩⟩
    | succ k2 =>
     have hk : k < x.f2.length := by omega
     obtain ⟨y, hy⟩ := nm_ (x.f2.getD k z56)
     obtain ⟨am, A2, c2, rfl, YT, YU, hCa⟩ := c_ms H.out.1 hk hy
     obtain ⟨bm, B2, d2, rfl, YV, YW, hCb⟩ := c_ms H.out.2 hk hy
     have H1 := am_ hCa
     have H2 := am_ hCb
     have hnn : (y.f0 != y.f0) = false := by simp
     clear hCa hCb
     go_upto_region 13 with (fail)
     refine start_ (n := 29) (S := LXe w ([(gy, [.int .i64 x.f0, .int .i64 x.f1, .slice (some bm) x.f2.length d1], 53), (gx, [.int .i64 x.f0, .int .i64 x.f1, .slice (some am) x.f2.length c1], 53), (gb, [.string s, .string t, .int .i64 n, .slice (some ab) L.length d], 30), (ga, [.string s, .string t, .int .i64 n, .slice (some aa) L.length c], 30)]) (fun w' => w'.cell? (am.add (k * 2)) = some (.int .i64 y.f0) ∧ w'.cell? ⟨(am.add (k * 2)).block, (am.add (k * 2)).off + 1, none⟩ = some (.slice A2 y.f1.length c2) ∧ w'.cell? (bm.add (k * 2)) = some (.int .i64 y.f0) ∧ w'.cell? ⟨(bm.add (k * 2)).block, (bm.add (k * 2)).off + 1, none⟩ = some (.slice B2 y.f1.length d2))) (ds := [26]) (bs 29 0) (by kernel_rfl) rfl rfl (⟨X.out.drew, YT, YU, YV, YW⟩) (fun hHeld => ?_)
     refine with_tabW W17.tab13 W17.bits13 (fun HT_ HW_ => ?_)
     obtain ⟨w1, ey, X, hbw⟩ := drl_ X
     rw [← ey] at hHeld ⊢
     clear ey
     refine pq_ 0 HT_ ?_
     refine pq_ 2 HT_ ?_
     refine pq_ 6 HT_ ?_
     refine pq_ 8 HT_ ?_
     refine tq_ 1 HT_ HW_ hHeld rfl (ldle_ 1 rfl) ?_
     refine pq_ 3 HT_ ?_
     refine pq_ 4 HT_ ?_
     refine tq_ 5 HT_ HW_ hHeld rfl ((by rintro w' ⟨-, h0, -, -, -⟩; go_simp; with_reducible rfl)) ?_
     refine tq_ 7 HT_ HW_ hHeld rfl (ldle_ 0 rfl) ?_
     refine pq_ 9 HT_ ?_
     refine pq_ 10 HT_ ?_
     refine tq_ 11 HT_ HW_ hHeld rfl ((by rintro w' ⟨-, -, -, h0, -⟩; go_simp; with_reducible rfl)) ?_
     refine pq_ 12 HT_ ?_
     refine pq_ 13 HT_ ?_
     refine pq_ 14 HT_ ?_
     refine pq_ 16 HT_ ?_
     refine pq_ 20 HT_ ?_
     refine pq_ 22 HT_ ?_
     refine tq_ 15 HT_ HW_ hHeld rfl (ldle_ 1 rfl) ?_
     refine pq_ 17 HT_ ?_
     refine pq_ 18 HT_ ?_
     refine tq_ 19 HT_ HW_ hHeld rfl ((by rintro w' ⟨-, -, h0, -, -⟩; go_simp; with_reducible rfl)) ?_
     refine tq_ 21 HT_ HW_ hHeld rfl (ldle_ 0 rfl) ?_
     refine pq_ 23 HT_ ?_
     refine pq_ 24 HT_ ?_
     refine tq_ 25 HT_ HW_ hHeld rfl ((by rintro w' ⟨-, -, -, -, h0⟩; go_simp; with_reducible rfl)) ?_
     refine lq_ 26 HT_ (fun K hK => ?_)
     refine gr_ Tryz.func21 #[.slice A2 y.f1.length c2, .slice B2 y.f1.length d2] (by rfl) ?_ rfl rfl rfl
     refine (segs_same _ (c_keep H1.out hbw) (c_keep H2.out hbw)).mono ?_
     rintro e w3 ⟨rfl, hb⟩
     refine ⟨_, rfl, ?_⟩
     replace X := am_ (X.out.below hb)
     replace H := am_ (And.intro (c_keep (c_keep H.out.1 hbw) hb) (c_keep (c_keep H.out.2 hbw) hb))
     refine hK.out _ _ ?_
     clear hK K
     refine no_ 108 ?_
     refine pq_ 27 HT_ ?_
     refine pq_ 28 HT_ ?_
     refine done_ (done_of HT_.out (by kernel_rfl)) ?_
     go_wp2
     go_roundg k2
     case measure => omega
     case rel => exact ⟨k + 1, rfl, ⟨by omega⟩, H, ⟨lx_ X⟩⟩
end
def W4.T11 : Bool × List (List Nat × List Nat) := (true, [([], []), ([0], [0]), ([], []), ([2], [2]), ([3], [3]), ([1, 4], [1, 4])])
def W4.B11 : List Nat := [0, 1, 0, 4, 12, 31]
theorem W4.tab11 : rtab .any (opsOf Tryz.f4 11) = W4.T11 := by kernel_rfl
theorem W4.bits11 : waitsOk W4.T11.2 W4.B11 = true := by kernel_rfl
def Pure1 : Prop := ∀ (s t : ByteArray) (n : Int) (L : List S53), s.size ≤ 64 ∧ t.size ≤ 64 ∧ nb n ∧ L.length ≤ 6 ∧ (∀ x ∈ L, WB x) → ∃ k r, F15.f k s t n L = some r ∧ (r = true → ∃ k l8 a, F8.f k s t n L = some l8 ∧ F16.f k l8 = some (s, t, n, L, true, a, 0) ∧ F18.f k s t n L = some (l8.length : Int))
def Pure2 : Prop := ∀ L : List S49, L.length ≤ 400001 ∧ (∀ x ∈ L, WL x) → ∃ k r1 r2 r3 r4 r5 r6 r7 q1 q2 q3 q4 q5 q6, F16.f k L = some (r1, r2, r3, r4, r5, r6, r7) ∧ F20.f k L = some (q1, q2, q3, q4, q5, q6, r7) ∧ (r7 = 0 → ∃ k, F8.f k r1 r2 r3 r4 = some L)
theorem law_w (xt : Tot15) (lV : Tot26) (rn : Tot41) (zy : Tot37) (P1 : Pure1) (P2 : Pure2) {w : World} {A0 A1 : Option Addr} {c0 c1 : Nat} {l0 l1 : List Int} (bH : Kd.C (Kd.int .u8) w A0 l0.length l0) (hc0 : l0.length ≤ c0) (hr1 : Kd.C (Kd.int .u8) w A1 l1.length l1) (hc1 : l1.length ≤ c1) (hT : LaidT true Tryz.prog w) : Calls Tryz.prog 4 #[.slice A0 l0.length c0, .slice A1 l1.length c1] w fun e w' => e = .returned (.bool true) ∧ Below w.heap.size w w' := by
 have gJ := Tryz.underlying30
 have Ff := Tryz.underlying41
 have X : Aside0 (LX w [] w) := ⟨Below.refl _ _, fun p hp => by simp at hp, by simp⟩
 have fN := am_ bH
 have Jv := am_ hr1
 have kt := am_ hc0
 have fM := am_ hc1
 have HT := am_ hT
 clear bH hr1 hc0 hc1 hT
 go_enter Tryz.func4, Tryz.ntmps4
 by_cases h0 : l0.length ≤ 1048576
 rotate_left
 ·have hb : (1048576 : Int) < (l0.length : Int) := by omega
  go_wp2
  go_ret
  exact ⟨rfl, X.out.1⟩
 by_cases h1 : l1.length ≤ 1048576
 rotate_left
 ·have hb : (1048576 : Int) < (l1.length : Int) := by omega
  have hb0 : ¬ (1048576 : Int) < (l0.length : Int) := by omega
  go_wp2
  go_ret
  exact ⟨rfl, X.out.1⟩
 have hb0 : ¬ (1048576 : Int) < (l0.length : Int) := by omega
 have hb1 : ¬ (1048576 : Int) < (l1.length : Int) := by omega
 go_upto_if 21 with (first | (go_at_call 14; (with_reducible refine (drawix_w rn zy fN.out kt.out h0).mono ?_); rintro e w1 ⟨s, t, n, A, c, L, rfl, HB, HC, hc, hb⟩; replace X := am_ ((lx_ X).below hb); obtain ⟨k, r, hf, hr⟩ := P1 s t n L HB.out; have HF := am_ hf; have HG := am_ hr; clear hf hr hb) | ((with_reducible refine gate_dst (N := 5) rfl ?_); refine lbv_ X 5 [.string ⟨#[]⟩, .string ⟨#[]⟩, .int .i64 0, .slice none 0 0] [.string s, .string t, .int .i64 n, .slice A L.length c] 30 rfl ?_; intro gx w2 X hb; replace HC := am_ (c_keep HC.out hb); have hcx := (X.out).rd 0 rfl; clear hb) | (go_at_call 15; (with_reducible refine (F15.calls HC.out hc HF.out).mono ?_); rintro e w3 ⟨rfl, hb⟩; replace X := am_ ((lx_ X).below hb); replace HC := am_ (c_keep HC.out hb); clear hb hcx))
 go_cut [] (fun wc => Aside0 (Below w.heap.size w wc))
 case first =>
  cases r with
  | false =>
   go_wp2
   go_meet
   case rel => exact ⟨lxb_ X⟩
  | true =>
   obtain ⟨k, l8, a, f8, Kz, Va⟩ := HG.out rfl
   have QS := am_ f8
   have Fg := am_ Kz
   have QT := am_ Va
   clear f8 Kz Va
   have hcx := (X.out).rd 0 rfl
   go_wp2_with (first | (go_at_call 8; (with_reducible refine (F8.calls HC.out hc (HT.out.below (lxb_ X)) QS.out).mono ?_); rintro e w4 ⟨_, rfl, ho, hb⟩; obtain ⟨A8, c8, rfl⟩ := Kd.S_slice ho; obtain ⟨-, Vb, KA⟩ := Kd.S_reads' ho; have H8 := am_ KA; replace X := am_ ((lx_ X).below hb); replace HC := am_ (c_keep HC.out hb); clear hb hcx ho KA) | (go_at_call 16; (with_reducible refine (F16.calls H8.out Vb (HT.out.below (lxb_ X)) Fg.out).mono ?_); rintro e w5 ⟨_, rfl, ho, hb⟩; obtain ⟨A3, c3, rfl⟩ := Kd.S_slice ho; obtain ⟨-, hc3, KB⟩ := Kd.S_reads' ho; have H3 := am_ KB; replace X := am_ ((lx_ X).below hb); replace HC := am_ (c_keep HC.out hb); replace H8 := am_ (c_keep H8.out hb); clear hb ho KB) | ((with_reducible refine gate_dst (N := 7) rfl ?_); refine lbv_ X 7 [.string ⟨#[]⟩, .string ⟨#[]⟩, .int .i64 0, .slice none 0 0, .bool false, .int .i64 0, .int .i64 0] [.string s, .string t, .int .i64 n, .slice A3 L.length c3, .bool true, .int .i64 a, .int .i64 0] 41 rfl ?_; intro gy w2 X hb; replace HC := am_ (c_keep HC.out hb); replace H8 := am_ (c_keep H8.out hb); replace H3 := am_ (c_keep H3.out hb); have hcy := (X.out).rd 0 rfl; have hcx := (X.out).rd 1 rfl; clear hb) | (go_at_call 17; (with_reducible refine (ix_same _ _ _ _ H3.out HC.out).mono ?_); rintro e w5 ⟨rfl, hb⟩; replace X := am_ ((lx_ X).below hb); replace HC := am_ (c_keep HC.out hb); clear hcx hcy hb; have hcx := (X.out).rd 1 rfl) | (go_at_call 18; (with_reducible refine (F18.calls HC.out hc (HT.out.below (lxb_ X)) QT.out).mono ?_); rintro e w5 ⟨rfl, hb⟩; replace X := am_ ((lx_ X).below hb); clear hcx hb))
   go_meet
   case rel => exact ⟨lxb_ X⟩
 case rest =>
  clear X HB HC HF HG
  have X : Aside0 (LX w [] _) := ⟨hcut.out, fun p hp => by simp at hp, by simp⟩
  clear hcut
  go_upto_region 11 with (first | (go_at_call 19; (with_reducible refine (drawlist_w xt lV rn zy (c_keep Jv.out (lxb_ X)) fM.out h1).mono ?_); rintro e w1 ⟨A, c, L, rfl, HB, HC, hc, hb⟩; replace X := am_ ((lx_ X).below hb); obtain ⟨k, r1, r2, r3, r4, r5, r6, r7, q1, q2, q3, q4, q5, q6, Kz, f20, f8⟩ := P2 L HB.out; have Fg := am_ Kz; have QU := am_ f20; have QS := am_ f8; clear Kz f20 f8 hb) | (go_at_call 16; (with_reducible refine (F16.calls HC.out hc (HT.out.below (lxb_ X)) Fg.out).mono ?_); rintro e w5 ⟨_, rfl, ho, hb⟩; obtain ⟨A3, c3, rfl⟩ := Kd.S_slice ho; obtain ⟨-, hc3, KB⟩ := Kd.S_reads' ho; have H3 := am_ KB; replace X := am_ ((lx_ X).below hb); replace HC := am_ (c_keep HC.out hb); clear hb ho KB) | ((with_reducible refine gate_dst (N := 9) rfl ?_); refine lbv_ X 9 [.string ⟨#[]⟩, .string ⟨#[]⟩, .int .i64 0, .slice none 0 0, .bool false, .int .i64 0, .int .i64 0] [.string r1, .string r2, .int .i64 r3, .slice A3 r4.length c3, .bool r5, .int .i64 r6, .int .i64 r7] 41 rfl ?_; intro gz w2 X hb; replace HC := am_ (c_keep HC.out hb); replace H3 := am_ (c_keep H3.out hb); clear hb))
  refine start_ (n := 6) (S := LX w [(gz, [.string r1, .string r2, .int .i64 r3, .slice A3 r4.length c3, .bool r5, .int .i64 r6, .int .i64 r7], 41)]) (ds := []) (bs 6 0) (by kernel_rfl) rfl rfl (X.out.drew) (fun hHeld => ?_)
  refine with_tabW W4.tab11 W4.bits11 (fun HT_ HW_ => ?_)
  obtain ⟨w1, ey, X, hbw⟩ := drl_ X
  rw [← ey] at hHeld ⊢
  clear ey
  refine pq_ 0 HT_ ?_
  refine pq_ 2 HT_ ?_
  refine tq_ 1 HT_ HW_ hHeld rfl (ldl_ 0 rfl) ?_
  refine oq_ 3 HT_ (fun K hK => ?_)
  replace HC := am_ (c_keep HC.out hbw)
  replace H3 := am_ (c_keep H3.out hbw)
  clear hbw
  refine gr_ Tryz.func20 #[.slice A L.length c] (by rfl) ?_ rfl rfl rfl
  refine (F20.calls HC.out hc QU.out).mono ?_
  rintro e w5 ⟨_, rfl, ho, hb⟩
  obtain ⟨A4, c4, rfl⟩ := Kd.S_slice ho
  replace X := am_ (X.out.below hb)
  replace HC := am_ (c_keep HC.out hb)
  replace H3 := am_ (c_keep H3.out hb)
  clear hb ho
  have hfd : ∀ w_ : World, (Instr.field 41 (.agg #[.string q1, .string q2, .int .i64 q3, .slice A4 q4.length c4, .bool q5, .int .i64 q6, .int .i64 r7]) 3).run Tryz.prog w_ = .ok (.int .i64 r7) w_ := fun _ => by kernel_rfl
  refine ⟨_, rfl, ?_⟩
  refine hK.out _ _ X.out (fun hHeld => ?_)
  clear hK K
  refine no_ 55 ?_
  refine pq_ 4 HT_ ?_
  refine pq_ 5 HT_ ?_
  refine done_ (done_of HT_.out (by kernel_rfl)) ?_
  have hcz := (X.out).rd 0 rfl
  clear hHeld
  have hnn : (r7 != r7) = false := by simp
  by_cases h7 : r7 = 0
  ·obtain ⟨k, f8⟩ := QS.out h7
   have YX := am_ f8
   clear f8
   have h7b : (r7 != 0) = false := by simp [h7]
   have h7c : (r7 == 0) = true := by simp [h7]
   clear h7
   go_wp2_with (first | (go_at_call 8; (with_reducible refine (F8.calls H3.out hc3 (HT.out.below (lxb_ X)) YX.out).mono ?_); rintro e w4 ⟨_, rfl, ho, hb⟩; obtain ⟨A8, c8, rfl⟩ := Kd.S_slice ho; obtain ⟨-, Vb, KA⟩ := Kd.S_reads' ho; have H8 := am_ KA; replace X := am_ ((lx_ X).below hb); replace HC := am_ (c_keep HC.out hb); clear hb hcz ho KA) | (go_at_call 21; (with_reducible refine (segs_same _ H8.out HC.out).mono ?_); rintro e w5 ⟨rfl, hb⟩; replace X := am_ ((lx_ X).below hb); clear hb))
   go_ret
   exact ⟨rfl, lxb_ X⟩
  ·have h7b : (r7 != 0) = true := by simp [h7]
   have h7c : (r7 == 0) = false := by simp [h7]
   clear h7
   go_wp2
   go_ret
   exact ⟨rfl, lxb_ X⟩
theorem walk_w (xt : Tot15) (lV : Tot26) (rn : Tot41) (zy : Tot37) (P1 : Pure1) (P2 : Pure2) (a0 : Option Addr) (len0 cap0 : Nat) (z0 : List Int) (a1 : Option Addr) (len1 cap1 : Nat) (z1 : List Int) (w : World) (w0 : (a0 = none ∧ len0 = 0 ∧ cap0 = 0 ∧ z0 = []) ∨ ∃ x, a0 = some x ∧ len0 ≤ cap0 ∧ cap0 ≤ maxLen ∧ z0.length = cap0 ∧ (∀ i, i < z0.length → w.cell? (x.add i) = some (.int .u8 (z0.getD i 0))) ∧ ∀ n ∈ z0, (Lit.int .u8 n).wf = true) (y0 : len0 * 1 ≤ 140737488351232) (w1 : (a1 = none ∧ len1 = 0 ∧ cap1 = 0 ∧ z1 = []) ∨ ∃ x, a1 = some x ∧ len1 ≤ cap1 ∧ cap1 ≤ maxLen ∧ z1.length = cap1 ∧ (∀ i, i < z1.length → w.cell? (x.add i) = some (.int .u8 (z1.getD i 0))) ∧ ∀ n ∈ z1, (Lit.int .u8 n).wf = true) (y1 : len1 * 1 ≤ 140737488351232) (hT : LaidT true Tryz.prog w) :
  Calls Tryz.prog 4 #[.slice a0 len0 cap0, .slice a1 len1 cap1] w fun e w' => e = .returned (.bool true) ∧ Below w.heap.size w w' := by
 obtain ⟨l0, rfl, bH, _, _, hc0⟩ := ReadsInt.ofRowC w0
 obtain ⟨l1, rfl, hr1, _, _, hc1⟩ := ReadsInt.ofRowC w1
 exact law_w xt lV rn zy P1 P2 (Kd.C_of_reads (d := (0 : Int)) (h1 := fun _ => rfl) bH) hc0 (Kd.C_of_reads (d := (0 : Int)) (h1 := fun _ => rfl) hr1) hc1 hT
end Go.Proofs.YtlghcbmkhdibdaaGreatDoor.PFnEnvelopes
