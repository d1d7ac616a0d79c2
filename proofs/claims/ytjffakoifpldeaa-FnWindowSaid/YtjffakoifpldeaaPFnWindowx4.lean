-- printed by a program of this session (wip/xp/xprint.py) out of the translation; Lean checks it
import Derived.Test.YtjffakoifpldeaaPFnWindowx0
import Derived.Test.YtjffakoifpldeaaPFnWindowx1
import Derived.Test.YtjffakoifpldeaaPFnWindowx2
import Derived.Test.YtjffakoifpldeaaPFnWindowx3
namespace Go.Proofs.Ytjffakoifpldeaa.PFnWindow
open Go.RowKit Go.Proofs.YtjffakoifpldeaaW.PrintWords Go.Proofs.YtjffakoifpldeaaW.PrintLast Go.Proofs.YtjffakoifpldeaaW.PrintMore
attribute [local go_sem] max2_int min2_int max_two min_two max_three min_three max_four min_four   -- for this text's walks alone
set_option linter.unusedVariables false
set_option linter.unusedSimpArgs false

theorem au4_0 {p : Prop} (h : p := by (with_reducible repeat (first | refine blk_drewN ?_ _ | refine blk_drew ?_ | refine blk_alloc ?_ _)); refine blk_put (cs := #[.string (⟨#[]⟩ : ByteArray), .int .i64 0, .int .i64 0, .slice none 0 0, .int .i64 0, .int .i64 0, .int .i64 0, .int .i64 0, .int .i64 0]) ?_ 8 _ rfl; (with_reducible repeat (first | refine blk_drewN ?_ _ | refine blk_drew ?_ | refine blk_alloc ?_ _)); refine blk_put (cs := #[.string (⟨#[]⟩ : ByteArray), .int .i64 0, .int .i64 0, .slice none 0 0, .int .i64 0, .int .i64 0, .int .i64 0, .int .i64 0, .int .i64 0]) ?_ 7 _ rfl; (with_reducible repeat (first | refine blk_drewN ?_ _ | refine blk_drew ?_ | refine blk_alloc ?_ _)); refine blk_put (cs := #[.string (⟨#[]⟩ : ByteArray), .int .i64 0, .int .i64 0, .slice none 0 0, .int .i64 0, .int .i64 0, .int .i64 0, .int .i64 0, .int .i64 0]) ?_ 6 _ rfl; (with_reducible repeat (first | refine blk_drewN ?_ _ | refine blk_drew ?_ | refine blk_alloc ?_ _)); refine blk_put (cs := #[.string (⟨#[]⟩ : ByteArray), .int .i64 0, .int .i64 0, .slice none 0 0, .int .i64 0, .int .i64 0, .int .i64 0, .int .i64 0, .int .i64 0]) ?_ 5 _ rfl; (with_reducible repeat (first | refine blk_drewN ?_ _ | refine blk_drew ?_ | refine blk_alloc ?_ _)); refine blk_put (cs := #[.string (⟨#[]⟩ : ByteArray), .int .i64 0, .int .i64 0, .slice none 0 0, .int .i64 0, .int .i64 0, .int .i64 0, .int .i64 0, .int .i64 0]) ?_ 4 _ rfl; (with_reducible repeat (first | refine blk_drewN ?_ _ | refine blk_drew ?_ | refine blk_alloc ?_ _)); refine blk_put (cs := #[.string (⟨#[]⟩ : ByteArray), .int .i64 0, .int .i64 0, .slice none 0 0, .int .i64 0, .int .i64 0, .int .i64 0, .int .i64 0, .int .i64 0]) ?_ 3 _ rfl; (with_reducible repeat (first | refine blk_drewN ?_ _ | refine blk_drew ?_ | refine blk_alloc ?_ _)); refine blk_put (cs := #[.string (⟨#[]⟩ : ByteArray), .int .i64 0, .int .i64 0, .slice none 0 0, .int .i64 0, .int .i64 0, .int .i64 0, .int .i64 0, .int .i64 0]) ?_ 2 _ rfl; (with_reducible repeat (first | refine blk_drewN ?_ _ | refine blk_drew ?_ | refine blk_alloc ?_ _)); refine blk_put (cs := #[.string (⟨#[]⟩ : ByteArray), .int .i64 0, .int .i64 0, .slice none 0 0, .int .i64 0, .int .i64 0, .int .i64 0, .int .i64 0, .int .i64 0]) ?_ 1 _ rfl; (with_reducible repeat (first | refine blk_drewN ?_ _ | refine blk_drew ?_ | refine blk_alloc ?_ _)); refine blk_put (cs := #[.string (⟨#[]⟩ : ByteArray), .int .i64 0, .int .i64 0, .slice none 0 0, .int .i64 0, .int .i64 0, .int .i64 0, .int .i64 0, .int .i64 0]) ?_ 0 _ rfl; (with_reducible repeat (first | refine blk_drewN ?_ _ | refine blk_drew ?_ | refine blk_alloc ?_ _)); exact BK125.out) : p := h
theorem au4_1 {p : Prop} (h : p := by (with_reducible repeat (first | refine blk_drewN ?_ _ | refine blk_drew ?_ | refine blk_alloc ?_ _)); refine blk_put (cs := #[.string t129, .int .i64 t130, .int .i64 t131, .slice Ao35 t132.length co35, .int .i64 t128, .int .i64 0, .int .i64 0, .int .i64 0, .int .i64 0]) ?_ 8 _ rfl; (with_reducible repeat (first | refine blk_drewN ?_ _ | refine blk_drew ?_ | refine blk_alloc ?_ _)); refine blk_put (cs := #[.string t129, .int .i64 t130, .int .i64 t131, .slice Ao35 t132.length co35, .int .i64 t128, .int .i64 0, .int .i64 0, .int .i64 0, .int .i64 0]) ?_ 7 _ rfl; (with_reducible repeat (first | refine blk_drewN ?_ _ | refine blk_drew ?_ | refine blk_alloc ?_ _)); refine blk_put (cs := #[.string t129, .int .i64 t130, .int .i64 t131, .slice Ao35 t132.length co35, .int .i64 t128, .int .i64 0, .int .i64 0, .int .i64 0, .int .i64 0]) ?_ 6 _ rfl; (with_reducible repeat (first | refine blk_drewN ?_ _ | refine blk_drew ?_ | refine blk_alloc ?_ _)); refine blk_put (cs := #[.string t129, .int .i64 t130, .int .i64 t131, .slice Ao35 t132.length co35, .int .i64 t128, .int .i64 0, .int .i64 0, .int .i64 0, .int .i64 0]) ?_ 5 _ rfl; (with_reducible repeat (first | refine blk_drewN ?_ _ | refine blk_drew ?_ | refine blk_alloc ?_ _)); refine blk_put (cs := #[.string t129, .int .i64 t130, .int .i64 t131, .slice Ao35 t132.length co35, .int .i64 0, .int .i64 0, .int .i64 0, .int .i64 0, .int .i64 0]) ?_ 4 _ rfl; (with_reducible repeat (first | refine blk_drewN ?_ _ | refine blk_drew ?_ | refine blk_alloc ?_ _)); refine blk_put (cs := #[.string t129, .int .i64 t130, .int .i64 t131, .slice none 0 0, .int .i64 0, .int .i64 0, .int .i64 0, .int .i64 0, .int .i64 0]) ?_ 3 _ rfl; (with_reducible repeat (first | refine blk_drewN ?_ _ | refine blk_drew ?_ | refine blk_alloc ?_ _)); refine blk_put (cs := #[.string t129, .int .i64 t130, .int .i64 0, .slice none 0 0, .int .i64 0, .int .i64 0, .int .i64 0, .int .i64 0, .int .i64 0]) ?_ 2 _ rfl; (with_reducible repeat (first | refine blk_drewN ?_ _ | refine blk_drew ?_ | refine blk_alloc ?_ _)); refine blk_put (cs := #[.string t129, .int .i64 0, .int .i64 0, .slice none 0 0, .int .i64 0, .int .i64 0, .int .i64 0, .int .i64 0, .int .i64 0]) ?_ 1 _ rfl; (with_reducible repeat (first | refine blk_drewN ?_ _ | refine blk_drew ?_ | refine blk_alloc ?_ _)); refine blk_put (cs := #[.string (⟨#[]⟩ : ByteArray), .int .i64 0, .int .i64 0, .slice none 0 0, .int .i64 0, .int .i64 0, .int .i64 0, .int .i64 0, .int .i64 0]) ?_ 0 _ rfl; (with_reducible repeat (first | refine blk_drewN ?_ _ | refine blk_drew ?_ | refine blk_alloc ?_ _)); exact BK135.out) : p := h
theorem au4_2 {p : Prop} (h : p := by (with_reducible repeat (first | refine blk_drewN ?_ _ | refine blk_drew ?_ | refine blk_alloc ?_ _)); refine blk_far ?_ NB124_135.out _; (with_reducible repeat (first | refine blk_drewN ?_ _ | refine blk_drew ?_ | refine blk_alloc ?_ _)); refine blk_far ?_ NB124_135.out _; (with_reducible repeat (first | refine blk_drewN ?_ _ | refine blk_drew ?_ | refine blk_alloc ?_ _)); refine blk_far ?_ NB124_135.out _; (with_reducible repeat (first | refine blk_drewN ?_ _ | refine blk_drew ?_ | refine blk_alloc ?_ _)); refine blk_far ?_ NB124_135.out _; (with_reducible repeat (first | refine blk_drewN ?_ _ | refine blk_drew ?_ | refine blk_alloc ?_ _)); refine blk_far ?_ NB124_135.out _; (with_reducible repeat (first | refine blk_drewN ?_ _ | refine blk_drew ?_ | refine blk_alloc ?_ _)); refine blk_far ?_ NB124_135.out _; (with_reducible repeat (first | refine blk_drewN ?_ _ | refine blk_drew ?_ | refine blk_alloc ?_ _)); refine blk_far ?_ NB124_135.out _; (with_reducible repeat (first | refine blk_drewN ?_ _ | refine blk_drew ?_ | refine blk_alloc ?_ _)); refine blk_far ?_ NB124_135.out _; (with_reducible repeat (first | refine blk_drewN ?_ _ | refine blk_drew ?_ | refine blk_alloc ?_ _)); refine blk_far ?_ NB124_135.out _; (with_reducible repeat (first | refine blk_drewN ?_ _ | refine blk_drew ?_ | refine blk_alloc ?_ _)); exact BK124.out) : p := h
theorem au4_3 {p : Prop} (h : p := by (with_reducible repeat (first | refine blk_drewN ?_ _ | refine blk_drew ?_ | refine blk_alloc ?_ _)); refine blk_far ?_ NB125_135.out _; (with_reducible repeat (first | refine blk_drewN ?_ _ | refine blk_drew ?_ | refine blk_alloc ?_ _)); refine blk_far ?_ NB125_135.out _; (with_reducible repeat (first | refine blk_drewN ?_ _ | refine blk_drew ?_ | refine blk_alloc ?_ _)); refine blk_far ?_ NB125_135.out _; (with_reducible repeat (first | refine blk_drewN ?_ _ | refine blk_drew ?_ | refine blk_alloc ?_ _)); refine blk_far ?_ NB125_135.out _; (with_reducible repeat (first | refine blk_drewN ?_ _ | refine blk_drew ?_ | refine blk_alloc ?_ _)); refine blk_far ?_ NB125_135.out _; (with_reducible repeat (first | refine blk_drewN ?_ _ | refine blk_drew ?_ | refine blk_alloc ?_ _)); refine blk_far ?_ NB125_135.out _; (with_reducible repeat (first | refine blk_drewN ?_ _ | refine blk_drew ?_ | refine blk_alloc ?_ _)); refine blk_far ?_ NB125_135.out _; (with_reducible repeat (first | refine blk_drewN ?_ _ | refine blk_drew ?_ | refine blk_alloc ?_ _)); refine blk_far ?_ NB125_135.out _; (with_reducible repeat (first | refine blk_drewN ?_ _ | refine blk_drew ?_ | refine blk_alloc ?_ _)); refine blk_far ?_ NB125_135.out _; (with_reducible repeat (first | refine blk_drewN ?_ _ | refine blk_drew ?_ | refine blk_alloc ?_ _)); exact BK125.out) : p := h
theorem au4_4 {p : Prop} (h : p := by first | exact Nat.ne_of_lt (Nat.lt_of_lt_of_le (by have := World.block_lt_of_cell? _ _ hw137_0; first | rwa [add_block] at this | exact this) GW135.out) | (rw [add_block]; exact Nat.ne_of_lt (Nat.lt_of_lt_of_le (by have := World.block_lt_of_cell? _ _ hw137_0; first | rwa [add_block] at this | exact this) GW135.out)) | (show (Addr.add _ _).block ≠ _; rw [add_block]; exact Nat.ne_of_lt (Nat.lt_of_lt_of_le (by have := World.block_lt_of_cell? _ _ hw137_0; first | rwa [add_block] at this | exact this) GW135.out)) | (dsimp only; exact Nat.ne_of_lt (Nat.lt_of_lt_of_le (by have := World.block_lt_of_cell? _ _ hw137_0; first | rwa [add_block] at this | exact this) GW135.out))) : p := h
theorem au4_5 {p : Prop} (h : p := by first | exact Nat.ne_of_lt (Nat.lt_of_lt_of_le (by have := World.block_lt_of_cell? _ _ hw137_1; first | rwa [add_block] at this | exact this) GW135.out) | (rw [add_block]; exact Nat.ne_of_lt (Nat.lt_of_lt_of_le (by have := World.block_lt_of_cell? _ _ hw137_1; first | rwa [add_block] at this | exact this) GW135.out)) | (show (Addr.add _ _).block ≠ _; rw [add_block]; exact Nat.ne_of_lt (Nat.lt_of_lt_of_le (by have := World.block_lt_of_cell? _ _ hw137_1; first | rwa [add_block] at this | exact this) GW135.out)) | (dsimp only; exact Nat.ne_of_lt (Nat.lt_of_lt_of_le (by have := World.block_lt_of_cell? _ _ hw137_1; first | rwa [add_block] at this | exact this) GW135.out))) : p := h
theorem au4_6 {p : Prop} (h : p := by first | exact Nat.ne_of_lt (Nat.lt_of_lt_of_le (by have := World.block_lt_of_cell? _ _ hw137_2; first | rwa [add_block] at this | exact this) GW135.out) | (rw [add_block]; exact Nat.ne_of_lt (Nat.lt_of_lt_of_le (by have := World.block_lt_of_cell? _ _ hw137_2; first | rwa [add_block] at this | exact this) GW135.out)) | (show (Addr.add _ _).block ≠ _; rw [add_block]; exact Nat.ne_of_lt (Nat.lt_of_lt_of_le (by have := World.block_lt_of_cell? _ _ hw137_2; first | rwa [add_block] at this | exact this) GW135.out)) | (dsimp only; exact Nat.ne_of_lt (Nat.lt_of_lt_of_le (by have := World.block_lt_of_cell? _ _ hw137_2; first | rwa [add_block] at this | exact this) GW135.out))) : p := h
theorem au4_7 {p : Prop} (h : p := by repeat (first | exact (Kd.C_below HR0_3.out HB.out) | (with_reducible refine Kd.C_alloc ?_ _) | (with_reducible refine Kd.C_drewN ?_ _) | (with_reducible refine Kd.C_drew ?_))) : p := h
theorem au4_8 {p : Prop} (h : p := by (with_reducible repeat (first | apply Kd.R_alloc | apply Kd.R_drewN | apply Kd.R_drew)); exact Kd.R_mono (Kd.R_far (p := ⟨gb135, 8, none⟩) (Kd.R_far (p := ⟨gb135, 7, none⟩) (Kd.R_far (p := ⟨gb135, 6, none⟩) (Kd.R_far (p := ⟨gb135, 5, none⟩) (Kd.R_far (p := ⟨gb135, 4, none⟩) (Kd.R_far (p := ⟨gb135, 3, none⟩) (Kd.R_far (p := ⟨gb135, 2, none⟩) (Kd.R_far (p := ⟨gb135, 1, none⟩) (Kd.R_far (p := ⟨gb135, 0, none⟩) (Kd.R_types HO134.out BK135.out (by decide)) (fun _ hk => hk.2) (.string t129)) (fun _ hk => hk.2) (.int .i64 t130)) (fun _ hk => hk.2) (.int .i64 t131)) (fun _ hk => hk.2) (.slice Ao35 t132.length co35)) (fun _ hk => hk.2) (.int .i64 t128)) (fun _ hk => hk.2) (.int .i64 0)) (fun _ hk => hk.2) (.int .i64 0)) (fun _ hk => hk.2) (.int .i64 0)) (fun _ hk => hk.2) (.int .i64 0)) (fun _ hk => trivial)) : p := h
theorem au4_9 {p : Prop} (h : p := by (with_reducible repeat (first | apply Kd.R_alloc | apply Kd.R_drewN | apply Kd.R_drew)); exact Kd.R_mono HO_136003.out (fun _ hk => ⟨trivial, hk⟩)) : p := h
theorem au4_10 {p : Prop} (h : p := by (with_reducible repeat (first | apply Kd.R_alloc | apply Kd.R_drewN | apply Kd.R_drew)); exact Kd.R_mono HO_136003.out (fun _ hk => hk.2)) : p := h
theorem au4_11 {p : Prop} (h : p := by (with_reducible repeat (first | apply Kd.R_alloc | apply Kd.R_drewN | apply Kd.R_drew)); exact (Kd.R_mono (Kd.R_far (p := ⟨gb135, 7, none⟩) (Kd.R_far (p := ⟨gb135, 6, none⟩) (Kd.R_far (p := ⟨gb135, 5, none⟩) (Kd.R_types HO_136003.out BK135.out (by decide)) (fun _ hk => hk.2) (.int .i64 a1)) (fun _ hk => hk.2) (.int .i64 a0_2)) (fun _ hk => hk.2) (.int .i64 a2)) (fun _ h_ => h_.1))) : p := h
theorem au4_12 {p : Prop} (h : p := by first | rfl | (simp [errW_none, errW_some] <;> rfl) | (simp [*, errW_none, errW_some] <;> rfl)) : p := h
theorem au4_13 {p : Prop} (h : p := by exact (fun k_ hk => Kd.fresh' (Kd.R_lt (rk_ HO_136003)) k_ hk)) : p := h
theorem au4_14 {p : Prop} (h : p := by have := HJ3.out; have := HJ28.out; have := HK3.out; have := HJ65.out; omega) : p := h
theorem au4_15 {p : Prop} (h : p := by first | exact Kd.R_nil _ _ _ _ _ | exact Kd.N_nil _ _ _ _ _ | exact Kd.V_nil _ _ _ _ _ | exact Kd.Q_nil _ _ _ _ _ | exact Kd.S_nil _ _ _ _ _) : p := h
theorem au4_16 {p : Prop} (h : p := by rintro w' ⟨s0, s1, s2, s3, s4, s5, s6⟩; go_simp; with_reducible rfl) : p := h
theorem au4_17 {p : Prop} (h : p := by exact k62_mkM _ _ _ (⟨(rd_T62 l0_3 x12_3).f0, (rd_T62 l0_3 x12_3).f1, (rd_T62 l0_3 x12_3).f2⟩ : S62)) : p := h
theorem au4_18 {p : Prop} (h : p := by first | omega | exact Nat.le_refl _) : p := h
theorem au4_19 {p : Prop} (h : p := by have := HJ3.out; have := HJ28.out; have := HK3.out; first | omega | exact Nat.le_refl _) : p := h
theorem au4_20 {p : Prop} (h : p := by exact k62_mkM _ _ _ (⟨a1, a0_2, a2⟩ : S62)) : p := h

/-! ### spec_PartnerTake: function 44 -/
mutual
def spec_PartnerTake.j0 : Nat → Int → Int → Bool → ByteArray → Int → Int → List (S62) → Option (ByteArray × Int × Int × (List (S62)) × Int × Int × Int × Int × Int)
  | 0, _, _, _, _, _, _, _ => none
  | k + 1, x1, x2, x28, x125000, x125001, x125002, x125003 => if x28 = true then (some ((⟨#[]⟩ : ByteArray), 0, 0, ([] : List (S62)), 0, 0, 0, 0, 1)) else ((spec_PartnerAsk.f k x125000 x125001 x125002 x125003 x1).bind fun t128 => ((spec_l07Copy.f x125000 x125001 x125002 x125003).bind fun bt129 => (if t128 = 2 then ((spec_l07Find.f k x125000 x125001 x125002 x125003 x1).bind fun t136 => (if 0 ≤ t136 then (if t136 < (x125003.length : Int) then (spec_PartnerTake.j1 k x1 x2 t128 x125000 x125001 x125002 x125003 bt129.1 bt129.2.1 bt129.2.2.1 bt129.2.2.2 t128 ((rd_T62 x125003 t136).f0) ((rd_T62 x125003 t136).f1) ((rd_T62 x125003 t136).f2) 0) else (none)) else (none))) else (spec_PartnerTake.j1 k x1 x2 t128 x125000 x125001 x125002 x125003 bt129.1 bt129.2.1 bt129.2.2.1 bt129.2.2.2 t128 0 0 0 0))))
def spec_PartnerTake.j1 : Nat → Int → Int → Int → ByteArray → Int → Int → List (S62) → ByteArray → Int → Int → List (S62) → Int → Int → Int → Int → Int → Option (ByteArray × Int × Int × (List (S62)) × Int × Int × Int × Int × Int)
  | 0, _, _, _, _, _, _, _, _, _, _, _, _, _, _, _, _ => none
  | k + 1, x1, x2, x7, x125000, x125001, x125002, x125003, x136000, x136001, x136002, x136003, x136004, x136005, x136006, x136007, x136008 => if x7 = 1 then (if x125002 = 999999 then (some ((⟨#[]⟩ : ByteArray), 0, 0, ([] : List (S62)), 0, 0, 0, 0, 13)) else ((spec_l01Max.f x125001 (wrap64 ((wrap64 (x1 - 32)) + 1))).bind fun t138 => (spec_PartnerTake.l0 k x1 t138 (([] : List (S62))) false 0 x125000 x125001 x125002 x125003 x136000 x136001 x136002 x136003 x136004 x1 x125002 x2 x136008))) else (some (x136000, x136001, x136002, x136003, x136004, x136005, x136006, x136007, x136008))
def spec_PartnerTake.l0 : Nat → Int → Int → List (S62) → Bool → Int → ByteArray → Int → Int → List (S62) → ByteArray → Int → Int → List (S62) → Int → Int → Int → Int → Int → Option (ByteArray × Int × Int × (List (S62)) × Int × Int × Int × Int × Int)
  | 0, _, _, _, _, _, _, _, _, _, _, _, _, _, _, _, _, _, _ => none
  | k + 1, x1, x9, x10, x11, x12, x125000, x125001, x125002, x125003, x136000, x136001, x136002, x136003, x136004, x136005, x136006, x136007, x136008 => if x12 < (x125003.length : Int) then (if 0 ≤ x12 then (if ((rd_T62 x125003 x12).f0) > x1 then (spec_PartnerTake.j3 k x1 x9 x10 x11 x12 (!x11) x125000 x125001 x125002 x125003 x136000 x136001 x136002 x136003 x136004 x136005 x136006 x136007 x136008) else (spec_PartnerTake.j3 k x1 x9 x10 x11 x12 false x125000 x125001 x125002 x125003 x136000 x136001 x136002 x136003 x136004 x136005 x136006 x136007 x136008)) else (none)) else (if x11 = true then (some (x136000, x9, wrap64 (x125002 + 1), x10, x136004, x136005, x136006, x136007, x136008)) else (if x10.length < 5864062014805 then (some (x136000, x9, wrap64 (x125002 + 1), (x10 ++ [(⟨x136005, x136006, x136007⟩ : S62)]), x136004, x136005, x136006, x136007, x136008)) else (none)))
def spec_PartnerTake.j3 : Nat → Int → Int → List (S62) → Bool → Int → Bool → ByteArray → Int → Int → List (S62) → ByteArray → Int → Int → List (S62) → Int → Int → Int → Int → Int → Option (ByteArray × Int × Int × (List (S62)) × Int × Int × Int × Int × Int)
  | 0, _, _, _, _, _, _, _, _, _, _, _, _, _, _, _, _, _, _, _ => none
  | k + 1, x1, x9, x10, x11, x12, x85, x125000, x125001, x125002, x125003, x136000, x136001, x136002, x136003, x136004, x136005, x136006, x136007, x136008 => if x85 = true then (if x10.length < 5864062014805 then ((some (x10 ++ [(⟨x136005, x136006, x136007⟩ : S62)] : List (S62))).bind fun y146 => (if 0 ≤ x12 then (if x12 < (x125003.length : Int) then (if ((rd_T62 x125003 x12).f0) ≥ x9 then (if y146.length < 5864062014805 then (spec_PartnerTake.l0 k x1 x9 (y146 ++ [(⟨(rd_T62 x125003 x12).f0, (rd_T62 x125003 x12).f1, (rd_T62 x125003 x12).f2⟩ : S62)]) true (wrap64 (x12 + 1)) x125000 x125001 x125002 x125003 x136000 x136001 x136002 x136003 x136004 x136005 x136006 x136007 x136008) else (none)) else (spec_PartnerTake.l0 k x1 x9 y146 true (wrap64 (x12 + 1)) x125000 x125001 x125002 x125003 x136000 x136001 x136002 x136003 x136004 x136005 x136006 x136007 x136008)) else (none)) else (none))) else (none)) else (if 0 ≤ x12 then (if x12 < (x125003.length : Int) then (if ((rd_T62 x125003 x12).f0) ≥ x9 then (if x10.length < 5864062014805 then (spec_PartnerTake.l0 k x1 x9 (x10 ++ [(⟨(rd_T62 x125003 x12).f0, (rd_T62 x125003 x12).f1, (rd_T62 x125003 x12).f2⟩ : S62)]) x11 (wrap64 (x12 + 1)) x125000 x125001 x125002 x125003 x136000 x136001 x136002 x136003 x136004 x136005 x136006 x136007 x136008) else (none)) else (spec_PartnerTake.l0 k x1 x9 x10 x11 (wrap64 (x12 + 1)) x125000 x125001 x125002 x125003 x136000 x136001 x136002 x136003 x136004 x136005 x136006 x136007 x136008)) else (none)) else (none))
end
def spec_PartnerTake.f (k : Nat) (a0_0 : ByteArray) (a0_1 : Int) (a0_2 : Int) (l0_3 : List (S62)) (a1 : Int) (a2 : Int) : Option (ByteArray × Int × Int × (List (S62)) × Int × Int × Int × Int × Int) := (spec_PartnerRight.f k a0_0 a0_1 a0_2 l0_3).bind fun t126 => (if t126 = true then ((spec_l01Control.f a1).bind fun t127 => (if t127 = true then (if a2 < 0 then (spec_PartnerTake.j0 k a1 a2 true a0_0 a0_1 a0_2 l0_3) else (spec_PartnerTake.j0 k a1 a2 (decide (a2 > 13)) a0_0 a0_1 a0_2 l0_3)) else (spec_PartnerTake.j0 k a1 a2 true a0_0 a0_1 a0_2 l0_3))) else (spec_PartnerTake.j0 k a1 a2 true a0_0 a0_1 a0_2 l0_3))
theorem spec_PartnerTake.mono_l : ∀ k, (∀ y0 y1 y2 y3 y4 y5 y6, LeO (spec_PartnerTake.j0 k y0 y1 y2 y3 y4 y5 y6) (spec_PartnerTake.j0 (k + 1) y0 y1 y2 y3 y4 y5 y6)) ∧ (∀ y0 y1 y2 y3 y4 y5 y6 y7 y8 y9 y10 y11 y12 y13 y14 y15, LeO (spec_PartnerTake.j1 k y0 y1 y2 y3 y4 y5 y6 y7 y8 y9 y10 y11 y12 y13 y14 y15) (spec_PartnerTake.j1 (k + 1) y0 y1 y2 y3 y4 y5 y6 y7 y8 y9 y10 y11 y12 y13 y14 y15)) ∧ (∀ y0 y1 y2 y3 y4 y5 y6 y7 y8 y9 y10 y11 y12 y13 y14 y15 y16 y17, LeO (spec_PartnerTake.l0 k y0 y1 y2 y3 y4 y5 y6 y7 y8 y9 y10 y11 y12 y13 y14 y15 y16 y17) (spec_PartnerTake.l0 (k + 1) y0 y1 y2 y3 y4 y5 y6 y7 y8 y9 y10 y11 y12 y13 y14 y15 y16 y17)) ∧ (∀ y0 y1 y2 y3 y4 y5 y6 y7 y8 y9 y10 y11 y12 y13 y14 y15 y16 y17 y18, LeO (spec_PartnerTake.j3 k y0 y1 y2 y3 y4 y5 y6 y7 y8 y9 y10 y11 y12 y13 y14 y15 y16 y17 y18) (spec_PartnerTake.j3 (k + 1) y0 y1 y2 y3 y4 y5 y6 y7 y8 y9 y10 y11 y12 y13 y14 y15 y16 y17 y18))
  | 0 => ⟨fun _ _ _ _ _ _ _ r h => by simp [spec_PartnerTake.j0] at h, fun _ _ _ _ _ _ _ _ _ _ _ _ _ _ _ _ r h => by simp [spec_PartnerTake.j1] at h, fun _ _ _ _ _ _ _ _ _ _ _ _ _ _ _ _ _ _ r h => by simp [spec_PartnerTake.l0] at h, fun _ _ _ _ _ _ _ _ _ _ _ _ _ _ _ _ _ _ _ r h => by simp [spec_PartnerTake.j3] at h⟩
  | k + 1 => by
    obtain ⟨ih0, ih1, ih2, ih3⟩ := spec_PartnerTake.mono_l k
    refine ⟨?_, ?_, ?_, ?_⟩
    · intro y0 y1 y2 y3 y4 y5 y6
      unfold spec_PartnerTake.j0
      repeat' first
      | (with_reducible exact ih0 _ _ _ _ _ _ _)
      | (with_reducible exact ih1 _ _ _ _ _ _ _ _ _ _ _ _ _ _ _ _)
      | (with_reducible exact ih2 _ _ _ _ _ _ _ _ _ _ _ _ _ _ _ _ _ _)
      | (with_reducible exact ih3 _ _ _ _ _ _ _ _ _ _ _ _ _ _ _ _ _ _ _)
      | (with_reducible exact spec_PartnerAsk.mono _ _ _ _ _ _)
      | (with_reducible exact spec_PartnerRight.mono _ _ _ _ _)
      | (with_reducible exact spec_l07Find.mono _ _ _ _ _ _)
      | (with_reducible exact LeO.refl _)
      | (with_reducible exact LeO.none _)
      | (with_reducible refine LeO.ite ?_ ?_)
      | (with_reducible refine LeO.bind ?_ (fun _ => ?_))
      | exact ih0 _ _ _ _ _ _ _
      | exact ih1 _ _ _ _ _ _ _ _ _ _ _ _ _ _ _ _
      | exact ih2 _ _ _ _ _ _ _ _ _ _ _ _ _ _ _ _ _ _
      | exact ih3 _ _ _ _ _ _ _ _ _ _ _ _ _ _ _ _ _ _ _
      | exact spec_PartnerAsk.mono _ _ _ _ _ _
      | exact spec_PartnerRight.mono _ _ _ _ _
      | exact spec_l07Find.mono _ _ _ _ _ _
      | exact LeO.none _
      | refine LeO.ite ?_ ?_
      | refine LeO.bind ?_ (fun _ => ?_)
    · intro y0 y1 y2 y3 y4 y5 y6 y7 y8 y9 y10 y11 y12 y13 y14 y15
      unfold spec_PartnerTake.j1
      repeat' first
      | (with_reducible exact ih0 _ _ _ _ _ _ _)
      | (with_reducible exact ih1 _ _ _ _ _ _ _ _ _ _ _ _ _ _ _ _)
      | (with_reducible exact ih2 _ _ _ _ _ _ _ _ _ _ _ _ _ _ _ _ _ _)
      | (with_reducible exact ih3 _ _ _ _ _ _ _ _ _ _ _ _ _ _ _ _ _ _ _)
      | (with_reducible exact spec_PartnerAsk.mono _ _ _ _ _ _)
      | (with_reducible exact spec_PartnerRight.mono _ _ _ _ _)
      | (with_reducible exact spec_l07Find.mono _ _ _ _ _ _)
      | (with_reducible exact LeO.refl _)
      | (with_reducible exact LeO.none _)
      | (with_reducible refine LeO.ite ?_ ?_)
      | (with_reducible refine LeO.bind ?_ (fun _ => ?_))
      | exact ih0 _ _ _ _ _ _ _
      | exact ih1 _ _ _ _ _ _ _ _ _ _ _ _ _ _ _ _
      | exact ih2 _ _ _ _ _ _ _ _ _ _ _ _ _ _ _ _ _ _
      | exact ih3 _ _ _ _ _ _ _ _ _ _ _ _ _ _ _ _ _ _ _
      | exact spec_PartnerAsk.mono _ _ _ _ _ _
      | exact spec_PartnerRight.mono _ _ _ _ _
      | exact spec_l07Find.mono _ _ _ _ _ _
      | exact LeO.none _
      | refine LeO.ite ?_ ?_
      | refine LeO.bind ?_ (fun _ => ?_)
    · intro y0 y1 y2 y3 y4 y5 y6 y7 y8 y9 y10 y11 y12 y13 y14 y15 y16 y17
      unfold spec_PartnerTake.l0
      repeat' first
      | (with_reducible exact ih0 _ _ _ _ _ _ _)
      | (with_reducible exact ih1 _ _ _ _ _ _ _ _ _ _ _ _ _ _ _ _)
      | (with_reducible exact ih2 _ _ _ _ _ _ _ _ _ _ _ _ _ _ _ _ _ _)
      | (with_reducible exact ih3 _ _ _ _ _ _ _ _ _ _ _ _ _ _ _ _ _ _ _)
      | (with_reducible exact spec_PartnerAsk.mono _ _ _ _ _ _)
      | (with_reducible exact spec_PartnerRight.mono _ _ _ _ _)
      | (with_reducible exact spec_l07Find.mono _ _ _ _ _ _)
      | (with_reducible exact LeO.refl _)
      | (with_reducible exact LeO.none _)
      | (with_reducible refine LeO.ite ?_ ?_)
      | (with_reducible refine LeO.bind ?_ (fun _ => ?_))
      | exact ih0 _ _ _ _ _ _ _
      | exact ih1 _ _ _ _ _ _ _ _ _ _ _ _ _ _ _ _
      | exact ih2 _ _ _ _ _ _ _ _ _ _ _ _ _ _ _ _ _ _
      | exact ih3 _ _ _ _ _ _ _ _ _ _ _ _ _ _ _ _ _ _ _
      | exact spec_PartnerAsk.mono _ _ _ _ _ _
      | exact spec_PartnerRight.mono _ _ _ _ _
      | exact spec_l07Find.mono _ _ _ _ _ _
      | exact LeO.none _
      | refine LeO.ite ?_ ?_
      | refine LeO.bind ?_ (fun _ => ?_)
    · intro y0 y1 y2 y3 y4 y5 y6 y7 y8 y9 y10 y11 y12 y13 y14 y15 y16 y17 y18
      unfold spec_PartnerTake.j3
      repeat' first
      | (with_reducible exact ih0 _ _ _ _ _ _ _)
      | (with_reducible exact ih1 _ _ _ _ _ _ _ _ _ _ _ _ _ _ _ _)
      | (with_reducible exact ih2 _ _ _ _ _ _ _ _ _ _ _ _ _ _ _ _ _ _)
      | (with_reducible exact ih3 _ _ _ _ _ _ _ _ _ _ _ _ _ _ _ _ _ _ _)
      | (with_reducible exact spec_PartnerAsk.mono _ _ _ _ _ _)
      | (with_reducible exact spec_PartnerRight.mono _ _ _ _ _)
      | (with_reducible exact spec_l07Find.mono _ _ _ _ _ _)
      | (with_reducible exact LeO.refl _)
      | (with_reducible exact LeO.none _)
      | (with_reducible refine LeO.ite ?_ ?_)
      | (with_reducible refine LeO.bind ?_ (fun _ => ?_))
      | exact ih0 _ _ _ _ _ _ _
      | exact ih1 _ _ _ _ _ _ _ _ _ _ _ _ _ _ _ _
      | exact ih2 _ _ _ _ _ _ _ _ _ _ _ _ _ _ _ _ _ _
      | exact ih3 _ _ _ _ _ _ _ _ _ _ _ _ _ _ _ _ _ _ _
      | exact spec_PartnerAsk.mono _ _ _ _ _ _
      | exact spec_PartnerRight.mono _ _ _ _ _
      | exact spec_l07Find.mono _ _ _ _ _ _
      | exact LeO.none _
      | refine LeO.ite ?_ ?_
      | refine LeO.bind ?_ (fun _ => ?_)
theorem spec_PartnerTake.mono : ∀ a0 a1 a2 a3 a4 a5 k, LeO (spec_PartnerTake.f k a0 a1 a2 a3 a4 a5) (spec_PartnerTake.f (k + 1) a0 a1 a2 a3 a4 a5) := by
  intro a0 a1 a2 a3 a4 a5 k
  obtain ⟨ih0, ih1, ih2, ih3⟩ := spec_PartnerTake.mono_l k
  unfold spec_PartnerTake.f
  repeat' first
      | (with_reducible exact ih0 _ _ _ _ _ _ _)
      | (with_reducible exact ih1 _ _ _ _ _ _ _ _ _ _ _ _ _ _ _ _)
      | (with_reducible exact ih2 _ _ _ _ _ _ _ _ _ _ _ _ _ _ _ _ _ _)
      | (with_reducible exact ih3 _ _ _ _ _ _ _ _ _ _ _ _ _ _ _ _ _ _ _)
      | (with_reducible exact spec_PartnerAsk.mono _ _ _ _ _ _)
      | (with_reducible exact spec_PartnerRight.mono _ _ _ _ _)
      | (with_reducible exact spec_l07Find.mono _ _ _ _ _ _)
      | (with_reducible exact LeO.refl _)
      | (with_reducible exact LeO.none _)
      | (with_reducible refine LeO.ite ?_ ?_)
      | (with_reducible refine LeO.bind ?_ (fun _ => ?_))
      | exact ih0 _ _ _ _ _ _ _
      | exact ih1 _ _ _ _ _ _ _ _ _ _ _ _ _ _ _ _
      | exact ih2 _ _ _ _ _ _ _ _ _ _ _ _ _ _ _ _ _ _
      | exact ih3 _ _ _ _ _ _ _ _ _ _ _ _ _ _ _ _ _ _ _
      | exact spec_PartnerAsk.mono _ _ _ _ _ _
      | exact spec_PartnerRight.mono _ _ _ _ _
      | exact spec_l07Find.mono _ _ _ _ _ _
      | exact LeO.none _
      | refine LeO.ite ?_ ?_
      | refine LeO.bind ?_ (fun _ => ?_)
def spec_PartnerTake.T6 : Bool × List (List Nat × List Nat) := (true, [([], []), ([0], [0]), ([], []), ([], []), ([2, 3], [2, 3]), ([1, 4], [1, 4]), ([5], [5]), ([0, 1, 2, 3, 4, 5, 6], []), ([7, 6, 4, 0, 1, 2, 3, 4, 5, 6], [6, 7])])
def spec_PartnerTake.B6 : List Nat := [0, 1, 0, 0, 12, 31, 63, 127, 255]
theorem spec_PartnerTake.tab6 : rtab .any (opsOf Try.f44 6) = spec_PartnerTake.T6 := by kernel_rfl
theorem spec_PartnerTake.bits6 : waitsOk spec_PartnerTake.T6.2 spec_PartnerTake.B6 = true := by kernel_rfl
set_option maxHeartbeats 8000000 in
set_option maxRecDepth 100000 in
theorem spec_PartnerTake.calls (k : Nat) (a0_0 : ByteArray) (a0_1 : Int) (a0_2 : Int) (A0_3 : Option Addr) (c0_3 : Nat) (l0_3 : List (S62)) (a1 : Int) (a2 : Int) (r1 : ByteArray) (r2 : Int) (r3 : Int) (r4 : List (S62)) (r5 : Int) (r6 : Int) (r7 : Int) (r8 : Int) (r9 : Int) (w : World) (hr0_3 : Kd.C k62 w A0_3 l0_3.length l0_3) (hc0_3 : l0_3.length ≤ c0_3) (h : spec_PartnerTake.f k a0_0 a0_1 a0_2 l0_3 a1 a2 = some (r1, r2, r3, r4, r5, r6, r7, r8, r9)) :
    Calls Try.prog 44 #[.agg #[.string a0_0, .int .i64 a0_1, .int .i64 a0_2, .slice A0_3 l0_3.length c0_3], .int .i64 a1, .int .i64 a2] w fun e w' => ∃ v3_ : Value, e = .returned (.agg #[.string r1, .int .i64 r2, .int .i64 r3, v3_, .int .i64 r5, .int .i64 r6, .int .i64 r7, .int .i64 r8, .int .i64 r9]) ∧ Kd.R k62 62 w' w.heap.size (fun _ => True) v3_ r4 ∧ Below w.heap.size w w' := by
  have hu51 := Try.underlying51
  have hu64 := Try.underlying64
  have hu62 := Try.underlying62
  have HR0_3 := Aside0.mk hr0_3
  have HC0_3 := Aside0.mk hc0_3
  clear hr0_3 hc0_3
  have HB := Aside0.mk (Below.refl w.heap.size w)
  have H : ((spec_PartnerRight.f k a0_0 a0_1 a0_2 l0_3).bind fun t126 => (if t126 = true then ((spec_l01Control.f a1).bind fun t127 => (if t127 = true then (if a2 < 0 then (spec_PartnerTake.j0 k a1 a2 true a0_0 a0_1 a0_2 l0_3) else (spec_PartnerTake.j0 k a1 a2 (decide (a2 > 13)) a0_0 a0_1 a0_2 l0_3)) else (spec_PartnerTake.j0 k a1 a2 true a0_0 a0_1 a0_2 l0_3))) else (spec_PartnerTake.j0 k a1 a2 true a0_0 a0_1 a0_2 l0_3))) = some (r1, r2, r3, r4, r5, r6, r7, r8, r9) := h
  clear h
  have HC4 := Aside0.mk H
  clear H
  go_enter Try.func44, Try.ntmps44
  go_upto_region 1 with (first | ((with_reducible refine gate_dst (N := 3) rfl ?_); refine box_event ?hg (N := 3) ?hd (cs := #[.string a0_0, .int .i64 a0_1, .int .i64 a0_2, .slice A0_3 l0_3.length c0_3]) (t := 51) ?hr ?_; (case hd => rfl); (case hg => rfl); (case hr => exact hr_); intro gb124 hg w5 hbox hb; have n0_ := Aside0.mk (below_step bl_ hb); have n1_ := Aside0.mk (hbox); have n2_ := Aside0.mk (gw_ hg bl_); have n3_ := Aside0.mk (gw_ hg bl_); clear HB; have HB := n0_; have BK124 := n1_; have GW124 := n2_; have GE124 := n3_; clear n0_ n1_ n2_ n3_; clear hb hbox hg) | ((with_reducible refine gate_dst (N := 6) rfl ?_); refine box_event ?hg (N := 6) ?hd (cs := #[.string (⟨#[]⟩ : ByteArray), .int .i64 0, .int .i64 0, .slice none 0 0, .int .i64 0, .int .i64 0, .int .i64 0, .int .i64 0, .int .i64 0]) (t := 64) ?hr ?_; (case hd => rfl); (case hg => rfl); (case hr => exact hr_); intro gb125 hg w6 hbox hb; have n0_ := Aside0.mk (blkb_ BK124 hb); have n1_ := Aside0.mk (below_step bl_ hb); have n2_ := Aside0.mk (hbox); have n3_ := Aside0.mk (gw_ hg bl_); have n4_ := Aside0.mk (gw_ hg bl_); have n5_ := Aside0.mk (gn_ hg (blkl_ BK124)); have n6_ := Aside0.mk (gm_ hg (blkl_ BK124)); clear BK124; clear HB; have BK124 := n0_; have HB := n1_; have BK125 := n2_; have GW125 := n3_; have GE125 := n4_; have NB124_125 := n5_; have NB125_124 := n6_; clear n0_ n1_ n2_ n3_ n4_ n5_ n6_; clear hb hbox hg))
  (try simp only [Act.put, List.setIfInBounds_toArray, List.set_cons_zero, List.set_cons_succ])
  go_cut [28] (fun v28 wc => ∃ (kq : Nat) (x28_3 : Bool), v28 = .bool x28_3 ∧ Aside0 (spec_PartnerTake.j0 kq a1 a2 x28_3 a0_0 a0_1 a0_2 l0_3 = some (r1, r2, r3, r4, r5, r6, r7, r8, r9)) ∧ Aside0 (kq ≤ k) ∧ Aside0 (wc.heap[gb124]? = some (.cells #[.string a0_0, .int .i64 a0_1, .int .i64 a0_2, (.slice A0_3 l0_3.length c0_3)] 51 (0, 0))) ∧ Aside0 (wc.heap[gb125]? = some (.cells #[.string (⟨#[]⟩ : ByteArray), .int .i64 0, .int .i64 0, (.slice none 0 0), .int .i64 0, .int .i64 0, .int .i64 0, .int .i64 0, .int .i64 0] 64 (0, 0))) ∧ Aside0 (Below w.heap.size w wc))
  case first =>
    have H := HC4.out
    clear HC4
    replace H := Option.bind_eq_some_iff.mp H
    obtain ⟨t126, A70, H⟩ := H
    replace H : (if t126 = true then ((spec_l01Control.f a1).bind fun t127 => (if t127 = true then (if a2 < 0 then (spec_PartnerTake.j0 k a1 a2 true a0_0 a0_1 a0_2 l0_3) else (spec_PartnerTake.j0 k a1 a2 (decide (a2 > 13)) a0_0 a0_1 a0_2 l0_3)) else (spec_PartnerTake.j0 k a1 a2 true a0_0 a0_1 a0_2 l0_3))) else (spec_PartnerTake.j0 k a1 a2 true a0_0 a0_1 a0_2 l0_3)) = some (r1, r2, r3, r4, r5, r6, r7, r8, r9) := H
    have A7 := Aside0.mk A70
    clear A70
    by_cases c8 : t126 = true
    · subst c8
      have H1 : ((spec_l01Control.f a1).bind fun t127 => (if t127 = true then (if a2 < 0 then (spec_PartnerTake.j0 k a1 a2 true a0_0 a0_1 a0_2 l0_3) else (spec_PartnerTake.j0 k a1 a2 (decide (a2 > 13)) a0_0 a0_1 a0_2 l0_3)) else (spec_PartnerTake.j0 k a1 a2 true a0_0 a0_1 a0_2 l0_3))) = some (r1, r2, r3, r4, r5, r6, r7, r8, r9) := by rw [if_pos rfl] at H; exact H
      clear H
      have H := H1
      clear H1
      replace H := Option.bind_eq_some_iff.mp H
      obtain ⟨t127, A90, H⟩ := H
      replace H : (if t127 = true then (if a2 < 0 then (spec_PartnerTake.j0 k a1 a2 true a0_0 a0_1 a0_2 l0_3) else (spec_PartnerTake.j0 k a1 a2 (decide (a2 > 13)) a0_0 a0_1 a0_2 l0_3)) else (spec_PartnerTake.j0 k a1 a2 true a0_0 a0_1 a0_2 l0_3)) = some (r1, r2, r3, r4, r5, r6, r7, r8, r9) := H
      have A9 := Aside0.mk A90
      clear A90
      by_cases c10 : t127 = true
      · subst c10
        have H1 : (if a2 < 0 then (spec_PartnerTake.j0 k a1 a2 true a0_0 a0_1 a0_2 l0_3) else (spec_PartnerTake.j0 k a1 a2 (decide (a2 > 13)) a0_0 a0_1 a0_2 l0_3)) = some (r1, r2, r3, r4, r5, r6, r7, r8, r9) := by rw [if_pos rfl] at H; exact H
        clear H
        have H := H1
        clear H1
        by_cases c11 : a2 < 0
        · rw [if_pos c11] at H
          have c11b0 : decide (a2 < 0) = true := decide_eq_true c11
          clear c11
          (first | rw [c11b0] | (simp only [i64_w, i32_w]; rw [c11b0]) | skip)
          have H' := Aside0.mk H
          clear H
          have hnb12 := NB124_125.out
          have hnc12 := NB125_124.out
          obtain ⟨hcz13_0, hcz13_1, hcz13_2, hcz13_3, hfz13_0, hfz13_1, hfz13_2, hfz13_3⟩ := cellsF4 BK124.out
          go_wp2_with (first | (go_at_call 77; (with_reducible refine (spec_PartnerRight.calls k a0_0 a0_1 a0_2 _ _ l0_3 true _ ?side1 ?side2 A7.out).mono ?_); (case side1 => exact au4_7); (case side2 => exact HC0_3.out); rintro e w14 ⟨rfl, hb⟩; (try clear A7); have n0_ := Aside0.mk (blkb_ BK124 hb); have n1_ := Aside0.mk (blkb_ BK125 hb); have n2_ := Aside0.mk (below_step bl_ hb); clear BK124; clear BK125; clear HB; have BK124 := n0_; have BK125 := n1_; have HB := n2_; clear n0_ n1_ n2_; (try clear hb); (try clear hb2); (try clear hk); (try clear hi)) | (go_at_call 78; (with_reducible refine (spec_l01Control.calls a1 true _ A9.out).mono ?_); rintro e w' ⟨rfl, ⟨nd, rfl⟩⟩; (try clear A9)))
          go_meet
          case rel => exact ⟨_, (true), er_, H', ⟨au4_18⟩, ⟨bk_ BK124⟩, ⟨bk_ BK125⟩, ⟨bl_⟩⟩
        · rw [if_neg c11] at H
          have c11b0 : decide (a2 < 0) = false := decide_eq_false c11
          clear c11
          (first | rw [c11b0] | (simp only [i64_w, i32_w]; rw [c11b0]) | skip)
          have H' := Aside0.mk H
          clear H
          have hnb15 := NB124_125.out
          have hnc15 := NB125_124.out
          obtain ⟨hcz16_0, hcz16_1, hcz16_2, hcz16_3, hfz16_0, hfz16_1, hfz16_2, hfz16_3⟩ := cellsF4 BK124.out
          go_wp2_with (first | (go_at_call 77; (with_reducible refine (spec_PartnerRight.calls k a0_0 a0_1 a0_2 _ _ l0_3 true _ ?side1 ?side2 A7.out).mono ?_); (case side1 => exact au4_7); (case side2 => exact HC0_3.out); rintro e w17 ⟨rfl, hb⟩; (try clear A7); have n0_ := Aside0.mk (blkb_ BK124 hb); have n1_ := Aside0.mk (blkb_ BK125 hb); have n2_ := Aside0.mk (below_step bl_ hb); clear BK124; clear BK125; clear HB; have BK124 := n0_; have BK125 := n1_; have HB := n2_; clear n0_ n1_ n2_; (try clear hb); (try clear hb2); (try clear hk); (try clear hi)) | (go_at_call 78; (with_reducible refine (spec_l01Control.calls a1 true _ A9.out).mono ?_); rintro e w' ⟨rfl, ⟨nd, rfl⟩⟩; (try clear A9)))
          go_meet
          case rel => exact ⟨_, (decide (a2 > 13)), er_, H', ⟨au4_18⟩, ⟨bk_ BK124⟩, ⟨bk_ BK125⟩, ⟨bl_⟩⟩
      · replace c10 := Bool.eq_false_iff.mpr c10
        subst c10
        have H1 : (spec_PartnerTake.j0 k a1 a2 true a0_0 a0_1 a0_2 l0_3) = some (r1, r2, r3, r4, r5, r6, r7, r8, r9) := by rw [if_neg (show ¬ (false = true) by decide)] at H; exact H
        clear H
        have H := H1
        clear H1
        have H' := Aside0.mk H
        clear H
        have hnb18 := NB124_125.out
        have hnc18 := NB125_124.out
        obtain ⟨hcz19_0, hcz19_1, hcz19_2, hcz19_3, hfz19_0, hfz19_1, hfz19_2, hfz19_3⟩ := cellsF4 BK124.out
        go_wp2_with (first | (go_at_call 77; (with_reducible refine (spec_PartnerRight.calls k a0_0 a0_1 a0_2 _ _ l0_3 true _ ?side1 ?side2 A7.out).mono ?_); (case side1 => exact au4_7); (case side2 => exact HC0_3.out); rintro e w20 ⟨rfl, hb⟩; (try clear A7); have n0_ := Aside0.mk (blkb_ BK124 hb); have n1_ := Aside0.mk (blkb_ BK125 hb); have n2_ := Aside0.mk (below_step bl_ hb); clear BK124; clear BK125; clear HB; have BK124 := n0_; have BK125 := n1_; have HB := n2_; clear n0_ n1_ n2_; (try clear hb); (try clear hb2); (try clear hk); (try clear hi)) | (go_at_call 78; (with_reducible refine (spec_l01Control.calls a1 false _ A9.out).mono ?_); rintro e w' ⟨rfl, ⟨nd, rfl⟩⟩; (try clear A9)))
        go_meet
        case rel => exact ⟨_, (true), er_, H', ⟨au4_18⟩, ⟨bk_ BK124⟩, ⟨bk_ BK125⟩, ⟨bl_⟩⟩
    · replace c8 := Bool.eq_false_iff.mpr c8
      subst c8
      have H1 : (spec_PartnerTake.j0 k a1 a2 true a0_0 a0_1 a0_2 l0_3) = some (r1, r2, r3, r4, r5, r6, r7, r8, r9) := by rw [if_neg (show ¬ (false = true) by decide)] at H; exact H
      clear H
      have H := H1
      clear H1
      have H' := Aside0.mk H
      clear H
      have hnb21 := NB124_125.out
      have hnc21 := NB125_124.out
      obtain ⟨hcz22_0, hcz22_1, hcz22_2, hcz22_3, hfz22_0, hfz22_1, hfz22_2, hfz22_3⟩ := cellsF4 BK124.out
      go_wp2_with (first | (go_at_call 77; (with_reducible refine (spec_PartnerRight.calls k a0_0 a0_1 a0_2 _ _ l0_3 false _ ?side1 ?side2 A7.out).mono ?_); (case side1 => exact au4_7); (case side2 => exact HC0_3.out); rintro e w23 ⟨rfl, hb⟩; (try clear A7); have n0_ := Aside0.mk (blkb_ BK124 hb); have n1_ := Aside0.mk (blkb_ BK125 hb); have n2_ := Aside0.mk (below_step bl_ hb); clear BK124; clear BK125; clear HB; have BK124 := n0_; have BK125 := n1_; have HB := n2_; clear n0_ n1_ n2_; (try clear hb); (try clear hb2); (try clear hk); (try clear hi)))
      go_meet
      case rel => exact ⟨_, (true), er_, H', ⟨au4_18⟩, ⟨bk_ BK124⟩, ⟨bk_ BK125⟩, ⟨bl_⟩⟩
  case rest =>
    clear HC4
    try clear c1
    try clear c2
    try clear p2
    try clear c4
    try clear c8
    try clear c10
    try clear c11
    try clear c11b0
    try clear c12
    try clear c15
    try clear c18
    try clear c21
    try clear hcz13_0
    try clear hcz13_1
    try clear hcz13_2
    try clear hcz13_3
    try clear hcz16_0
    try clear hcz16_1
    try clear hcz16_2
    try clear hcz16_3
    try clear hcz19_0
    try clear hcz19_1
    try clear hcz19_2
    try clear hcz19_3
    try clear hcz22_0
    try clear hcz22_1
    try clear hcz22_2
    try clear hcz22_3
    try clear hfz13_0
    try clear hfz13_1
    try clear hfz13_2
    try clear hfz13_3
    try clear hfz16_0
    try clear hfz16_1
    try clear hfz16_2
    try clear hfz16_3
    try clear hfz19_0
    try clear hfz19_1
    try clear hfz19_2
    try clear hfz19_3
    try clear hfz22_0
    try clear hfz22_1
    try clear hfz22_2
    try clear hfz22_3
    obtain ⟨kq, x28_3, rfl, HA, HJ3, BK124, BK125, HB⟩ := hcut
    cases kq with
    | zero => exact absurd HA.out (by simp [spec_PartnerTake.j0])
    | succ kj3 =>
      have H := HA.out
      clear HA
      simp only [spec_PartnerTake.j0] at H
      by_cases c24 : x28_3 = true
      · subst c24
        have H1 : (some ((⟨#[]⟩ : ByteArray), 0, 0, ([] : List (S62)), 0, 0, 0, 0, 1)) = some (r1, r2, r3, r4, r5, r6, r7, r8, r9) := by rw [if_pos rfl] at H; exact H
        clear H
        have H := H1
        clear H1
        simp only [Option.some.injEq, Prod.mk.injEq] at H
        obtain ⟨rfl, rfl, rfl, rfl, rfl, rfl, rfl, rfl, rfl⟩ := H
        have hnb25 := NB125_124.out
        have hnc25 := NB124_125.out
        obtain ⟨hcz26_0, hcz26_1, hcz26_2, hcz26_3, hcz26_4, hcz26_5, hcz26_6, hcz26_7, hcz26_8, hfz26_0, hfz26_1, hfz26_2, hfz26_3, hfz26_4, hfz26_5, hfz26_6, hfz26_7, hfz26_8⟩ := cellsF9 BK125.out
        go_wp2
        refine bodyPost_ret (results_cell_row rfl _ _ gb125 64 #[.string (⟨#[]⟩ : ByteArray), .int .i64 0, .int .i64 0, .slice none 0 0, .int .i64 0, .int .i64 0, .int .i64 0, .int .i64 0, .int .i64 1] (0, 0) _ rfl au4_0 Try.underlying64 rfl (by kernel_rfl)) rfl ?_
        exact ⟨_, au4_12, au4_15, bl_⟩
      · replace c24 := Bool.eq_false_iff.mpr c24
        subst c24
        have H1 : ((spec_PartnerAsk.f kj3 a0_0 a0_1 a0_2 l0_3 a1).bind fun t128 => ((spec_l07Copy.f a0_0 a0_1 a0_2 l0_3).bind fun bt129 => (if t128 = 2 then ((spec_l07Find.f kj3 a0_0 a0_1 a0_2 l0_3 a1).bind fun t136 => (if 0 ≤ t136 then (if t136 < (l0_3.length : Int) then (spec_PartnerTake.j1 kj3 a1 a2 t128 a0_0 a0_1 a0_2 l0_3 bt129.1 bt129.2.1 bt129.2.2.1 bt129.2.2.2 t128 ((rd_T62 l0_3 t136).f0) ((rd_T62 l0_3 t136).f1) ((rd_T62 l0_3 t136).f2) 0) else (none)) else (none))) else (spec_PartnerTake.j1 kj3 a1 a2 t128 a0_0 a0_1 a0_2 l0_3 bt129.1 bt129.2.1 bt129.2.2.1 bt129.2.2.2 t128 0 0 0 0)))) = some (r1, r2, r3, r4, r5, r6, r7, r8, r9) := by rw [if_neg (show ¬ (false = true) by decide)] at H; exact H
        clear H
        have H := H1
        clear H1
        replace H := Option.bind_eq_some_iff.mp H
        obtain ⟨t128, A270, H⟩ := H
        replace H : ((spec_l07Copy.f a0_0 a0_1 a0_2 l0_3).bind fun bt129 => (if t128 = 2 then ((spec_l07Find.f kj3 a0_0 a0_1 a0_2 l0_3 a1).bind fun t136 => (if 0 ≤ t136 then (if t136 < (l0_3.length : Int) then (spec_PartnerTake.j1 kj3 a1 a2 t128 a0_0 a0_1 a0_2 l0_3 bt129.1 bt129.2.1 bt129.2.2.1 bt129.2.2.2 t128 ((rd_T62 l0_3 t136).f0) ((rd_T62 l0_3 t136).f1) ((rd_T62 l0_3 t136).f2) 0) else (none)) else (none))) else (spec_PartnerTake.j1 kj3 a1 a2 t128 a0_0 a0_1 a0_2 l0_3 bt129.1 bt129.2.1 bt129.2.2.1 bt129.2.2.2 t128 0 0 0 0))) = some (r1, r2, r3, r4, r5, r6, r7, r8, r9) := H
        have A27 := Aside0.mk A270
        clear A270
        replace H := Option.bind_eq_some_iff.mp H
        obtain ⟨⟨t129, t130, t131, t132⟩, A280, H⟩ := H
        replace H : (if t128 = 2 then ((spec_l07Find.f kj3 a0_0 a0_1 a0_2 l0_3 a1).bind fun t136 => (if 0 ≤ t136 then (if t136 < (l0_3.length : Int) then (spec_PartnerTake.j1 kj3 a1 a2 t128 a0_0 a0_1 a0_2 l0_3 t129 t130 t131 t132 t128 ((rd_T62 l0_3 t136).f0) ((rd_T62 l0_3 t136).f1) ((rd_T62 l0_3 t136).f2) 0) else (none)) else (none))) else (spec_PartnerTake.j1 kj3 a1 a2 t128 a0_0 a0_1 a0_2 l0_3 t129 t130 t131 t132 t128 0 0 0 0)) = some (r1, r2, r3, r4, r5, r6, r7, r8, r9) := H
        have A28 := Aside0.mk A280
        clear A280
        have HC29 := Aside0.mk H
        clear H
        have hnb30 := NB124_125.out
        have hnc30 := NB125_124.out
        obtain ⟨hcz31_0, hcz31_1, hcz31_2, hcz31_3, hfz31_0, hfz31_1, hfz31_2, hfz31_3⟩ := cellsF4 BK124.out
        go_upto_if 38 with (first | (go_at_call 34; (with_reducible refine (spec_PartnerAsk.calls kj3 a0_0 a0_1 a0_2 _ _ l0_3 a1 t128 _ ?side1 ?side2 A27.out).mono ?_); (case side1 => exact au4_7); (case side2 => exact HC0_3.out); rintro e w32 ⟨rfl, hb⟩; (try clear A27); have n0_ := Aside0.mk (blkb_ BK124 hb); have n1_ := Aside0.mk (blkb_ BK125 hb); have n2_ := Aside0.mk (below_step bl_ hb); clear BK124; clear BK125; clear HB; have BK124 := n0_; have BK125 := n1_; have HB := n2_; clear n0_ n1_ n2_; (try clear hb); (try clear hb2); (try clear hk); (try clear hi); obtain ⟨hcz33_0, hcz33_1, hcz33_2, hcz33_3, hfz33_0, hfz33_1, hfz33_2, hfz33_3⟩ := cellsF4 BK124.out) | (go_at_call 89; (with_reducible refine (spec_l07Copy.calls a0_0 a0_1 a0_2 _ _ l0_3 t129 t130 t131 t132 _ ?side1 ?side2 A28.out).mono ?_); (case side1 => exact au4_7); (case side2 => exact HC0_3.out); rintro e w34 ⟨v133, rfl, ho0, hb⟩; (try clear A28); have n0_ := Aside0.mk (Kd.R_lower ho0 (below_size bl_)); have n1_ := Aside0.mk (blkb_ BK124 hb); have n2_ := Aside0.mk (blkb_ BK125 hb); have n3_ := Aside0.mk (below_step bl_ hb); clear BK124; clear BK125; clear HB; have HO134 := n0_; have BK124 := n1_; have BK125 := n2_; have HB := n3_; clear n0_ n1_ n2_ n3_; (try clear hb); (try clear hb2); (try clear hk); (try clear hi); (try clear ho0); obtain ⟨Ao35, co35, eo35⟩ := Kd.R_slice HO134.out; subst eo35) | ((with_reducible refine gate_dst (N := 8) rfl ?_); refine box_event ?hg (N := 8) ?hd (cs := #[.string (⟨#[]⟩ : ByteArray), .int .i64 0, .int .i64 0, .slice none 0 0, .int .i64 0, .int .i64 0, .int .i64 0, .int .i64 0, .int .i64 0]) (t := 64) ?hr ?_; (case hd => rfl); (case hg => rfl); (case hr => exact hr_); intro gb135 hg w36 hbox hb; have n0_ := Aside0.mk (Kd.R_below (rk_ HO134) hb); have n1_ := Aside0.mk (blkb_ BK124 hb); have n2_ := Aside0.mk (blkb_ BK125 hb); have n3_ := Aside0.mk (below_step bl_ hb); have n4_ := Aside0.mk (hbox); have n5_ := Aside0.mk (gw_ hg bl_); have n6_ := Aside0.mk (gw_ hg bl_); have n7_ := Aside0.mk (gn_ hg (blkl_ BK124)); have n8_ := Aside0.mk (gm_ hg (blkl_ BK124)); have n9_ := Aside0.mk (gn_ hg (blkl_ BK125)); have n10_ := Aside0.mk (gm_ hg (blkl_ BK125)); clear HO134; clear BK124; clear BK125; clear HB; have HO134 := n0_; have BK124 := n1_; have BK125 := n2_; have HB := n3_; have BK135 := n4_; have GW135 := n5_; have GE135 := n6_; have NB124_135 := n7_; have NB135_124 := n8_; have NB125_135 := n9_; have NB135_125 := n10_; clear n0_ n1_ n2_ n3_ n4_ n5_ n6_ n7_ n8_ n9_ n10_; clear hb hbox hg; have hnb37 := NB135_124.out; have hnc37 := NB124_135.out; have hnb38 := NB135_125.out; have hnc38 := NB125_135.out; obtain ⟨hcz39_0, hcz39_1, hcz39_2, hcz39_3, hcz39_4, hcz39_5, hcz39_6, hcz39_7, hcz39_8, hfz39_0, hfz39_1, hfz39_2, hfz39_3, hfz39_4, hfz39_5, hfz39_6, hfz39_7, hfz39_8⟩ := cellsF9 BK135.out))
        (try simp only [Act.put, List.setIfInBounds_toArray, List.set_cons_zero, List.set_cons_succ])
        go_cut [] (fun wc => ∃ (kq : Nat) (x136005_28 : Int) (x136006_28 : Int) (x136007_28 : Int), Aside0 (spec_PartnerTake.j1 kq a1 a2 t128 a0_0 a0_1 a0_2 l0_3 t129 t130 t131 t132 t128 x136005_28 x136006_28 x136007_28 0 = some (r1, r2, r3, r4, r5, r6, r7, r8, r9)) ∧ Aside0 (kq ≤ kj3) ∧ Aside0 (Kd.R k62 62 wc w.heap.size (fun _ => True) (.slice Ao35 t132.length co35) t132) ∧ Aside0 (wc.heap[gb124]? = some (.cells #[.string a0_0, .int .i64 a0_1, .int .i64 a0_2, (.slice A0_3 l0_3.length c0_3)] 51 (0, 0))) ∧ Aside0 (wc.heap[gb125]? = some (.cells #[.string (⟨#[]⟩ : ByteArray), .int .i64 0, .int .i64 0, (.slice none 0 0), .int .i64 0, .int .i64 0, .int .i64 0, .int .i64 0, .int .i64 0] 64 (0, 0))) ∧ Aside0 (wc.heap[gb135]? = some (.cells #[.string t129, .int .i64 t130, .int .i64 t131, (.slice Ao35 t132.length co35), .int .i64 t128, .int .i64 x136005_28, .int .i64 x136006_28, .int .i64 x136007_28, .int .i64 0] 64 (0, 0))) ∧ Aside0 (Below w.heap.size w wc))
        case first =>
          have H := HC29.out
          clear HC29
          by_cases c40 : t128 = 2
          · rw [if_pos c40] at H
            have c40b0 : (t128 == 2) = true := beq_iff_eq.mpr c40
            have c40b1 : (t128 != 2) = false := bne_eq_false_iff_eq.mpr c40
            clear c40
            (first | rw [c40b0] | (simp only [i64_w, i32_w]; rw [c40b0]) | skip)
            replace H := Option.bind_eq_some_iff.mp H
            obtain ⟨t136, A410, H⟩ := H
            replace H : (if 0 ≤ t136 then (if t136 < (l0_3.length : Int) then (spec_PartnerTake.j1 kj3 a1 a2 t128 a0_0 a0_1 a0_2 l0_3 t129 t130 t131 t132 t128 ((rd_T62 l0_3 t136).f0) ((rd_T62 l0_3 t136).f1) ((rd_T62 l0_3 t136).f2) 0) else (none)) else (none)) = some (r1, r2, r3, r4, r5, r6, r7, r8, r9) := H
            have A41 := Aside0.mk A410
            clear A410
            by_cases c42 : 0 ≤ t136
            · rw [if_pos c42] at H
              have c42b0 : decide (0 ≤ t136) = true := decide_eq_true c42
              clear c42
              by_cases c43 : t136 < (l0_3.length : Int)
              · rw [if_pos c43] at H
                have c43b0 : decide (t136 < (l0_3.length : Int)) = true := decide_eq_true c43
                clear c43
                have H' := Aside0.mk H
                clear H
                try go_wp2
                have n0_ : Aside0 (Kd.R k62 62 (((((((((w36.setCell ⟨gb135, 0, none⟩ (.string t129)).setCell ⟨gb135, 1, none⟩ (.int .i64 t130)).setCell ⟨gb135, 2, none⟩ (.int .i64 t131)).setCell ⟨gb135, 3, none⟩ (.slice Ao35 t132.length co35)).setCell ⟨gb135, 4, none⟩ (.int .i64 t128)).setCell ⟨gb135, 5, none⟩ (.int .i64 0)).setCell ⟨gb135, 6, none⟩ (.int .i64 0)).setCell ⟨gb135, 7, none⟩ (.int .i64 0)).setCell ⟨gb135, 8, none⟩ (.int .i64 0)) w.heap.size (fun _ => True) (.slice Ao35 t132.length co35) t132) := ⟨au4_8⟩
                have n1_ : Aside0 ((((((((((w36.setCell ⟨gb135, 0, none⟩ (.string t129)).setCell ⟨gb135, 1, none⟩ (.int .i64 t130)).setCell ⟨gb135, 2, none⟩ (.int .i64 t131)).setCell ⟨gb135, 3, none⟩ (.slice Ao35 t132.length co35)).setCell ⟨gb135, 4, none⟩ (.int .i64 t128)).setCell ⟨gb135, 5, none⟩ (.int .i64 0)).setCell ⟨gb135, 6, none⟩ (.int .i64 0)).setCell ⟨gb135, 7, none⟩ (.int .i64 0)).setCell ⟨gb135, 8, none⟩ (.int .i64 0)).heap[gb124]? = some (.cells #[.string a0_0, .int .i64 a0_1, .int .i64 a0_2, .slice A0_3 l0_3.length c0_3] 51 (0, 0))) := ⟨au4_2⟩
                have n2_ : Aside0 ((((((((((w36.setCell ⟨gb135, 0, none⟩ (.string t129)).setCell ⟨gb135, 1, none⟩ (.int .i64 t130)).setCell ⟨gb135, 2, none⟩ (.int .i64 t131)).setCell ⟨gb135, 3, none⟩ (.slice Ao35 t132.length co35)).setCell ⟨gb135, 4, none⟩ (.int .i64 t128)).setCell ⟨gb135, 5, none⟩ (.int .i64 0)).setCell ⟨gb135, 6, none⟩ (.int .i64 0)).setCell ⟨gb135, 7, none⟩ (.int .i64 0)).setCell ⟨gb135, 8, none⟩ (.int .i64 0)).heap[gb125]? = some (.cells #[.string (⟨#[]⟩ : ByteArray), .int .i64 0, .int .i64 0, .slice none 0 0, .int .i64 0, .int .i64 0, .int .i64 0, .int .i64 0, .int .i64 0] 64 (0, 0))) := ⟨au4_3⟩
                have n3_ : Aside0 ((((((((((w36.setCell ⟨gb135, 0, none⟩ (.string t129)).setCell ⟨gb135, 1, none⟩ (.int .i64 t130)).setCell ⟨gb135, 2, none⟩ (.int .i64 t131)).setCell ⟨gb135, 3, none⟩ (.slice Ao35 t132.length co35)).setCell ⟨gb135, 4, none⟩ (.int .i64 t128)).setCell ⟨gb135, 5, none⟩ (.int .i64 0)).setCell ⟨gb135, 6, none⟩ (.int .i64 0)).setCell ⟨gb135, 7, none⟩ (.int .i64 0)).setCell ⟨gb135, 8, none⟩ (.int .i64 0)).heap[gb135]? = some (.cells #[.string t129, .int .i64 t130, .int .i64 t131, .slice Ao35 t132.length co35, .int .i64 t128, .int .i64 0, .int .i64 0, .int .i64 0, .int .i64 0] 64 (0, 0))) := ⟨au4_1⟩
                have n4_ : Aside0 (Below w.heap.size w (((((((((w36.setCell ⟨gb135, 0, none⟩ (.string t129)).setCell ⟨gb135, 1, none⟩ (.int .i64 t130)).setCell ⟨gb135, 2, none⟩ (.int .i64 t131)).setCell ⟨gb135, 3, none⟩ (.slice Ao35 t132.length co35)).setCell ⟨gb135, 4, none⟩ (.int .i64 t128)).setCell ⟨gb135, 5, none⟩ (.int .i64 0)).setCell ⟨gb135, 6, none⟩ (.int .i64 0)).setCell ⟨gb135, 7, none⟩ (.int .i64 0)).setCell ⟨gb135, 8, none⟩ (.int .i64 0))) := ⟨bl_⟩
                (try clear HO134)
                (try clear BK124)
                (try clear BK125)
                (try clear BK135)
                (try clear HB)
                generalize (((((((((w36.setCell ⟨gb135, 0, none⟩ (.string t129)).setCell ⟨gb135, 1, none⟩ (.int .i64 t130)).setCell ⟨gb135, 2, none⟩ (.int .i64 t131)).setCell ⟨gb135, 3, none⟩ (.slice Ao35 t132.length co35)).setCell ⟨gb135, 4, none⟩ (.int .i64 t128)).setCell ⟨gb135, 5, none⟩ (.int .i64 0)).setCell ⟨gb135, 6, none⟩ (.int .i64 0)).setCell ⟨gb135, 7, none⟩ (.int .i64 0)).setCell ⟨gb135, 8, none⟩ (.int .i64 0)) = w44 at n0_ n1_ n2_ n3_ n4_ ⊢
                have HO134 := n0_
                have BK124 := n1_
                have BK125 := n2_
                have BK135 := n3_
                have HB := n4_
                clear n0_ n1_ n2_ n3_ n4_
                have n0_ := Aside0.mk (Kd.R_drew HO134.out)
                have n1_ := Aside0.mk (blk_drew BK124.out)
                have n2_ := Aside0.mk (blk_drew BK125.out)
                have n3_ := Aside0.mk (blk_drew BK135.out)
                have n4_ := Aside0.mk (below_drew1 HB.out)
                clear HO134
                clear BK124
                clear BK125
                clear BK135
                clear HB
                have HO134 := n0_
                have BK124 := n1_
                have BK125 := n2_
                have BK135 := n3_
                have HB := n4_
                clear n0_ n1_ n2_ n3_ n4_
                have p137 : 0 ≤ (t136 : Int) := of_decide_eq_true as_
                have q137 : t136 < (l0_3.length : Int) := of_decide_eq_true as_
                obtain ⟨ad137, e137, hx137_0, hx137_1, hx137_2⟩ := at_T62 HR0_3.out t136 p137 q137
                have hw137_2 := hx137_2
                have hw137_1 := hx137_1
                have hw137_0 := hx137_0
                cases e137
                replace hx137_0 := (HB.out.cell (World.block_lt_of_cell? _ _ hx137_0)).trans hx137_0
                replace hx137_1 := (HB.out.cell (World.block_lt_of_cell? _ _ hx137_1)).trans hx137_1
                replace hx137_2 := (HB.out.cell (World.block_lt_of_cell? _ _ hx137_2)).trans hx137_2
                replace p137 := eq_true p137
                replace q137 := eq_true q137
                refine start_ (n := 9) (S := fun w' => w'.cell? ⟨gb124, 0, none⟩ = some (.string a0_0) ∧ w'.cell? ⟨gb124, 1, none⟩ = some (.int .i64 a0_1) ∧ w'.cell? ⟨gb124, 2, none⟩ = some (.int .i64 a0_2) ∧ w'.cell? ⟨gb124, 3, none⟩ = some (.slice (some ad137) l0_3.length c0_3) ∧ w'.cell? (ad137.add ((t136).toNat * 3)) = some (.int .i64 ((rd_T62 l0_3 t136).f0)) ∧ w'.cell? ⟨(ad137.add ((t136).toNat * 3)).block, (ad137.add ((t136).toNat * 3)).off + 1, none⟩ = some (.int .i64 ((rd_T62 l0_3 t136).f1)) ∧ w'.cell? ⟨(ad137.add ((t136).toNat * 3)).block, (ad137.add ((t136).toNat * 3)).off + 2, none⟩ = some (.int .i64 ((rd_T62 l0_3 t136).f2))) (ds := []) (bs 9 0) (by kernel_rfl) rfl rfl ⟨(blk_cell BK124.out 0).trans rfl, (blk_cell BK124.out 1).trans rfl, (blk_cell BK124.out 2).trans rfl, (blk_cell BK124.out 3).trans rfl, ((HB.out.cell (World.block_lt_of_cell? _ _ hw137_0)).trans hw137_0), ((HB.out.cell (World.block_lt_of_cell? _ _ hw137_1)).trans hw137_1), ((HB.out.cell (World.block_lt_of_cell? _ _ hw137_2)).trans hw137_2)⟩ (fun hHeld => ?_); refine with_tabW spec_PartnerTake.tab6 spec_PartnerTake.bits6 (fun HT_ HW_ => ?_)
                generalize w44.drew = w45 at HO134 BK124 BK125 BK135 HB hx137_0 hx137_1 hx137_2 hHeld ⊢
                refine pu_ 0 39 (bs 9 1) HT_ ?_ rfl rfl
                refine pu_ 3 42 (bs 9 9) HT_ ?_ rfl rfl
                refine tk_ 1 40 (bs 9 11) HT_ HW_ hHeld au4_16 ?_ rfl rfl
                refine tk_ 2 41 (bs 9 15) HT_ HW_ hHeld au4_16 ?_ rfl rfl
                refine one_ (i := 4) (N := some 43) (bs 9 31) rfl rfl (one_of HT_.out (by kernel_rfl)) (by decide) (fun K hK => ?_)
                refine gr_ Try.func79 #[.agg #[.string a0_0, .int .i64 a0_1, .int .i64 a0_2, .slice (some ad137) l0_3.length c0_3], .int .i64 a1] (by rfl) ?_ rfl rfl rfl
                with_reducible refine (spec_l07Find.calls kj3 a0_0 a0_1 a0_2 _ _ l0_3 a1 t136 _ ?side1 ?side2 A41.out).mono ?_
                (case side1 => exact au4_7)
                (case side2 => exact HC0_3.out)
                rintro e w46 ⟨rfl, hb⟩
                refine ⟨_, rfl, ?_⟩
                have n0_ := Aside0.mk (Kd.R_below (rk_ HO134) hb)
                have n1_ := Aside0.mk (blkb_ BK124 hb)
                have n2_ := Aside0.mk (blkb_ BK125 hb)
                have n3_ := Aside0.mk (blkb_ BK135 hb)
                have n4_ := Aside0.mk (below_step bl_ hb)
                clear HO134
                clear BK124
                clear BK125
                clear BK135
                clear HB
                have HO134 := n0_
                have BK124 := n1_
                have BK125 := n2_
                have BK135 := n3_
                have HB := n4_
                clear n0_ n1_ n2_ n3_ n4_
                (try clear hb)
                (try clear hb2)
                (try clear hk)
                (try clear hi)
                refine hK.out _ _ ⟨(blk_cell BK124.out 0).trans rfl, (blk_cell BK124.out 1).trans rfl, (blk_cell BK124.out 2).trans rfl, (blk_cell BK124.out 3).trans rfl, ((HB.out.cell (World.block_lt_of_cell? _ _ hw137_0)).trans hw137_0), ((HB.out.cell (World.block_lt_of_cell? _ _ hw137_1)).trans hw137_1), ((HB.out.cell (World.block_lt_of_cell? _ _ hw137_2)).trans hw137_2)⟩ (fun hHeld => ?_)
                clear hK K
                refine norm_ (a' := ?_) ?_ ?_
                rotate_left
                · show Act.put _ (some 43) _ = _
                  simp only [Act.put, List.setIfInBounds_toArray, List.set_cons_zero, List.set_cons_succ, i64_w, i32_w]
                  rfl
                refine pu_ 5 44 (bs 9 63) HT_ ?_ rfl rfl
                refine tk_ 6 45 (bs 9 127) HT_ HW_ hHeld au4_16 ?_ rfl rfl
                refine pu_ 7 46 (bs 9 255) HT_ ?_ rfl rfl
                refine one_ (i := 8) (N := none) (bs 9 511) rfl rfl (one_of HT_.out (by kernel_rfl)) (by decide) (fun K hK => ?_)
                have hs47 : w46.cell? ⟨gb135, 5, none⟩ = some (.int .i64 0) := (blk_cell BK135.out 5).trans rfl
                have hfs47 := blk_frozen BK135.out 5
                have hns47_0 := NB124_135.out
                have hns47_1 := NB125_135.out
                have hms47_0 := NB135_124.out
                have hms47_1 := NB135_125.out
                have hs48 : w46.cell? ⟨gb135, 6, none⟩ = some (.int .i64 0) := (blk_cell BK135.out 6).trans rfl
                have hfs48 := blk_frozen BK135.out 6
                have hns48_0 := NB124_135.out
                have hns48_1 := NB125_135.out
                have hms48_0 := NB135_124.out
                have hms48_1 := NB135_125.out
                have hs49 : w46.cell? ⟨gb135, 7, none⟩ = some (.int .i64 0) := (blk_cell BK135.out 7).trans rfl
                have hfs49 := blk_frozen BK135.out 7
                have hns49_0 := NB124_135.out
                have hns49_1 := NB125_135.out
                have hms49_0 := NB135_124.out
                have hms49_1 := NB135_125.out
                refine skip_ (w1 := ?_) (by rfl) rfl ?_ ?_
                rotate_left
                · go_simp
                  rfl
                refine hK.out _ _ ⟨((cell_far (p := ⟨gb135, _, none⟩) NB124_135.out _).trans (((cell_far (p := ⟨gb135, _, none⟩) NB124_135.out _).trans (((cell_far (p := ⟨gb135, _, none⟩) NB124_135.out _).trans (hHeld.1)))))), ((cell_far (p := ⟨gb135, _, none⟩) NB124_135.out _).trans (((cell_far (p := ⟨gb135, _, none⟩) NB124_135.out _).trans (((cell_far (p := ⟨gb135, _, none⟩) NB124_135.out _).trans (hHeld.2.1)))))), ((cell_far (p := ⟨gb135, _, none⟩) NB124_135.out _).trans (((cell_far (p := ⟨gb135, _, none⟩) NB124_135.out _).trans (((cell_far (p := ⟨gb135, _, none⟩) NB124_135.out _).trans (hHeld.2.2.1)))))), ((cell_far (p := ⟨gb135, _, none⟩) NB124_135.out _).trans (((cell_far (p := ⟨gb135, _, none⟩) NB124_135.out _).trans (((cell_far (p := ⟨gb135, _, none⟩) NB124_135.out _).trans (hHeld.2.2.2.1)))))), ((cell_far (p := ⟨gb135, _, none⟩) au4_4 _).trans (((cell_far (p := ⟨gb135, _, none⟩) au4_4 _).trans (((cell_far (p := ⟨gb135, _, none⟩) au4_4 _).trans (hHeld.2.2.2.2.1)))))), ((cell_far (p := ⟨gb135, _, none⟩) au4_5 _).trans (((cell_far (p := ⟨gb135, _, none⟩) au4_5 _).trans (((cell_far (p := ⟨gb135, _, none⟩) au4_5 _).trans (hHeld.2.2.2.2.2.1)))))), ((cell_far (p := ⟨gb135, _, none⟩) au4_6 _).trans (((cell_far (p := ⟨gb135, _, none⟩) au4_6 _).trans (((cell_far (p := ⟨gb135, _, none⟩) au4_6 _).trans (hHeld.2.2.2.2.2.2))))))⟩ (fun hHeld => ?_)
                clear hK K
                refine done_ (done_of HT_.out (by kernel_rfl)) ?_
                try go_wp2
                go_meet
                case rel => exact ⟨_, ((rd_T62 l0_3 t136).f0), ((rd_T62 l0_3 t136).f1), ((rd_T62 l0_3 t136).f2), H', ⟨by have := HJ3.out; first | omega | exact Nat.le_refl _⟩, ⟨by (with_reducible repeat (first | apply Kd.R_alloc | apply Kd.R_drewN | apply Kd.R_drew)); exact Kd.R_mono (Kd.R_far (p := ⟨gb135, 7, none⟩) (Kd.R_far (p := ⟨gb135, 6, none⟩) (Kd.R_far (p := ⟨gb135, 5, none⟩) (Kd.R_types HO134.out BK135.out (by decide)) (fun _ hk => hk.2) (.int .i64 ((rd_T62 l0_3 t136).f0))) (fun _ hk => hk.2) (.int .i64 ((rd_T62 l0_3 t136).f1))) (fun _ hk => hk.2) (.int .i64 ((rd_T62 l0_3 t136).f2))) (fun _ hk => trivial)⟩, ⟨by (with_reducible repeat (first | refine blk_drewN ?_ _ | refine blk_drew ?_ | refine blk_alloc ?_ _)); refine blk_far ?_ NB124_135.out _; (with_reducible repeat (first | refine blk_drewN ?_ _ | refine blk_drew ?_ | refine blk_alloc ?_ _)); refine blk_far ?_ NB124_135.out _; (with_reducible repeat (first | refine blk_drewN ?_ _ | refine blk_drew ?_ | refine blk_alloc ?_ _)); refine blk_far ?_ NB124_135.out _; (with_reducible repeat (first | refine blk_drewN ?_ _ | refine blk_drew ?_ | refine blk_alloc ?_ _)); exact BK124.out⟩, ⟨by (with_reducible repeat (first | refine blk_drewN ?_ _ | refine blk_drew ?_ | refine blk_alloc ?_ _)); refine blk_far ?_ NB125_135.out _; (with_reducible repeat (first | refine blk_drewN ?_ _ | refine blk_drew ?_ | refine blk_alloc ?_ _)); refine blk_far ?_ NB125_135.out _; (with_reducible repeat (first | refine blk_drewN ?_ _ | refine blk_drew ?_ | refine blk_alloc ?_ _)); refine blk_far ?_ NB125_135.out _; (with_reducible repeat (first | refine blk_drewN ?_ _ | refine blk_drew ?_ | refine blk_alloc ?_ _)); exact BK125.out⟩, ⟨by (with_reducible repeat (first | refine blk_drewN ?_ _ | refine blk_drew ?_ | refine blk_alloc ?_ _)); refine blk_put (cs := #[.string t129, .int .i64 t130, .int .i64 t131, .slice Ao35 t132.length co35, .int .i64 t128, .int .i64 ((rd_T62 l0_3 t136).f0), .int .i64 ((rd_T62 l0_3 t136).f1), .int .i64 0, .int .i64 0]) ?_ 7 _ rfl; (with_reducible repeat (first | refine blk_drewN ?_ _ | refine blk_drew ?_ | refine blk_alloc ?_ _)); refine blk_put (cs := #[.string t129, .int .i64 t130, .int .i64 t131, .slice Ao35 t132.length co35, .int .i64 t128, .int .i64 ((rd_T62 l0_3 t136).f0), .int .i64 0, .int .i64 0, .int .i64 0]) ?_ 6 _ rfl; (with_reducible repeat (first | refine blk_drewN ?_ _ | refine blk_drew ?_ | refine blk_alloc ?_ _)); refine blk_put (cs := #[.string t129, .int .i64 t130, .int .i64 t131, .slice Ao35 t132.length co35, .int .i64 t128, .int .i64 0, .int .i64 0, .int .i64 0, .int .i64 0]) ?_ 5 _ rfl; (with_reducible repeat (first | refine blk_drewN ?_ _ | refine blk_drew ?_ | refine blk_alloc ?_ _)); exact BK135.out⟩, ⟨bl_⟩⟩
              · rw [if_neg c43] at H
                exact absurd H (by simp)
            · rw [if_neg c42] at H
              exact absurd H (by simp)
          · rw [if_neg c40] at H
            have c40b0 : (t128 == 2) = false := beq_eq_false_iff_ne.mpr c40
            have c40b1 : (t128 != 2) = true := bne_iff_ne.mpr c40
            (first | rw [c40b0] | (simp only [i64_w, i32_w]; rw [c40b0]) | skip)
            have H' := Aside0.mk H
            clear H
            go_wp2
            go_meet
            case rel => exact ⟨_, (0), (0), (0), H', ⟨by have := HJ3.out; first | omega | exact Nat.le_refl _⟩, ⟨au4_8⟩, ⟨au4_2⟩, ⟨au4_3⟩, ⟨au4_1⟩, ⟨bl_⟩⟩
        case rest =>
          clear HC29
          try clear c1
          try clear p1
          try clear q1
          try clear hx1
          try clear c2
          try clear p2
          try clear c3
          try clear c4
          try clear c7
          try clear c8
          try clear c10
          try clear c11
          try clear c11b0
          try clear c12
          try clear p13
          try clear q13
          try clear hx13
          try clear c15
          try clear c18
          try clear c21
          try clear c24
          try clear c25
          try clear c30
          try clear c37
          try clear c38
          try clear c40
          try clear c40b0
          try clear c40b1
          try clear c42
          try clear c42b0
          try clear c43
          try clear c43b0
          try clear c44
          try clear hcz13_0
          try clear hcz13_1
          try clear hcz13_2
          try clear hcz13_3
          try clear hcz16_0
          try clear hcz16_1
          try clear hcz16_2
          try clear hcz16_3
          try clear hcz19_0
          try clear hcz19_1
          try clear hcz19_2
          try clear hcz19_3
          try clear hcz22_0
          try clear hcz22_1
          try clear hcz22_2
          try clear hcz22_3
          try clear hcz26_0
          try clear hcz26_1
          try clear hcz26_2
          try clear hcz26_3
          try clear hcz26_4
          try clear hcz26_5
          try clear hcz26_6
          try clear hcz26_7
          try clear hcz26_8
          try clear hcz31_0
          try clear hcz31_1
          try clear hcz31_2
          try clear hcz31_3
          try clear hcz33_0
          try clear hcz33_1
          try clear hcz33_2
          try clear hcz33_3
          try clear hcz39_0
          try clear hcz39_1
          try clear hcz39_2
          try clear hcz39_3
          try clear hcz39_4
          try clear hcz39_5
          try clear hcz39_6
          try clear hcz39_7
          try clear hcz39_8
          try clear hfz13_0
          try clear hfz13_1
          try clear hfz13_2
          try clear hfz13_3
          try clear hfz16_0
          try clear hfz16_1
          try clear hfz16_2
          try clear hfz16_3
          try clear hfz19_0
          try clear hfz19_1
          try clear hfz19_2
          try clear hfz19_3
          try clear hfz22_0
          try clear hfz22_1
          try clear hfz22_2
          try clear hfz22_3
          try clear hfz26_0
          try clear hfz26_1
          try clear hfz26_2
          try clear hfz26_3
          try clear hfz26_4
          try clear hfz26_5
          try clear hfz26_6
          try clear hfz26_7
          try clear hfz26_8
          try clear hfz31_0
          try clear hfz31_1
          try clear hfz31_2
          try clear hfz31_3
          try clear hfz33_0
          try clear hfz33_1
          try clear hfz33_2
          try clear hfz33_3
          try clear hfz39_0
          try clear hfz39_1
          try clear hfz39_2
          try clear hfz39_3
          try clear hfz39_4
          try clear hfz39_5
          try clear hfz39_6
          try clear hfz39_7
          try clear hfz39_8
          try clear hx137_0
          try clear hx137_1
          try clear hx137_2
          try clear p137
          try clear p2
          try clear q137
          obtain ⟨kq, x136005_28, x136006_28, x136007_28, HA, HJ28, HO_136003, BK124, BK125, BK135, HB⟩ := hcut
          cases kq with
          | zero => exact absurd HA.out (by simp [spec_PartnerTake.j1])
          | succ kj28 =>
            have H := HA.out
            clear HA
            simp only [spec_PartnerTake.j1] at H
            by_cases c50 : t128 = 1
            · rw [if_pos c50] at H
              have c50b0 : (t128 == 1) = true := beq_iff_eq.mpr c50
              have c50b1 : (t128 != 1) = false := bne_eq_false_iff_eq.mpr c50
              clear c50
              by_cases c51 : a0_2 = 999999
              · rw [if_pos c51] at H
                have c51b0 : (a0_2 == 999999) = true := beq_iff_eq.mpr c51
                have c51b1 : (a0_2 != 999999) = false := bne_eq_false_iff_eq.mpr c51
                clear c51
                simp only [Option.some.injEq, Prod.mk.injEq] at H
                obtain ⟨rfl, rfl, rfl, rfl, rfl, rfl, rfl, rfl, rfl⟩ := H
                have hnb52 := NB124_125.out
                have hnc52 := NB125_124.out
                have hnb53 := NB124_135.out
                have hnc53 := NB135_124.out
                obtain ⟨hcz54_0, hcz54_1, hcz54_2, hcz54_3, hfz54_0, hfz54_1, hfz54_2, hfz54_3⟩ := cellsF4 BK124.out
                have hnb55 := NB125_135.out
                have hnc55 := NB135_125.out
                obtain ⟨hcz56_0, hcz56_1, hcz56_2, hcz56_3, hcz56_4, hcz56_5, hcz56_6, hcz56_7, hcz56_8, hfz56_0, hfz56_1, hfz56_2, hfz56_3, hfz56_4, hfz56_5, hfz56_6, hfz56_7, hfz56_8⟩ := cellsF9 BK125.out
                go_wp2
                refine bodyPost_ret (results_cell_row rfl _ _ gb125 64 #[.string (⟨#[]⟩ : ByteArray), .int .i64 0, .int .i64 0, .slice none 0 0, .int .i64 0, .int .i64 0, .int .i64 0, .int .i64 0, .int .i64 13] (0, 0) _ rfl au4_0 Try.underlying64 rfl (by kernel_rfl)) rfl ?_
                exact ⟨_, au4_12, au4_15, bl_⟩
              · rw [if_neg c51] at H
                have c51b0 : (a0_2 == 999999) = false := beq_eq_false_iff_ne.mpr c51
                have c51b1 : (a0_2 != 999999) = true := bne_iff_ne.mpr c51
                replace H := Option.bind_eq_some_iff.mp H
                obtain ⟨t138, A570, H⟩ := H
                replace H : (spec_PartnerTake.l0 kj28 a1 t138 (([] : List (S62))) false 0 a0_0 a0_1 a0_2 l0_3 t129 t130 t131 t132 t128 a1 a0_2 a2 0) = some (r1, r2, r3, r4, r5, r6, r7, r8, r9) := H
                have A57 := Aside0.mk A570
                clear A570
                obtain ⟨y139, hy139⟩ : ∃ y_ : List (S62), y_ = (([] : List (S62))) := ⟨_, rfl⟩
                replace H : (spec_PartnerTake.l0 kj28 a1 t138 y139 false 0 a0_0 a0_1 a0_2 l0_3 t129 t130 t131 t132 t128 a1 a0_2 a2 0) = some (r1, r2, r3, r4, r5, r6, r7, r8, r9) := by first | (rw [hy139]; with_reducible exact H) | (have H2_ := (Option.bind_some _ _).symm.trans H; rw [hy139]; with_reducible exact H2_) | (have H2_ := (Option.bind_some _ _).symm.trans H; with_reducible exact H2_) | with_reducible exact H | (rw [hy139]; exact H) | exact H
                have Ny139 := Aside0.mk hy139
                clear hy139
                have H' := Aside0.mk H
                clear H
                have hnb58 := NB124_125.out
                have hnc58 := NB125_124.out
                have hnb59 := NB124_135.out
                have hnc59 := NB135_124.out
                obtain ⟨hcz60_0, hcz60_1, hcz60_2, hcz60_3, hfz60_0, hfz60_1, hfz60_2, hfz60_3⟩ := cellsF4 BK124.out
                have hnb61 := NB135_125.out
                have hnc61 := NB125_135.out
                obtain ⟨hcz62_0, hcz62_1, hcz62_2, hcz62_3, hcz62_4, hcz62_5, hcz62_6, hcz62_7, hcz62_8, hfz62_0, hfz62_1, hfz62_2, hfz62_3, hfz62_4, hfz62_5, hfz62_6, hfz62_7, hfz62_8⟩ := cellsF9 BK135.out
                go_wp2_with (first | (go_at_call 90; (with_reducible refine (spec_l01Max.calls a0_1 (wrap64 ((wrap64 (a1 - 32)) + 1)) t138 _ A57.out).mono ?_); rintro e w' ⟨rfl, ⟨nd, rfl⟩⟩; (try clear A57)) | ((with_reducible refine gate_dst (N := 66) rfl ?_); refine Kd.R_lit k62 _ 62 ?hg (N := 66) ?hd (xs := ([] : List (S62))) (inner := []) (ok := fun _ => True) (okp := fun _ => True) ?hr ?hp (fun _ hk => hk) trivial (Below.refl _ _) (Nat.le_refl _) (by simp) ?_; (case hd => rfl); (case hg => rfl); (case hr => exact hr_); (case hp => exact (Reps.none _ _)); intro v140 w63 ho64 hb hg_ hnew_; clear hg_ hnew_; (first | rw [← Ny139.out] at ho64 | (simp only [Int.reduceToNat] at ho64; rw [← Ny139.out] at ho64)); have n0_ := Aside0.mk (Kd.R_elder' au4_11 (Kd.R_base ho64) hb); have n1_ := Aside0.mk (Kd.R_lower (Kd.R_new' ho64 (Kd.R_lt au4_11)) (below_size bl_)); have n2_ := Aside0.mk (blk_below (g := gb124) (o := .cells #[.string a0_0, .int .i64 a0_1, .int .i64 a0_2, .slice A0_3 l0_3.length c0_3] 51 (0, 0)) (by (with_reducible repeat (first | refine blk_drewN ?_ _ | refine blk_drew ?_ | refine blk_alloc ?_ _)); refine blk_far ?_ NB124_135.out _; (with_reducible repeat (first | refine blk_drewN ?_ _ | refine blk_drew ?_ | refine blk_alloc ?_ _)); refine blk_far ?_ NB124_135.out _; (with_reducible repeat (first | refine blk_drewN ?_ _ | refine blk_drew ?_ | refine blk_alloc ?_ _)); refine blk_far ?_ NB124_135.out _; (with_reducible repeat (first | refine blk_drewN ?_ _ | refine blk_drew ?_ | refine blk_alloc ?_ _)); exact BK124.out) hb); have n3_ := Aside0.mk (blk_below (g := gb125) (o := .cells #[.string (⟨#[]⟩ : ByteArray), .int .i64 0, .int .i64 0, .slice none 0 0, .int .i64 0, .int .i64 0, .int .i64 0, .int .i64 0, .int .i64 0] 64 (0, 0)) (by (with_reducible repeat (first | refine blk_drewN ?_ _ | refine blk_drew ?_ | refine blk_alloc ?_ _)); refine blk_far ?_ NB125_135.out _; (with_reducible repeat (first | refine blk_drewN ?_ _ | refine blk_drew ?_ | refine blk_alloc ?_ _)); refine blk_far ?_ NB125_135.out _; (with_reducible repeat (first | refine blk_drewN ?_ _ | refine blk_drew ?_ | refine blk_alloc ?_ _)); refine blk_far ?_ NB125_135.out _; (with_reducible repeat (first | refine blk_drewN ?_ _ | refine blk_drew ?_ | refine blk_alloc ?_ _)); exact BK125.out) hb); have n4_ := Aside0.mk (blk_below (g := gb135) (o := .cells #[.string t129, .int .i64 t130, .int .i64 t131, .slice Ao35 t132.length co35, .int .i64 t128, .int .i64 a1, .int .i64 a0_2, .int .i64 a2, .int .i64 0] 64 (0, 0)) (by (with_reducible repeat (first | refine blk_drewN ?_ _ | refine blk_drew ?_ | refine blk_alloc ?_ _)); refine blk_put (cs := #[.string t129, .int .i64 t130, .int .i64 t131, .slice Ao35 t132.length co35, .int .i64 t128, .int .i64 a1, .int .i64 a0_2, .int .i64 x136007_28, .int .i64 0]) ?_ 7 _ rfl; (with_reducible repeat (first | refine blk_drewN ?_ _ | refine blk_drew ?_ | refine blk_alloc ?_ _)); refine blk_put (cs := #[.string t129, .int .i64 t130, .int .i64 t131, .slice Ao35 t132.length co35, .int .i64 t128, .int .i64 a1, .int .i64 x136006_28, .int .i64 x136007_28, .int .i64 0]) ?_ 6 _ rfl; (with_reducible repeat (first | refine blk_drewN ?_ _ | refine blk_drew ?_ | refine blk_alloc ?_ _)); refine blk_put (cs := #[.string t129, .int .i64 t130, .int .i64 t131, .slice Ao35 t132.length co35, .int .i64 t128, .int .i64 x136005_28, .int .i64 x136006_28, .int .i64 x136007_28, .int .i64 0]) ?_ 5 _ rfl; (with_reducible repeat (first | refine blk_drewN ?_ _ | refine blk_drew ?_ | refine blk_alloc ?_ _)); exact BK135.out) hb); have n5_ := Aside0.mk (below_step bl_ hb); clear HO_136003; clear BK124; clear BK125; clear BK135; clear HB; have HO_136003 := n0_; have HO141 := n1_; have BK124 := n2_; have BK125 := n3_; have BK135 := n4_; have HB := n5_; clear n0_ n1_ n2_ n3_ n4_ n5_; clear hb ho64))
                go_loopg [10, 11, 12] kj28 (fun kq v10 v11 v12 w' => ∃ (x10_3 : List (S62)) (x11_3 : Bool) (x12_3 : Int), v11 = .bool x11_3 ∧ v12 = .int .i64 x12_3 ∧ Aside0 (spec_PartnerTake.l0 kq a1 t138 x10_3 x11_3 x12_3 a0_0 a0_1 a0_2 l0_3 t129 t130 t131 t132 t128 a1 a0_2 a2 0 = some (r1, r2, r3, r4, r5, r6, r7, r8, r9)) ∧ Aside0 (kq ≤ kj28) ∧ Aside0 (Kd.R k62 62 w' w.heap.size (fun k_ => some k_ ≠ ((.slice Ao35 t132.length co35) : Value).ownBlock) v10 x10_3) ∧ Aside0 (Kd.R k62 62 w' w.heap.size (fun k_ => some k_ ≠ (v10 : Value).ownBlock) (.slice Ao35 t132.length co35) t132) ∧ Aside0 (w'.heap[gb124]? = some (.cells #[.string a0_0, .int .i64 a0_1, .int .i64 a0_2, (.slice A0_3 l0_3.length c0_3)] 51 (0, 0))) ∧ Aside0 (w'.heap[gb125]? = some (.cells #[.string (⟨#[]⟩ : ByteArray), .int .i64 0, .int .i64 0, (.slice none 0 0), .int .i64 0, .int .i64 0, .int .i64 0, .int .i64 0, .int .i64 0] 64 (0, 0))) ∧ Aside0 (w'.heap[gb135]? = some (.cells #[.string t129, .int .i64 t130, .int .i64 t131, (.slice Ao35 t132.length co35), .int .i64 t128, .int .i64 a1, .int .i64 a0_2, .int .i64 a2, .int .i64 0] 64 (0, 0))) ∧ Aside0 (Below w.heap.size w w'))
                case atStart => exact ⟨(y139), (false), (0), er_, er_, H', ⟨Nat.le_refl _⟩, ⟨by (with_reducible repeat (first | apply Kd.R_alloc | apply Kd.R_drewN | apply Kd.R_drew)); exact Kd.R_mono HO141.out (fun _ hk => hk.2)⟩, ⟨au4_10⟩, ⟨bk_ BK124⟩, ⟨bk_ BK125⟩, ⟨bk_ BK135⟩, ⟨bl_⟩⟩
                case round =>
                  clear H'
                  try clear c1
                  try clear p1
                  try clear q1
                  try clear hx1
                  try clear c2
                  try clear p2
                  try clear c3
                  try clear c4
                  try clear c5
                  try clear c6
                  try clear p6
                  try clear c7
                  try clear c8
                  try clear c10
                  try clear c11
                  try clear c11b0
                  try clear c12
                  try clear p13
                  try clear q13
                  try clear hx13
                  try clear c15
                  try clear c18
                  try clear c21
                  try clear c24
                  try clear c25
                  try clear c30
                  try clear c37
                  try clear c38
                  try clear c40
                  try clear c40b0
                  try clear c40b1
                  try clear c42
                  try clear c42b0
                  try clear c43
                  try clear c43b0
                  try clear c44
                  try clear c50
                  try clear c50b0
                  try clear c50b1
                  try clear c51
                  try clear c51b0
                  try clear c51b1
                  try clear c52
                  try clear c53
                  try clear c55
                  try clear c58
                  try clear c59
                  try clear c61
                  try clear p64
                  try clear hcz13_0
                  try clear hcz13_1
                  try clear hcz13_2
                  try clear hcz13_3
                  try clear hcz16_0
                  try clear hcz16_1
                  try clear hcz16_2
                  try clear hcz16_3
                  try clear hcz19_0
                  try clear hcz19_1
                  try clear hcz19_2
                  try clear hcz19_3
                  try clear hcz22_0
                  try clear hcz22_1
                  try clear hcz22_2
                  try clear hcz22_3
                  try clear hcz26_0
                  try clear hcz26_1
                  try clear hcz26_2
                  try clear hcz26_3
                  try clear hcz26_4
                  try clear hcz26_5
                  try clear hcz26_6
                  try clear hcz26_7
                  try clear hcz26_8
                  try clear hcz31_0
                  try clear hcz31_1
                  try clear hcz31_2
                  try clear hcz31_3
                  try clear hcz33_0
                  try clear hcz33_1
                  try clear hcz33_2
                  try clear hcz33_3
                  try clear hcz39_0
                  try clear hcz39_1
                  try clear hcz39_2
                  try clear hcz39_3
                  try clear hcz39_4
                  try clear hcz39_5
                  try clear hcz39_6
                  try clear hcz39_7
                  try clear hcz39_8
                  try clear hcz54_0
                  try clear hcz54_1
                  try clear hcz54_2
                  try clear hcz54_3
                  try clear hcz56_0
                  try clear hcz56_1
                  try clear hcz56_2
                  try clear hcz56_3
                  try clear hcz56_4
                  try clear hcz56_5
                  try clear hcz56_6
                  try clear hcz56_7
                  try clear hcz56_8
                  try clear hcz60_0
                  try clear hcz60_1
                  try clear hcz60_2
                  try clear hcz60_3
                  try clear hcz62_0
                  try clear hcz62_1
                  try clear hcz62_2
                  try clear hcz62_3
                  try clear hcz62_4
                  try clear hcz62_5
                  try clear hcz62_6
                  try clear hcz62_7
                  try clear hcz62_8
                  try clear hfz13_0
                  try clear hfz13_1
                  try clear hfz13_2
                  try clear hfz13_3
                  try clear hfz16_0
                  try clear hfz16_1
                  try clear hfz16_2
                  try clear hfz16_3
                  try clear hfz19_0
                  try clear hfz19_1
                  try clear hfz19_2
                  try clear hfz19_3
                  try clear hfz22_0
                  try clear hfz22_1
                  try clear hfz22_2
                  try clear hfz22_3
                  try clear hfz26_0
                  try clear hfz26_1
                  try clear hfz26_2
                  try clear hfz26_3
                  try clear hfz26_4
                  try clear hfz26_5
                  try clear hfz26_6
                  try clear hfz26_7
                  try clear hfz26_8
                  try clear hfz31_0
                  try clear hfz31_1
                  try clear hfz31_2
                  try clear hfz31_3
                  try clear hfz33_0
                  try clear hfz33_1
                  try clear hfz33_2
                  try clear hfz33_3
                  try clear hfz39_0
                  try clear hfz39_1
                  try clear hfz39_2
                  try clear hfz39_3
                  try clear hfz39_4
                  try clear hfz39_5
                  try clear hfz39_6
                  try clear hfz39_7
                  try clear hfz39_8
                  try clear hfz54_0
                  try clear hfz54_1
                  try clear hfz54_2
                  try clear hfz54_3
                  try clear hfz56_0
                  try clear hfz56_1
                  try clear hfz56_2
                  try clear hfz56_3
                  try clear hfz56_4
                  try clear hfz56_5
                  try clear hfz56_6
                  try clear hfz56_7
                  try clear hfz56_8
                  try clear hfz60_0
                  try clear hfz60_1
                  try clear hfz60_2
                  try clear hfz60_3
                  try clear hfz62_0
                  try clear hfz62_1
                  try clear hfz62_2
                  try clear hfz62_3
                  try clear hfz62_4
                  try clear hfz62_5
                  try clear hfz62_6
                  try clear hfz62_7
                  try clear hfz62_8
                  try clear hx137_0
                  try clear hx137_1
                  try clear hx137_2
                  try clear p1
                  try clear p13
                  try clear p137
                  try clear p2
                  try clear q1
                  try clear q13
                  try clear q137
                  obtain ⟨x10_3, x11_3, x12_3, rfl, rfl, HA, HK3, HO_10, HO_136003, BK124, BK125, BK135, HB⟩ := hrel
                  cases gk with
                  | zero => exact absurd HA.out (by simp [spec_PartnerTake.l0])
                  | succ k3 =>
                    have H := HA.out
                    clear HA
                    simp only [spec_PartnerTake.l0] at H
                    by_cases c65 : x12_3 < (l0_3.length : Int)
                    · rw [if_pos c65] at H
                      have c65b0 : decide (x12_3 < (l0_3.length : Int)) = true := decide_eq_true c65
                      clear c65
                      have HC66 := Aside0.mk H
                      clear H
                      have hnb67 := NB124_125.out
                      have hnc67 := NB125_124.out
                      have hnb68 := NB124_135.out
                      have hnc68 := NB135_124.out
                      obtain ⟨hcz69_0, hcz69_1, hcz69_2, hcz69_3, hfz69_0, hfz69_1, hfz69_2, hfz69_3⟩ := cellsF4 BK124.out
                      go_upto_region 18 with (fail)
                      go_cut [85] (fun v85 wc => ∃ (kq : Nat) (x85_65 : Bool), v85 = .bool x85_65 ∧ Aside0 (spec_PartnerTake.j3 kq a1 t138 x10_3 x11_3 x12_3 x85_65 a0_0 a0_1 a0_2 l0_3 t129 t130 t131 t132 t128 a1 a0_2 a2 0 = some (r1, r2, r3, r4, r5, r6, r7, r8, r9)) ∧ Aside0 (kq ≤ k3) ∧ Aside0 (Kd.R k62 62 wc w.heap.size (fun k_ => some k_ ≠ ((.slice Ao35 t132.length co35) : Value).ownBlock) u10 x10_3) ∧ Aside0 (Kd.R k62 62 wc w.heap.size (fun k_ => some k_ ≠ (u10 : Value).ownBlock) (.slice Ao35 t132.length co35) t132) ∧ Aside0 (wc.heap[gb124]? = some (.cells #[.string a0_0, .int .i64 a0_1, .int .i64 a0_2, (.slice A0_3 l0_3.length c0_3)] 51 (0, 0))) ∧ Aside0 (wc.heap[gb125]? = some (.cells #[.string (⟨#[]⟩ : ByteArray), .int .i64 0, .int .i64 0, (.slice none 0 0), .int .i64 0, .int .i64 0, .int .i64 0, .int .i64 0, .int .i64 0] 64 (0, 0))) ∧ Aside0 (wc.heap[gb135]? = some (.cells #[.string t129, .int .i64 t130, .int .i64 t131, (.slice Ao35 t132.length co35), .int .i64 t128, .int .i64 a1, .int .i64 a0_2, .int .i64 a2, .int .i64 0] 64 (0, 0))) ∧ Aside0 (Below w.heap.size w wc))
                      case first =>
                        have H := HC66.out
                        clear HC66
                        by_cases c70 : 0 ≤ x12_3
                        · rw [if_pos c70] at H
                          have c70b0 : decide (0 ≤ x12_3) = true := decide_eq_true c70
                          clear c70
                          (first | rw [c70b0] | (simp only [i64_w, i32_w]; rw [c70b0]) | skip)
                          by_cases c71 : ((rd_T62 l0_3 x12_3).f0) > a1
                          · rw [if_pos c71] at H
                            have c71b0 : decide (a1 < ((rd_T62 l0_3 x12_3).f0)) = true := decide_eq_true c71
                            clear c71
                            have H' := Aside0.mk H
                            clear H
                            have hnb72 := NB124_125.out
                            have hnc72 := NB125_124.out
                            have hnb73 := NB124_135.out
                            have hnc73 := NB135_124.out
                            obtain ⟨hcz74_0, hcz74_1, hcz74_2, hcz74_3, hfz74_0, hfz74_1, hfz74_2, hfz74_3⟩ := cellsF4 BK124.out
                            have p145 : 0 ≤ (x12_3 : Int) := of_decide_eq_true as_
                            have q145 : x12_3 < (l0_3.length : Int) := of_decide_eq_true as_
                            obtain ⟨ad145, e145, hx145_0, hx145_1, hx145_2⟩ := at_T62 HR0_3.out x12_3 p145 q145
                            cases e145
                            replace hx145_0 := (HB.out.cell (World.block_lt_of_cell? _ _ hx145_0)).trans hx145_0
                            replace hx145_1 := (HB.out.cell (World.block_lt_of_cell? _ _ hx145_1)).trans hx145_1
                            replace hx145_2 := (HB.out.cell (World.block_lt_of_cell? _ _ hx145_2)).trans hx145_2
                            replace p145 := eq_true p145
                            replace q145 := eq_true q145
                            go_wp2
                            go_meet
                            case rel => exact ⟨_, (!x11_3), er_, H', ⟨au4_19⟩, ⟨rk_ HO_10⟩, ⟨rk_ HO_136003⟩, ⟨bk_ BK124⟩, ⟨bk_ BK125⟩, ⟨bk_ BK135⟩, ⟨bl_⟩⟩
                          · rw [if_neg c71] at H
                            have c71b0 : decide (a1 < ((rd_T62 l0_3 x12_3).f0)) = false := decide_eq_false c71
                            clear c71
                            have H' := Aside0.mk H
                            clear H
                            have hnb75 := NB124_125.out
                            have hnc75 := NB125_124.out
                            have hnb76 := NB124_135.out
                            have hnc76 := NB135_124.out
                            obtain ⟨hcz77_0, hcz77_1, hcz77_2, hcz77_3, hfz77_0, hfz77_1, hfz77_2, hfz77_3⟩ := cellsF4 BK124.out
                            have p145 : 0 ≤ (x12_3 : Int) := of_decide_eq_true as_
                            have q145 : x12_3 < (l0_3.length : Int) := of_decide_eq_true as_
                            obtain ⟨ad145, e145, hx145_0, hx145_1, hx145_2⟩ := at_T62 HR0_3.out x12_3 p145 q145
                            cases e145
                            replace hx145_0 := (HB.out.cell (World.block_lt_of_cell? _ _ hx145_0)).trans hx145_0
                            replace hx145_1 := (HB.out.cell (World.block_lt_of_cell? _ _ hx145_1)).trans hx145_1
                            replace hx145_2 := (HB.out.cell (World.block_lt_of_cell? _ _ hx145_2)).trans hx145_2
                            replace p145 := eq_true p145
                            replace q145 := eq_true q145
                            go_wp2
                            go_meet
                            case rel => exact ⟨_, (false), er_, H', ⟨au4_19⟩, ⟨rk_ HO_10⟩, ⟨rk_ HO_136003⟩, ⟨bk_ BK124⟩, ⟨bk_ BK125⟩, ⟨bk_ BK135⟩, ⟨bl_⟩⟩
                        · rw [if_neg c70] at H
                          exact absurd H (by simp)
                      case rest =>
                        clear HC66
                        try clear c1
                        try clear p1
                        try clear q1
                        try clear hx1
                        try clear c2
                        try clear p2
                        try clear c3
                        try clear c4
                        try clear c5
                        try clear c6
                        try clear p6
                        try clear c7
                        try clear c8
                        try clear c10
                        try clear c11
                        try clear c11b0
                        try clear c12
                        try clear p13
                        try clear q13
                        try clear hx13
                        try clear p14
                        try clear q14
                        try clear hx14
                        try clear c15
                        try clear c18
                        try clear c21
                        try clear c24
                        try clear c25
                        try clear c30
                        try clear c37
                        try clear c38
                        try clear c40
                        try clear c40b0
                        try clear c40b1
                        try clear c42
                        try clear c42b0
                        try clear c43
                        try clear c43b0
                        try clear c44
                        try clear c50
                        try clear c50b0
                        try clear c50b1
                        try clear c51
                        try clear c51b0
                        try clear c51b1
                        try clear c52
                        try clear c53
                        try clear c55
                        try clear c58
                        try clear c59
                        try clear c61
                        try clear p64
                        try clear c65
                        try clear c65b0
                        try clear c67
                        try clear c68
                        try clear c70
                        try clear c70b0
                        try clear c71
                        try clear c71b0
                        try clear c72
                        try clear c73
                        try clear c75
                        try clear c76
                        try clear hcz13_0
                        try clear hcz13_1
                        try clear hcz13_2
                        try clear hcz13_3
                        try clear hcz16_0
                        try clear hcz16_1
                        try clear hcz16_2
                        try clear hcz16_3
                        try clear hcz19_0
                        try clear hcz19_1
                        try clear hcz19_2
                        try clear hcz19_3
                        try clear hcz22_0
                        try clear hcz22_1
                        try clear hcz22_2
                        try clear hcz22_3
                        try clear hcz26_0
                        try clear hcz26_1
                        try clear hcz26_2
                        try clear hcz26_3
                        try clear hcz26_4
                        try clear hcz26_5
                        try clear hcz26_6
                        try clear hcz26_7
                        try clear hcz26_8
                        try clear hcz31_0
                        try clear hcz31_1
                        try clear hcz31_2
                        try clear hcz31_3
                        try clear hcz33_0
                        try clear hcz33_1
                        try clear hcz33_2
                        try clear hcz33_3
                        try clear hcz39_0
                        try clear hcz39_1
                        try clear hcz39_2
                        try clear hcz39_3
                        try clear hcz39_4
                        try clear hcz39_5
                        try clear hcz39_6
                        try clear hcz39_7
                        try clear hcz39_8
                        try clear hcz54_0
                        try clear hcz54_1
                        try clear hcz54_2
                        try clear hcz54_3
                        try clear hcz56_0
                        try clear hcz56_1
                        try clear hcz56_2
                        try clear hcz56_3
                        try clear hcz56_4
                        try clear hcz56_5
                        try clear hcz56_6
                        try clear hcz56_7
                        try clear hcz56_8
                        try clear hcz60_0
                        try clear hcz60_1
                        try clear hcz60_2
                        try clear hcz60_3
                        try clear hcz62_0
                        try clear hcz62_1
                        try clear hcz62_2
                        try clear hcz62_3
                        try clear hcz62_4
                        try clear hcz62_5
                        try clear hcz62_6
                        try clear hcz62_7
                        try clear hcz62_8
                        try clear hcz69_0
                        try clear hcz69_1
                        try clear hcz69_2
                        try clear hcz69_3
                        try clear hcz74_0
                        try clear hcz74_1
                        try clear hcz74_2
                        try clear hcz74_3
                        try clear hcz77_0
                        try clear hcz77_1
                        try clear hcz77_2
                        try clear hcz77_3
                        try clear hfz13_0
                        try clear hfz13_1
                        try clear hfz13_2
                        try clear hfz13_3
                        try clear hfz16_0
                        try clear hfz16_1
                        try clear hfz16_2
                        try clear hfz16_3
                        try clear hfz19_0
                        try clear hfz19_1
                        try clear hfz19_2
                        try clear hfz19_3
                        try clear hfz22_0
                        try clear hfz22_1
                        try clear hfz22_2
                        try clear hfz22_3
                        try clear hfz26_0
                        try clear hfz26_1
                        try clear hfz26_2
                        try clear hfz26_3
                        try clear hfz26_4
                        try clear hfz26_5
                        try clear hfz26_6
                        try clear hfz26_7
                        try clear hfz26_8
                        try clear hfz31_0
                        try clear hfz31_1
                        try clear hfz31_2
                        try clear hfz31_3
                        try clear hfz33_0
                        try clear hfz33_1
                        try clear hfz33_2
                        try clear hfz33_3
                        try clear hfz39_0
                        try clear hfz39_1
                        try clear hfz39_2
                        try clear hfz39_3
                        try clear hfz39_4
                        try clear hfz39_5
                        try clear hfz39_6
                        try clear hfz39_7
                        try clear hfz39_8
                        try clear hfz54_0
                        try clear hfz54_1
                        try clear hfz54_2
                        try clear hfz54_3
                        try clear hfz56_0
                        try clear hfz56_1
                        try clear hfz56_2
                        try clear hfz56_3
                        try clear hfz56_4
                        try clear hfz56_5
                        try clear hfz56_6
                        try clear hfz56_7
                        try clear hfz56_8
                        try clear hfz60_0
                        try clear hfz60_1
                        try clear hfz60_2
                        try clear hfz60_3
                        try clear hfz62_0
                        try clear hfz62_1
                        try clear hfz62_2
                        try clear hfz62_3
                        try clear hfz62_4
                        try clear hfz62_5
                        try clear hfz62_6
                        try clear hfz62_7
                        try clear hfz62_8
                        try clear hfz69_0
                        try clear hfz69_1
                        try clear hfz69_2
                        try clear hfz69_3
                        try clear hfz74_0
                        try clear hfz74_1
                        try clear hfz74_2
                        try clear hfz74_3
                        try clear hfz77_0
                        try clear hfz77_1
                        try clear hfz77_2
                        try clear hfz77_3
                        try clear hx137_0
                        try clear hx137_1
                        try clear hx137_2
                        try clear hx145_0
                        try clear hx145_1
                        try clear hx145_2
                        try clear p1
                        try clear p13
                        try clear p137
                        try clear p145
                        try clear p2
                        try clear p6
                        try clear p64
                        try clear q1
                        try clear q13
                        try clear q137
                        try clear q145
                        obtain ⟨kq, x85_65, rfl, HA, HJ65, HO_10, HO_136003, BK124, BK125, BK135, HB⟩ := hcut
                        cases kq with
                        | zero => exact absurd HA.out (by simp [spec_PartnerTake.j3])
                        | succ kj65 =>
                          have H := HA.out
                          clear HA
                          simp only [spec_PartnerTake.j3] at H
                          by_cases c78 : x85_65 = true
                          · subst c78
                            have H1 : (if x10_3.length < 5864062014805 then ((some (x10_3 ++ [(⟨a1, a0_2, a2⟩ : S62)] : List (S62))).bind fun y146 => (if 0 ≤ x12_3 then (if x12_3 < (l0_3.length : Int) then (if ((rd_T62 l0_3 x12_3).f0) ≥ t138 then (if y146.length < 5864062014805 then (spec_PartnerTake.l0 kj65 a1 t138 (y146 ++ [(⟨(rd_T62 l0_3 x12_3).f0, (rd_T62 l0_3 x12_3).f1, (rd_T62 l0_3 x12_3).f2⟩ : S62)]) true (wrap64 (x12_3 + 1)) a0_0 a0_1 a0_2 l0_3 t129 t130 t131 t132 t128 a1 a0_2 a2 0) else (none)) else (spec_PartnerTake.l0 kj65 a1 t138 y146 true (wrap64 (x12_3 + 1)) a0_0 a0_1 a0_2 l0_3 t129 t130 t131 t132 t128 a1 a0_2 a2 0)) else (none)) else (none))) else (none)) = some (r1, r2, r3, r4, r5, r6, r7, r8, r9) := by rw [if_pos rfl] at H; exact H
                            clear H
                            have H := H1
                            clear H1
                            by_cases c79 : x10_3.length < 5864062014805
                            · rw [if_pos c79] at H
                              have LMc79 := Aside0.mk c79
                              clear c79
                              obtain ⟨y146, hy146⟩ : ∃ y_ : List (S62), y_ = (x10_3 ++ [(⟨a1, a0_2, a2⟩ : S62)]) := ⟨_, rfl⟩
                              replace H : (if 0 ≤ x12_3 then (if x12_3 < (l0_3.length : Int) then (if ((rd_T62 l0_3 x12_3).f0) ≥ t138 then (if y146.length < 5864062014805 then (spec_PartnerTake.l0 kj65 a1 t138 (y146 ++ [(⟨(rd_T62 l0_3 x12_3).f0, (rd_T62 l0_3 x12_3).f1, (rd_T62 l0_3 x12_3).f2⟩ : S62)]) true (wrap64 (x12_3 + 1)) a0_0 a0_1 a0_2 l0_3 t129 t130 t131 t132 t128 a1 a0_2 a2 0) else (none)) else (spec_PartnerTake.l0 kj65 a1 t138 y146 true (wrap64 (x12_3 + 1)) a0_0 a0_1 a0_2 l0_3 t129 t130 t131 t132 t128 a1 a0_2 a2 0)) else (none)) else (none)) = some (r1, r2, r3, r4, r5, r6, r7, r8, r9) := by first | (rw [hy146]; with_reducible exact H) | (have H2_ := (Option.bind_some _ _).symm.trans H; rw [hy146]; with_reducible exact H2_) | (have H2_ := (Option.bind_some _ _).symm.trans H; with_reducible exact H2_) | with_reducible exact H | (rw [hy146]; exact H) | exact H
                              have Ny146 := Aside0.mk hy146
                              clear hy146
                              by_cases c80 : 0 ≤ x12_3
                              · rw [if_pos c80] at H
                                have c80b0 : decide (0 ≤ x12_3) = true := decide_eq_true c80
                                clear c80
                                by_cases c81 : x12_3 < (l0_3.length : Int)
                                · rw [if_pos c81] at H
                                  have c81b0 : decide (x12_3 < (l0_3.length : Int)) = true := decide_eq_true c81
                                  clear c81
                                  by_cases c82 : ((rd_T62 l0_3 x12_3).f0) ≥ t138
                                  · rw [if_pos c82] at H
                                    have c82b0 : decide (t138 ≤ ((rd_T62 l0_3 x12_3).f0)) = true := decide_eq_true c82
                                    clear c82
                                    by_cases c83 : y146.length < 5864062014805
                                    · rw [if_pos c83] at H
                                      have LMc83 := Aside0.mk c83
                                      clear c83
                                      obtain ⟨y151, hy151⟩ : ∃ y_ : List (S62), y_ = (y146 ++ [(⟨(rd_T62 l0_3 x12_3).f0, (rd_T62 l0_3 x12_3).f1, (rd_T62 l0_3 x12_3).f2⟩ : S62)]) := ⟨_, rfl⟩
                                      replace H : (spec_PartnerTake.l0 kj65 a1 t138 y151 true (wrap64 (x12_3 + 1)) a0_0 a0_1 a0_2 l0_3 t129 t130 t131 t132 t128 a1 a0_2 a2 0) = some (r1, r2, r3, r4, r5, r6, r7, r8, r9) := by first | (rw [hy151]; with_reducible exact H) | (have H2_ := (Option.bind_some _ _).symm.trans H; rw [hy151]; with_reducible exact H2_) | (have H2_ := (Option.bind_some _ _).symm.trans H; with_reducible exact H2_) | with_reducible exact H | (rw [hy151]; exact H) | exact H
                                      have Ny151 := Aside0.mk hy151
                                      clear hy151
                                      have H' := Aside0.mk H
                                      clear H
                                      have hnb84 := NB135_124.out
                                      have hnc84 := NB124_135.out
                                      have hnb85 := NB135_125.out
                                      have hnc85 := NB125_135.out
                                      obtain ⟨hcz86_0, hcz86_1, hcz86_2, hcz86_3, hcz86_4, hcz86_5, hcz86_6, hcz86_7, hcz86_8, hfz86_0, hfz86_1, hfz86_2, hfz86_3, hfz86_4, hfz86_5, hfz86_6, hfz86_7, hfz86_8⟩ := cellsF9 BK135.out
                                      go_wp2_with (first | ((with_reducible refine gate_builtin (b := .append) (xs := #[.tmp 86, .tmp 89]) rfl ?_); at_builtin; refine Kd.R_append k62 (w0 := w) w.heap.size rfl (.tmp 86) (.tmp 89) 49 62 (.agg #[(.int .i64 0), (.int .i64 0), (.int .i64 0)]) 24 rfl Try.underlying49 info62 rfl (by decide) (by omega) u10 x10_3 (⟨a1, a0_2, a2⟩ : S62) [.int .i64 a1, .int .i64 a0_2, .int .i64 a2] (fun k_ => some k_ ≠ (.slice Ao35 t132.length co35 : Value).ownBlock) (fun _ => False) rfl rfl ?aP (fun _ hk => hk.elim) ?aF ?aO ?aB ?aS ?aL ?_; (case aP => exact au4_20); (case aB => exact bl_); (case aF => exact au4_13); (case aO => exact (rk_ HO_10)); (case aS => exact (below_size bl_)); (case aL => have := LMc79.out; omega); intro v147 w87 ho hb hg hat; rw [← Ny146.out] at ho; have n0_ := Aside0.mk (Kd.R_after (ok := (fun _ => True)) au4_9 hg hat); have n1_ := Aside0.mk (blk_grown (g := gb124) (o := .cells #[.string a0_0, .int .i64 a0_1, .int .i64 a0_2, .slice A0_3 l0_3.length c0_3] 51 (0, 0)) (bk_ BK124) hg (Kd.R_ne HO_10.out BK124.out (by decide))); have n2_ := Aside0.mk (blk_grown (g := gb125) (o := .cells #[.string (⟨#[]⟩ : ByteArray), .int .i64 0, .int .i64 0, .slice none 0 0, .int .i64 0, .int .i64 0, .int .i64 0, .int .i64 0, .int .i64 0] 64 (0, 0)) (bk_ BK125) hg (Kd.R_ne HO_10.out BK125.out (by decide))); have n3_ := Aside0.mk (blk_grown (g := gb135) (o := .cells #[.string t129, .int .i64 t130, .int .i64 t131, .slice Ao35 t132.length co35, .int .i64 t128, .int .i64 a1, .int .i64 a0_2, .int .i64 a2, .int .i64 0] 64 (0, 0)) (bk_ BK135) hg (Kd.R_ne HO_10.out BK135.out (by decide))); have n4_ := Aside0.mk (hb); have n5_ := Aside0.mk (ho); clear HO_136003; clear BK124; clear BK125; clear BK135; clear HB; clear HO_10; have HO_136003 := n0_; have BK124 := n1_; have BK125 := n2_; have BK135 := n3_; have HB := n4_; have HO148 := n5_; clear n0_ n1_ n2_ n3_ n4_ n5_; clear ho hb hg hat; have hnb88 := NB124_125.out; have hnc88 := NB125_124.out; obtain ⟨hcz89_0, hcz89_1, hcz89_2, hcz89_3, hfz89_0, hfz89_1, hfz89_2, hfz89_3⟩ := cellsF4 BK124.out; have p149 : 0 ≤ (x12_3 : Int) := of_decide_eq_true as_; have q149 : x12_3 < (l0_3.length : Int) := of_decide_eq_true as_; obtain ⟨ad149, e149, hx149_0, hx149_1, hx149_2⟩ := at_T62 HR0_3.out x12_3 p149 q149; cases e149; replace hx149_0 := (HB.out.cell (World.block_lt_of_cell? _ _ hx149_0)).trans hx149_0; replace hx149_1 := (HB.out.cell (World.block_lt_of_cell? _ _ hx149_1)).trans hx149_1; replace hx149_2 := (HB.out.cell (World.block_lt_of_cell? _ _ hx149_2)).trans hx149_2; replace p149 := eq_true p149; replace q149 := eq_true q149; have p150 : 0 ≤ (x12_3 : Int) := of_decide_eq_true as_; have q150 : x12_3 < (l0_3.length : Int) := of_decide_eq_true as_; obtain ⟨ad150, e150, hx150_0, hx150_1, hx150_2⟩ := at_T62 HR0_3.out x12_3 p150 q150; obtain rfl : ad149 = ad150 := (by injection e150); replace hx150_0 := (HB.out.cell (World.block_lt_of_cell? _ _ hx150_0)).trans hx150_0; replace hx150_1 := (HB.out.cell (World.block_lt_of_cell? _ _ hx150_1)).trans hx150_1; replace hx150_2 := (HB.out.cell (World.block_lt_of_cell? _ _ hx150_2)).trans hx150_2; replace p150 := eq_true p150; replace q150 := eq_true q150) | ((with_reducible refine gate_builtin (b := .append) (xs := #[.tmp 99, .tmp 105]) rfl ?_); at_builtin; refine Kd.R_append k62 (w0 := w) w.heap.size rfl (.tmp 99) (.tmp 105) 49 62 (.agg #[(.int .i64 0), (.int .i64 0), (.int .i64 0)]) 24 rfl Try.underlying49 info62 rfl (by decide) (by omega) v147 y146 (⟨(rd_T62 l0_3 x12_3).f0, (rd_T62 l0_3 x12_3).f1, (rd_T62 l0_3 x12_3).f2⟩ : S62) [.int .i64 ((rd_T62 l0_3 x12_3).f0), .int .i64 ((rd_T62 l0_3 x12_3).f1), .int .i64 ((rd_T62 l0_3 x12_3).f2)] (fun k_ => some k_ ≠ (.slice Ao35 t132.length co35 : Value).ownBlock) (fun _ => False) rfl rfl ?aP (fun _ hk => hk.elim) ?aF ?aO ?aB ?aS ?aL ?_; (case aP => exact au4_17); (case aB => exact bl_); (case aF => exact au4_13); (case aO => exact (rk_ HO148)); (case aS => exact (below_size bl_)); (case aL => have := LMc83.out; omega); intro v152 w90 ho hb hg hat; rw [← Ny151.out] at ho; have n0_ := Aside0.mk (Kd.R_after (ok := (fun _ => True)) (rk_ HO_136003) hg hat); have n1_ := Aside0.mk (blk_grown (g := gb124) (o := .cells #[.string a0_0, .int .i64 a0_1, .int .i64 a0_2, .slice (some ad149) l0_3.length c0_3] 51 (0, 0)) (bk_ BK124) hg (Kd.R_ne HO148.out BK124.out (by decide))); have n2_ := Aside0.mk (blk_grown (g := gb125) (o := .cells #[.string (⟨#[]⟩ : ByteArray), .int .i64 0, .int .i64 0, .slice none 0 0, .int .i64 0, .int .i64 0, .int .i64 0, .int .i64 0, .int .i64 0] 64 (0, 0)) (bk_ BK125) hg (Kd.R_ne HO148.out BK125.out (by decide))); have n3_ := Aside0.mk (blk_grown (g := gb135) (o := .cells #[.string t129, .int .i64 t130, .int .i64 t131, .slice Ao35 t132.length co35, .int .i64 t128, .int .i64 a1, .int .i64 a0_2, .int .i64 a2, .int .i64 0] 64 (0, 0)) (bk_ BK135) hg (Kd.R_ne HO148.out BK135.out (by decide))); have n4_ := Aside0.mk (hb); have n5_ := Aside0.mk (ho); clear HO_136003; clear BK124; clear BK125; clear BK135; clear HB; clear HO148; have HO_136003 := n0_; have BK124 := n1_; have BK125 := n2_; have BK135 := n3_; have HB := n4_; have HO153 := n5_; clear n0_ n1_ n2_ n3_ n4_ n5_; clear ho hb hg hat))
                                      go_roundg kj65
                                      case measure => have := HJ3.out; have := HJ28.out; have := HK3.out; have := HJ65.out; omega
                                      case rel => exact ⟨(y151), (true), (wrap64 (x12_3 + 1)), er_, er_, H', ⟨au4_14⟩, ⟨rk_ HO153⟩, ⟨au4_10⟩, ⟨bk_ BK124⟩, ⟨bk_ BK125⟩, ⟨bk_ BK135⟩, ⟨bl_⟩⟩
                                    · rw [if_neg c83] at H
                                      exact absurd H (by simp)
                                  · rw [if_neg c82] at H
                                    have c82b0 : decide (t138 ≤ ((rd_T62 l0_3 x12_3).f0)) = false := decide_eq_false c82
                                    clear c82
                                    have H' := Aside0.mk H
                                    clear H
                                    have hnb91 := NB135_124.out
                                    have hnc91 := NB124_135.out
                                    have hnb92 := NB135_125.out
                                    have hnc92 := NB125_135.out
                                    obtain ⟨hcz93_0, hcz93_1, hcz93_2, hcz93_3, hcz93_4, hcz93_5, hcz93_6, hcz93_7, hcz93_8, hfz93_0, hfz93_1, hfz93_2, hfz93_3, hfz93_4, hfz93_5, hfz93_6, hfz93_7, hfz93_8⟩ := cellsF9 BK135.out
                                    go_wp2_with (first | ((with_reducible refine gate_builtin (b := .append) (xs := #[.tmp 86, .tmp 89]) rfl ?_); at_builtin; refine Kd.R_append k62 (w0 := w) w.heap.size rfl (.tmp 86) (.tmp 89) 49 62 (.agg #[(.int .i64 0), (.int .i64 0), (.int .i64 0)]) 24 rfl Try.underlying49 info62 rfl (by decide) (by omega) u10 x10_3 (⟨a1, a0_2, a2⟩ : S62) [.int .i64 a1, .int .i64 a0_2, .int .i64 a2] (fun k_ => some k_ ≠ (.slice Ao35 t132.length co35 : Value).ownBlock) (fun _ => False) rfl rfl ?aP (fun _ hk => hk.elim) ?aF ?aO ?aB ?aS ?aL ?_; (case aP => exact au4_20); (case aB => exact bl_); (case aF => exact au4_13); (case aO => exact (rk_ HO_10)); (case aS => exact (below_size bl_)); (case aL => have := LMc79.out; omega); intro v147 w94 ho hb hg hat; rw [← Ny146.out] at ho; have n0_ := Aside0.mk (Kd.R_after (ok := (fun _ => True)) au4_9 hg hat); have n1_ := Aside0.mk (blk_grown (g := gb124) (o := .cells #[.string a0_0, .int .i64 a0_1, .int .i64 a0_2, .slice A0_3 l0_3.length c0_3] 51 (0, 0)) (bk_ BK124) hg (Kd.R_ne HO_10.out BK124.out (by decide))); have n2_ := Aside0.mk (blk_grown (g := gb125) (o := .cells #[.string (⟨#[]⟩ : ByteArray), .int .i64 0, .int .i64 0, .slice none 0 0, .int .i64 0, .int .i64 0, .int .i64 0, .int .i64 0, .int .i64 0] 64 (0, 0)) (bk_ BK125) hg (Kd.R_ne HO_10.out BK125.out (by decide))); have n3_ := Aside0.mk (blk_grown (g := gb135) (o := .cells #[.string t129, .int .i64 t130, .int .i64 t131, .slice Ao35 t132.length co35, .int .i64 t128, .int .i64 a1, .int .i64 a0_2, .int .i64 a2, .int .i64 0] 64 (0, 0)) (bk_ BK135) hg (Kd.R_ne HO_10.out BK135.out (by decide))); have n4_ := Aside0.mk (hb); have n5_ := Aside0.mk (ho); clear HO_136003; clear BK124; clear BK125; clear BK135; clear HB; clear HO_10; have HO_136003 := n0_; have BK124 := n1_; have BK125 := n2_; have BK135 := n3_; have HB := n4_; have HO148 := n5_; clear n0_ n1_ n2_ n3_ n4_ n5_; clear ho hb hg hat; have hnb95 := NB124_125.out; have hnc95 := NB125_124.out; obtain ⟨hcz96_0, hcz96_1, hcz96_2, hcz96_3, hfz96_0, hfz96_1, hfz96_2, hfz96_3⟩ := cellsF4 BK124.out; have p149 : 0 ≤ (x12_3 : Int) := of_decide_eq_true as_; have q149 : x12_3 < (l0_3.length : Int) := of_decide_eq_true as_; obtain ⟨ad149, e149, hx149_0, hx149_1, hx149_2⟩ := at_T62 HR0_3.out x12_3 p149 q149; cases e149; replace hx149_0 := (HB.out.cell (World.block_lt_of_cell? _ _ hx149_0)).trans hx149_0; replace hx149_1 := (HB.out.cell (World.block_lt_of_cell? _ _ hx149_1)).trans hx149_1; replace hx149_2 := (HB.out.cell (World.block_lt_of_cell? _ _ hx149_2)).trans hx149_2; replace p149 := eq_true p149; replace q149 := eq_true q149))
                                    go_roundg kj65
                                    case measure => have := HJ3.out; have := HJ28.out; have := HK3.out; have := HJ65.out; omega
                                    case rel => exact ⟨(y146), (true), (wrap64 (x12_3 + 1)), er_, er_, H', ⟨au4_14⟩, ⟨rk_ HO148⟩, ⟨au4_10⟩, ⟨bk_ BK124⟩, ⟨bk_ BK125⟩, ⟨bk_ BK135⟩, ⟨bl_⟩⟩
                                · rw [if_neg c81] at H
                                  exact absurd H (by simp)
                              · rw [if_neg c80] at H
                                exact absurd H (by simp)
                            · rw [if_neg c79] at H
                              exact absurd H (by simp)
                          · replace c78 := Bool.eq_false_iff.mpr c78
                            subst c78
                            have H1 : (if 0 ≤ x12_3 then (if x12_3 < (l0_3.length : Int) then (if ((rd_T62 l0_3 x12_3).f0) ≥ t138 then (if x10_3.length < 5864062014805 then (spec_PartnerTake.l0 kj65 a1 t138 (x10_3 ++ [(⟨(rd_T62 l0_3 x12_3).f0, (rd_T62 l0_3 x12_3).f1, (rd_T62 l0_3 x12_3).f2⟩ : S62)]) x11_3 (wrap64 (x12_3 + 1)) a0_0 a0_1 a0_2 l0_3 t129 t130 t131 t132 t128 a1 a0_2 a2 0) else (none)) else (spec_PartnerTake.l0 kj65 a1 t138 x10_3 x11_3 (wrap64 (x12_3 + 1)) a0_0 a0_1 a0_2 l0_3 t129 t130 t131 t132 t128 a1 a0_2 a2 0)) else (none)) else (none)) = some (r1, r2, r3, r4, r5, r6, r7, r8, r9) := by rw [if_neg (show ¬ (false = true) by decide)] at H; exact H
                            clear H
                            have H := H1
                            clear H1
                            by_cases c97 : 0 ≤ x12_3
                            · rw [if_pos c97] at H
                              have c97b0 : decide (0 ≤ x12_3) = true := decide_eq_true c97
                              clear c97
                              by_cases c98 : x12_3 < (l0_3.length : Int)
                              · rw [if_pos c98] at H
                                have c98b0 : decide (x12_3 < (l0_3.length : Int)) = true := decide_eq_true c98
                                clear c98
                                by_cases c99 : ((rd_T62 l0_3 x12_3).f0) ≥ t138
                                · rw [if_pos c99] at H
                                  have c99b0 : decide (t138 ≤ ((rd_T62 l0_3 x12_3).f0)) = true := decide_eq_true c99
                                  clear c99
                                  by_cases c100 : x10_3.length < 5864062014805
                                  · rw [if_pos c100] at H
                                    have LMc100 := Aside0.mk c100
                                    clear c100
                                    obtain ⟨y156, hy156⟩ : ∃ y_ : List (S62), y_ = (x10_3 ++ [(⟨(rd_T62 l0_3 x12_3).f0, (rd_T62 l0_3 x12_3).f1, (rd_T62 l0_3 x12_3).f2⟩ : S62)]) := ⟨_, rfl⟩
                                    replace H : (spec_PartnerTake.l0 kj65 a1 t138 y156 x11_3 (wrap64 (x12_3 + 1)) a0_0 a0_1 a0_2 l0_3 t129 t130 t131 t132 t128 a1 a0_2 a2 0) = some (r1, r2, r3, r4, r5, r6, r7, r8, r9) := by first | (rw [hy156]; with_reducible exact H) | (have H2_ := (Option.bind_some _ _).symm.trans H; rw [hy156]; with_reducible exact H2_) | (have H2_ := (Option.bind_some _ _).symm.trans H; with_reducible exact H2_) | with_reducible exact H | (rw [hy156]; exact H) | exact H
                                    have Ny156 := Aside0.mk hy156
                                    clear hy156
                                    have H' := Aside0.mk H
                                    clear H
                                    have hnb101 := NB124_125.out
                                    have hnc101 := NB125_124.out
                                    have hnb102 := NB124_135.out
                                    have hnc102 := NB135_124.out
                                    obtain ⟨hcz103_0, hcz103_1, hcz103_2, hcz103_3, hfz103_0, hfz103_1, hfz103_2, hfz103_3⟩ := cellsF4 BK124.out
                                    have p154 : 0 ≤ (x12_3 : Int) := of_decide_eq_true as_
                                    have q154 : x12_3 < (l0_3.length : Int) := of_decide_eq_true as_
                                    obtain ⟨ad154, e154, hx154_0, hx154_1, hx154_2⟩ := at_T62 HR0_3.out x12_3 p154 q154
                                    cases e154
                                    replace hx154_0 := (HB.out.cell (World.block_lt_of_cell? _ _ hx154_0)).trans hx154_0
                                    replace hx154_1 := (HB.out.cell (World.block_lt_of_cell? _ _ hx154_1)).trans hx154_1
                                    replace hx154_2 := (HB.out.cell (World.block_lt_of_cell? _ _ hx154_2)).trans hx154_2
                                    replace p154 := eq_true p154
                                    replace q154 := eq_true q154
                                    have p155 : 0 ≤ (x12_3 : Int) := of_decide_eq_true as_
                                    have q155 : x12_3 < (l0_3.length : Int) := of_decide_eq_true as_
                                    obtain ⟨ad155, e155, hx155_0, hx155_1, hx155_2⟩ := at_T62 HR0_3.out x12_3 p155 q155
                                    obtain rfl : ad154 = ad155 := (by injection e155)
                                    replace hx155_0 := (HB.out.cell (World.block_lt_of_cell? _ _ hx155_0)).trans hx155_0
                                    replace hx155_1 := (HB.out.cell (World.block_lt_of_cell? _ _ hx155_1)).trans hx155_1
                                    replace hx155_2 := (HB.out.cell (World.block_lt_of_cell? _ _ hx155_2)).trans hx155_2
                                    replace p155 := eq_true p155
                                    replace q155 := eq_true q155
                                    go_wp2_with (first | ((with_reducible refine gate_builtin (b := .append) (xs := #[.tmp 99, .tmp 105]) rfl ?_); at_builtin; refine Kd.R_append k62 (w0 := w) w.heap.size rfl (.tmp 99) (.tmp 105) 49 62 (.agg #[(.int .i64 0), (.int .i64 0), (.int .i64 0)]) 24 rfl Try.underlying49 info62 rfl (by decide) (by omega) u10 x10_3 (⟨(rd_T62 l0_3 x12_3).f0, (rd_T62 l0_3 x12_3).f1, (rd_T62 l0_3 x12_3).f2⟩ : S62) [.int .i64 ((rd_T62 l0_3 x12_3).f0), .int .i64 ((rd_T62 l0_3 x12_3).f1), .int .i64 ((rd_T62 l0_3 x12_3).f2)] (fun k_ => some k_ ≠ (.slice Ao35 t132.length co35 : Value).ownBlock) (fun _ => False) rfl rfl ?aP (fun _ hk => hk.elim) ?aF ?aO ?aB ?aS ?aL ?_; (case aP => exact au4_17); (case aB => exact bl_); (case aF => exact au4_13); (case aO => exact (rk_ HO_10)); (case aS => exact (below_size bl_)); (case aL => have := LMc100.out; omega); intro v157 w104 ho hb hg hat; rw [← Ny156.out] at ho; have n0_ := Aside0.mk (Kd.R_after (ok := (fun _ => True)) au4_9 hg hat); have n1_ := Aside0.mk (blk_grown (g := gb124) (o := .cells #[.string a0_0, .int .i64 a0_1, .int .i64 a0_2, .slice (some ad154) l0_3.length c0_3] 51 (0, 0)) (bk_ BK124) hg (Kd.R_ne HO_10.out BK124.out (by decide))); have n2_ := Aside0.mk (blk_grown (g := gb125) (o := .cells #[.string (⟨#[]⟩ : ByteArray), .int .i64 0, .int .i64 0, .slice none 0 0, .int .i64 0, .int .i64 0, .int .i64 0, .int .i64 0, .int .i64 0] 64 (0, 0)) (bk_ BK125) hg (Kd.R_ne HO_10.out BK125.out (by decide))); have n3_ := Aside0.mk (blk_grown (g := gb135) (o := .cells #[.string t129, .int .i64 t130, .int .i64 t131, .slice Ao35 t132.length co35, .int .i64 t128, .int .i64 a1, .int .i64 a0_2, .int .i64 a2, .int .i64 0] 64 (0, 0)) (bk_ BK135) hg (Kd.R_ne HO_10.out BK135.out (by decide))); have n4_ := Aside0.mk (hb); have n5_ := Aside0.mk (ho); clear HO_136003; clear BK124; clear BK125; clear BK135; clear HB; clear HO_10; have HO_136003 := n0_; have BK124 := n1_; have BK125 := n2_; have BK135 := n3_; have HB := n4_; have HO158 := n5_; clear n0_ n1_ n2_ n3_ n4_ n5_; clear ho hb hg hat))
                                    go_roundg kj65
                                    case measure => have := HJ3.out; have := HJ28.out; have := HK3.out; have := HJ65.out; omega
                                    case rel => exact ⟨(y156), (x11_3), (wrap64 (x12_3 + 1)), er_, er_, H', ⟨au4_14⟩, ⟨rk_ HO158⟩, ⟨au4_10⟩, ⟨bk_ BK124⟩, ⟨bk_ BK125⟩, ⟨bk_ BK135⟩, ⟨bl_⟩⟩
                                  · rw [if_neg c100] at H
                                    exact absurd H (by simp)
                                · rw [if_neg c99] at H
                                  have c99b0 : decide (t138 ≤ ((rd_T62 l0_3 x12_3).f0)) = false := decide_eq_false c99
                                  clear c99
                                  have H' := Aside0.mk H
                                  clear H
                                  have hnb105 := NB124_125.out
                                  have hnc105 := NB125_124.out
                                  have hnb106 := NB124_135.out
                                  have hnc106 := NB135_124.out
                                  obtain ⟨hcz107_0, hcz107_1, hcz107_2, hcz107_3, hfz107_0, hfz107_1, hfz107_2, hfz107_3⟩ := cellsF4 BK124.out
                                  have p154 : 0 ≤ (x12_3 : Int) := of_decide_eq_true as_
                                  have q154 : x12_3 < (l0_3.length : Int) := of_decide_eq_true as_
                                  obtain ⟨ad154, e154, hx154_0, hx154_1, hx154_2⟩ := at_T62 HR0_3.out x12_3 p154 q154
                                  cases e154
                                  replace hx154_0 := (HB.out.cell (World.block_lt_of_cell? _ _ hx154_0)).trans hx154_0
                                  replace hx154_1 := (HB.out.cell (World.block_lt_of_cell? _ _ hx154_1)).trans hx154_1
                                  replace hx154_2 := (HB.out.cell (World.block_lt_of_cell? _ _ hx154_2)).trans hx154_2
                                  replace p154 := eq_true p154
                                  replace q154 := eq_true q154
                                  go_wp2
                                  go_roundg kj65
                                  case measure => have := HJ3.out; have := HJ28.out; have := HK3.out; have := HJ65.out; omega
                                  case rel => exact ⟨(x10_3), (x11_3), (wrap64 (x12_3 + 1)), er_, er_, H', ⟨au4_14⟩, ⟨rk_ HO_10⟩, ⟨rk_ HO_136003⟩, ⟨bk_ BK124⟩, ⟨bk_ BK125⟩, ⟨bk_ BK135⟩, ⟨bl_⟩⟩
                              · rw [if_neg c98] at H
                                exact absurd H (by simp)
                            · rw [if_neg c97] at H
                              exact absurd H (by simp)
                    · rw [if_neg c65] at H
                      have c65b0 : decide (x12_3 < (l0_3.length : Int)) = false := decide_eq_false c65
                      clear c65
                      by_cases c108 : x11_3 = true
                      · subst c108
                        have H1 : (some (t129, t138, wrap64 (a0_2 + 1), x10_3, t128, a1, a0_2, a2, 0)) = some (r1, r2, r3, r4, r5, r6, r7, r8, r9) := by rw [if_pos rfl] at H; exact H
                        clear H
                        have H := H1
                        clear H1
                        simp only [Option.some.injEq, Prod.mk.injEq] at H
                        obtain ⟨rfl, rfl, rfl, rfl, rfl, rfl, rfl, rfl, rfl⟩ := H
                        have hnb109 := NB124_125.out
                        have hnc109 := NB125_124.out
                        have hnb110 := NB124_135.out
                        have hnc110 := NB135_124.out
                        obtain ⟨hcz111_0, hcz111_1, hcz111_2, hcz111_3, hfz111_0, hfz111_1, hfz111_2, hfz111_3⟩ := cellsF4 BK124.out
                        obtain ⟨Ao112, co112, eo112⟩ := Kd.R_slice HO_10.out
                        subst eo112
                        have hnb113 := NB135_125.out
                        have hnc113 := NB125_135.out
                        obtain ⟨hcz114_0, hcz114_1, hcz114_2, hcz114_3, hcz114_4, hcz114_5, hcz114_6, hcz114_7, hcz114_8, hfz114_0, hfz114_1, hfz114_2, hfz114_3, hfz114_4, hfz114_5, hfz114_6, hfz114_7, hfz114_8⟩ := cellsF9 BK135.out
                        obtain ⟨hcz115_0, hcz115_1, hcz115_2, hcz115_3, hcz115_4, hcz115_5, hcz115_6, hcz115_7, hcz115_8, hfz115_0, hfz115_1, hfz115_2, hfz115_3, hfz115_4, hfz115_5, hfz115_6, hfz115_7, hfz115_8⟩ := cellsF9 BK125.out
                        go_wp2
                        refine bodyPost_ret (results_cell_row rfl _ _ gb125 64 #[.string t129, .int .i64 t138, .int .i64 (wrap64 (a0_2 + 1)), .slice Ao112 x10_3.length co112, .int .i64 t128, .int .i64 a1, .int .i64 a0_2, .int .i64 a2, .int .i64 0] (0, 0) _ rfl (by (with_reducible repeat (first | refine blk_drewN ?_ _ | refine blk_drew ?_ | refine blk_alloc ?_ _)); refine blk_put (cs := #[.string t129, .int .i64 t138, .int .i64 (wrap64 (a0_2 + 1)), .slice Ao112 x10_3.length co112, .int .i64 t128, .int .i64 a1, .int .i64 a0_2, .int .i64 a2, .int .i64 0]) ?_ 8 _ rfl; (with_reducible repeat (first | refine blk_drewN ?_ _ | refine blk_drew ?_ | refine blk_alloc ?_ _)); refine blk_put (cs := #[.string t129, .int .i64 t138, .int .i64 (wrap64 (a0_2 + 1)), .slice Ao112 x10_3.length co112, .int .i64 t128, .int .i64 a1, .int .i64 a0_2, .int .i64 0, .int .i64 0]) ?_ 7 _ rfl; (with_reducible repeat (first | refine blk_drewN ?_ _ | refine blk_drew ?_ | refine blk_alloc ?_ _)); refine blk_put (cs := #[.string t129, .int .i64 t138, .int .i64 (wrap64 (a0_2 + 1)), .slice Ao112 x10_3.length co112, .int .i64 t128, .int .i64 a1, .int .i64 0, .int .i64 0, .int .i64 0]) ?_ 6 _ rfl; (with_reducible repeat (first | refine blk_drewN ?_ _ | refine blk_drew ?_ | refine blk_alloc ?_ _)); refine blk_put (cs := #[.string t129, .int .i64 t138, .int .i64 (wrap64 (a0_2 + 1)), .slice Ao112 x10_3.length co112, .int .i64 t128, .int .i64 0, .int .i64 0, .int .i64 0, .int .i64 0]) ?_ 5 _ rfl; (with_reducible repeat (first | refine blk_drewN ?_ _ | refine blk_drew ?_ | refine blk_alloc ?_ _)); refine blk_put (cs := #[.string t129, .int .i64 t138, .int .i64 (wrap64 (a0_2 + 1)), .slice Ao112 x10_3.length co112, .int .i64 0, .int .i64 0, .int .i64 0, .int .i64 0, .int .i64 0]) ?_ 4 _ rfl; (with_reducible repeat (first | refine blk_drewN ?_ _ | refine blk_drew ?_ | refine blk_alloc ?_ _)); refine blk_put (cs := #[.string t129, .int .i64 t138, .int .i64 (wrap64 (a0_2 + 1)), .slice none 0 0, .int .i64 0, .int .i64 0, .int .i64 0, .int .i64 0, .int .i64 0]) ?_ 3 _ rfl; (with_reducible repeat (first | refine blk_drewN ?_ _ | refine blk_drew ?_ | refine blk_alloc ?_ _)); refine blk_put (cs := #[.string t129, .int .i64 t138, .int .i64 0, .slice none 0 0, .int .i64 0, .int .i64 0, .int .i64 0, .int .i64 0, .int .i64 0]) ?_ 2 _ rfl; (with_reducible repeat (first | refine blk_drewN ?_ _ | refine blk_drew ?_ | refine blk_alloc ?_ _)); refine blk_put (cs := #[.string t129, .int .i64 0, .int .i64 0, .slice none 0 0, .int .i64 0, .int .i64 0, .int .i64 0, .int .i64 0, .int .i64 0]) ?_ 1 _ rfl; (with_reducible repeat (first | refine blk_drewN ?_ _ | refine blk_drew ?_ | refine blk_alloc ?_ _)); refine blk_put (cs := #[.string (⟨#[]⟩ : ByteArray), .int .i64 0, .int .i64 0, .slice none 0 0, .int .i64 0, .int .i64 0, .int .i64 0, .int .i64 0, .int .i64 0]) ?_ 0 _ rfl; (with_reducible repeat (first | refine blk_drewN ?_ _ | refine blk_drew ?_ | refine blk_alloc ?_ _)); refine blk_far ?_ NB125_135.out _; (with_reducible repeat (first | refine blk_drewN ?_ _ | refine blk_drew ?_ | refine blk_alloc ?_ _)); refine blk_far ?_ NB125_135.out _; (with_reducible repeat (first | refine blk_drewN ?_ _ | refine blk_drew ?_ | refine blk_alloc ?_ _)); refine blk_far ?_ NB125_135.out _; (with_reducible repeat (first | refine blk_drewN ?_ _ | refine blk_drew ?_ | refine blk_alloc ?_ _)); exact BK125.out) Try.underlying64 rfl (by kernel_rfl)) rfl ?_
                        exact ⟨_, au4_12, by (with_reducible repeat (first | apply Kd.R_alloc | apply Kd.R_drewN | apply Kd.R_drew)); exact Kd.R_mono (Kd.R_far (p := ⟨gb125, 8, none⟩) (Kd.R_far (p := ⟨gb125, 7, none⟩) (Kd.R_far (p := ⟨gb125, 6, none⟩) (Kd.R_far (p := ⟨gb125, 5, none⟩) (Kd.R_far (p := ⟨gb125, 4, none⟩) (Kd.R_far (p := ⟨gb125, 3, none⟩) (Kd.R_far (p := ⟨gb125, 2, none⟩) (Kd.R_far (p := ⟨gb125, 1, none⟩) (Kd.R_far (p := ⟨gb125, 0, none⟩) (Kd.R_far (p := ⟨gb135, 2, none⟩) (Kd.R_far (p := ⟨gb135, 1, none⟩) (Kd.R_far (p := ⟨gb135, 3, none⟩) (Kd.R_types (Kd.R_types HO_10.out BK135.out (by decide)) BK125.out (by decide)) (fun _ hk => hk.1.2) (.slice Ao112 x10_3.length co112)) (fun _ hk => hk.1.2) (.int .i64 t138)) (fun _ hk => hk.1.2) (.int .i64 (wrap64 (a0_2 + 1)))) (fun _ hk => hk.2) (.string t129)) (fun _ hk => hk.2) (.int .i64 t138)) (fun _ hk => hk.2) (.int .i64 (wrap64 (a0_2 + 1)))) (fun _ hk => hk.2) (.slice Ao112 x10_3.length co112)) (fun _ hk => hk.2) (.int .i64 t128)) (fun _ hk => hk.2) (.int .i64 a1)) (fun _ hk => hk.2) (.int .i64 a0_2)) (fun _ hk => hk.2) (.int .i64 a2)) (fun _ hk => hk.2) (.int .i64 0)) (fun _ hk => trivial), bl_⟩
                      · replace c108 := Bool.eq_false_iff.mpr c108
                        subst c108
                        have H1 : (if x10_3.length < 5864062014805 then (some (t129, t138, wrap64 (a0_2 + 1), (x10_3 ++ [(⟨a1, a0_2, a2⟩ : S62)]), t128, a1, a0_2, a2, 0)) else (none)) = some (r1, r2, r3, r4, r5, r6, r7, r8, r9) := by rw [if_neg (show ¬ (false = true) by decide)] at H; exact H
                        clear H
                        have H := H1
                        clear H1
                        by_cases c116 : x10_3.length < 5864062014805
                        · rw [if_pos c116] at H
                          have LMc116 := Aside0.mk c116
                          clear c116
                          obtain ⟨y142, hy142⟩ : ∃ y_ : List (S62), y_ = (x10_3 ++ [(⟨a1, a0_2, a2⟩ : S62)]) := ⟨_, rfl⟩
                          replace H : (some (t129, t138, wrap64 (a0_2 + 1), y142, t128, a1, a0_2, a2, 0)) = some (r1, r2, r3, r4, r5, r6, r7, r8, r9) := by first | (rw [hy142]; with_reducible exact H) | (have H2_ := (Option.bind_some _ _).symm.trans H; rw [hy142]; with_reducible exact H2_) | (have H2_ := (Option.bind_some _ _).symm.trans H; with_reducible exact H2_) | with_reducible exact H | (rw [hy142]; exact H) | exact H
                          have Ny142 := Aside0.mk hy142
                          clear hy142
                          simp only [Option.some.injEq, Prod.mk.injEq] at H
                          obtain ⟨rfl, rfl, rfl, rfl, rfl, rfl, rfl, rfl, rfl⟩ := H
                          have hnb117 := NB124_125.out
                          have hnc117 := NB125_124.out
                          have hnb118 := NB124_135.out
                          have hnc118 := NB135_124.out
                          obtain ⟨hcz119_0, hcz119_1, hcz119_2, hcz119_3, hfz119_0, hfz119_1, hfz119_2, hfz119_3⟩ := cellsF4 BK124.out
                          have hnb120 := NB135_125.out
                          have hnc120 := NB125_135.out
                          obtain ⟨hcz121_0, hcz121_1, hcz121_2, hcz121_3, hcz121_4, hcz121_5, hcz121_6, hcz121_7, hcz121_8, hfz121_0, hfz121_1, hfz121_2, hfz121_3, hfz121_4, hfz121_5, hfz121_6, hfz121_7, hfz121_8⟩ := cellsF9 BK135.out
                          go_wp2_with (first | ((with_reducible refine gate_builtin (b := .append) (xs := #[.tmp 109, .tmp 112]) rfl ?_); at_builtin; refine Kd.R_append k62 (w0 := w) w.heap.size rfl (.tmp 109) (.tmp 112) 49 62 (.agg #[(.int .i64 0), (.int .i64 0), (.int .i64 0)]) 24 rfl Try.underlying49 info62 rfl (by decide) (by omega) u10 x10_3 (⟨a1, a0_2, a2⟩ : S62) [.int .i64 a1, .int .i64 a0_2, .int .i64 a2] (fun k_ => some k_ ≠ (.slice Ao35 t132.length co35 : Value).ownBlock) (fun _ => False) rfl rfl ?aP (fun _ hk => hk.elim) ?aF ?aO ?aB ?aS ?aL ?_; (case aP => exact au4_20); (case aB => exact bl_); (case aF => exact au4_13); (case aO => exact (rk_ HO_10)); (case aS => exact (below_size bl_)); (case aL => have := LMc116.out; omega); intro v143 w122 ho hb hg hat; rw [← Ny142.out] at ho; have n0_ := Aside0.mk (Kd.R_after (ok := (fun _ => True)) au4_9 hg hat); have n1_ := Aside0.mk (blk_grown (g := gb124) (o := .cells #[.string a0_0, .int .i64 a0_1, .int .i64 a0_2, .slice A0_3 l0_3.length c0_3] 51 (0, 0)) (bk_ BK124) hg (Kd.R_ne HO_10.out BK124.out (by decide))); have n2_ := Aside0.mk (blk_grown (g := gb125) (o := .cells #[.string (⟨#[]⟩ : ByteArray), .int .i64 0, .int .i64 0, .slice none 0 0, .int .i64 0, .int .i64 0, .int .i64 0, .int .i64 0, .int .i64 0] 64 (0, 0)) (bk_ BK125) hg (Kd.R_ne HO_10.out BK125.out (by decide))); have n3_ := Aside0.mk (blk_grown (g := gb135) (o := .cells #[.string t129, .int .i64 t130, .int .i64 t131, .slice Ao35 t132.length co35, .int .i64 t128, .int .i64 a1, .int .i64 a0_2, .int .i64 a2, .int .i64 0] 64 (0, 0)) (bk_ BK135) hg (Kd.R_ne HO_10.out BK135.out (by decide))); have n4_ := Aside0.mk (hb); have n5_ := Aside0.mk (ho); clear HO_136003; clear BK124; clear BK125; clear BK135; clear HB; clear HO_10; have HO_136003 := n0_; have BK124 := n1_; have BK125 := n2_; have BK135 := n3_; have HB := n4_; have HO144 := n5_; clear n0_ n1_ n2_ n3_ n4_ n5_; clear ho hb hg hat; obtain ⟨Ao123, co123, eo123⟩ := Kd.R_slice HO144.out; subst eo123; obtain ⟨hcz124_0, hcz124_1, hcz124_2, hcz124_3, hcz124_4, hcz124_5, hcz124_6, hcz124_7, hcz124_8, hfz124_0, hfz124_1, hfz124_2, hfz124_3, hfz124_4, hfz124_5, hfz124_6, hfz124_7, hfz124_8⟩ := cellsF9 BK135.out; obtain ⟨hcz125_0, hcz125_1, hcz125_2, hcz125_3, hfz125_0, hfz125_1, hfz125_2, hfz125_3⟩ := cellsF4 BK124.out; obtain ⟨hcz126_0, hcz126_1, hcz126_2, hcz126_3, hcz126_4, hcz126_5, hcz126_6, hcz126_7, hcz126_8, hfz126_0, hfz126_1, hfz126_2, hfz126_3, hfz126_4, hfz126_5, hfz126_6, hfz126_7, hfz126_8⟩ := cellsF9 BK125.out))
                          refine bodyPost_ret (results_cell_row rfl _ _ gb125 64 #[.string t129, .int .i64 t138, .int .i64 (wrap64 (a0_2 + 1)), .slice Ao123 y142.length co123, .int .i64 t128, .int .i64 a1, .int .i64 a0_2, .int .i64 a2, .int .i64 0] (0, 0) _ rfl (by (with_reducible repeat (first | refine blk_drewN ?_ _ | refine blk_drew ?_ | refine blk_alloc ?_ _)); refine blk_put (cs := #[.string t129, .int .i64 t138, .int .i64 (wrap64 (a0_2 + 1)), .slice Ao123 y142.length co123, .int .i64 t128, .int .i64 a1, .int .i64 a0_2, .int .i64 a2, .int .i64 0]) ?_ 8 _ rfl; (with_reducible repeat (first | refine blk_drewN ?_ _ | refine blk_drew ?_ | refine blk_alloc ?_ _)); refine blk_put (cs := #[.string t129, .int .i64 t138, .int .i64 (wrap64 (a0_2 + 1)), .slice Ao123 y142.length co123, .int .i64 t128, .int .i64 a1, .int .i64 a0_2, .int .i64 0, .int .i64 0]) ?_ 7 _ rfl; (with_reducible repeat (first | refine blk_drewN ?_ _ | refine blk_drew ?_ | refine blk_alloc ?_ _)); refine blk_put (cs := #[.string t129, .int .i64 t138, .int .i64 (wrap64 (a0_2 + 1)), .slice Ao123 y142.length co123, .int .i64 t128, .int .i64 a1, .int .i64 0, .int .i64 0, .int .i64 0]) ?_ 6 _ rfl; (with_reducible repeat (first | refine blk_drewN ?_ _ | refine blk_drew ?_ | refine blk_alloc ?_ _)); refine blk_put (cs := #[.string t129, .int .i64 t138, .int .i64 (wrap64 (a0_2 + 1)), .slice Ao123 y142.length co123, .int .i64 t128, .int .i64 0, .int .i64 0, .int .i64 0, .int .i64 0]) ?_ 5 _ rfl; (with_reducible repeat (first | refine blk_drewN ?_ _ | refine blk_drew ?_ | refine blk_alloc ?_ _)); refine blk_put (cs := #[.string t129, .int .i64 t138, .int .i64 (wrap64 (a0_2 + 1)), .slice Ao123 y142.length co123, .int .i64 0, .int .i64 0, .int .i64 0, .int .i64 0, .int .i64 0]) ?_ 4 _ rfl; (with_reducible repeat (first | refine blk_drewN ?_ _ | refine blk_drew ?_ | refine blk_alloc ?_ _)); refine blk_put (cs := #[.string t129, .int .i64 t138, .int .i64 (wrap64 (a0_2 + 1)), .slice none 0 0, .int .i64 0, .int .i64 0, .int .i64 0, .int .i64 0, .int .i64 0]) ?_ 3 _ rfl; (with_reducible repeat (first | refine blk_drewN ?_ _ | refine blk_drew ?_ | refine blk_alloc ?_ _)); refine blk_put (cs := #[.string t129, .int .i64 t138, .int .i64 0, .slice none 0 0, .int .i64 0, .int .i64 0, .int .i64 0, .int .i64 0, .int .i64 0]) ?_ 2 _ rfl; (with_reducible repeat (first | refine blk_drewN ?_ _ | refine blk_drew ?_ | refine blk_alloc ?_ _)); refine blk_put (cs := #[.string t129, .int .i64 0, .int .i64 0, .slice none 0 0, .int .i64 0, .int .i64 0, .int .i64 0, .int .i64 0, .int .i64 0]) ?_ 1 _ rfl; (with_reducible repeat (first | refine blk_drewN ?_ _ | refine blk_drew ?_ | refine blk_alloc ?_ _)); refine blk_put (cs := #[.string (⟨#[]⟩ : ByteArray), .int .i64 0, .int .i64 0, .slice none 0 0, .int .i64 0, .int .i64 0, .int .i64 0, .int .i64 0, .int .i64 0]) ?_ 0 _ rfl; (with_reducible repeat (first | refine blk_drewN ?_ _ | refine blk_drew ?_ | refine blk_alloc ?_ _)); refine blk_far ?_ NB125_135.out _; (with_reducible repeat (first | refine blk_drewN ?_ _ | refine blk_drew ?_ | refine blk_alloc ?_ _)); refine blk_far ?_ NB125_135.out _; (with_reducible repeat (first | refine blk_drewN ?_ _ | refine blk_drew ?_ | refine blk_alloc ?_ _)); refine blk_far ?_ NB125_135.out _; (with_reducible repeat (first | refine blk_drewN ?_ _ | refine blk_drew ?_ | refine blk_alloc ?_ _)); exact BK125.out) Try.underlying64 rfl (by kernel_rfl)) rfl ?_
                          exact ⟨_, au4_12, by (with_reducible repeat (first | apply Kd.R_alloc | apply Kd.R_drewN | apply Kd.R_drew)); exact Kd.R_mono (Kd.R_far (p := ⟨gb125, 8, none⟩) (Kd.R_far (p := ⟨gb125, 7, none⟩) (Kd.R_far (p := ⟨gb125, 6, none⟩) (Kd.R_far (p := ⟨gb125, 5, none⟩) (Kd.R_far (p := ⟨gb125, 4, none⟩) (Kd.R_far (p := ⟨gb125, 3, none⟩) (Kd.R_far (p := ⟨gb125, 2, none⟩) (Kd.R_far (p := ⟨gb125, 1, none⟩) (Kd.R_far (p := ⟨gb125, 0, none⟩) (Kd.R_far (p := ⟨gb135, 2, none⟩) (Kd.R_far (p := ⟨gb135, 1, none⟩) (Kd.R_far (p := ⟨gb135, 3, none⟩) (Kd.R_types (Kd.R_types HO144.out BK135.out (by decide)) BK125.out (by decide)) (fun _ hk => hk.1.2) (.slice Ao123 y142.length co123)) (fun _ hk => hk.1.2) (.int .i64 t138)) (fun _ hk => hk.1.2) (.int .i64 (wrap64 (a0_2 + 1)))) (fun _ hk => hk.2) (.string t129)) (fun _ hk => hk.2) (.int .i64 t138)) (fun _ hk => hk.2) (.int .i64 (wrap64 (a0_2 + 1)))) (fun _ hk => hk.2) (.slice Ao123 y142.length co123)) (fun _ hk => hk.2) (.int .i64 t128)) (fun _ hk => hk.2) (.int .i64 a1)) (fun _ hk => hk.2) (.int .i64 a0_2)) (fun _ hk => hk.2) (.int .i64 a2)) (fun _ hk => hk.2) (.int .i64 0)) (fun _ hk => trivial), bl_⟩
                        · rw [if_neg c116] at H
                          exact absurd H (by simp)
            · rw [if_neg c50] at H
              have c50b0 : (t128 == 1) = false := beq_eq_false_iff_ne.mpr c50
              have c50b1 : (t128 != 1) = true := bne_iff_ne.mpr c50
              simp only [Option.some.injEq, Prod.mk.injEq] at H
              obtain ⟨rfl, rfl, rfl, rfl, rfl, rfl, rfl, rfl, rfl⟩ := H
              have hnb127 := NB135_124.out
              have hnc127 := NB124_135.out
              have hnb128 := NB135_125.out
              have hnc128 := NB125_135.out
              obtain ⟨hcz129_0, hcz129_1, hcz129_2, hcz129_3, hcz129_4, hcz129_5, hcz129_6, hcz129_7, hcz129_8, hfz129_0, hfz129_1, hfz129_2, hfz129_3, hfz129_4, hfz129_5, hfz129_6, hfz129_7, hfz129_8⟩ := cellsF9 BK135.out
              have hnb130 := NB125_124.out
              have hnc130 := NB124_125.out
              obtain ⟨hcz131_0, hcz131_1, hcz131_2, hcz131_3, hcz131_4, hcz131_5, hcz131_6, hcz131_7, hcz131_8, hfz131_0, hfz131_1, hfz131_2, hfz131_3, hfz131_4, hfz131_5, hfz131_6, hfz131_7, hfz131_8⟩ := cellsF9 BK125.out
              go_wp2
              refine bodyPost_ret (results_cell_row rfl _ _ gb125 64 #[.string t129, .int .i64 t130, .int .i64 t131, .slice Ao35 t132.length co35, .int .i64 t128, .int .i64 x136005_28, .int .i64 x136006_28, .int .i64 x136007_28, .int .i64 0] (0, 0) _ rfl (by (with_reducible repeat (first | refine blk_drewN ?_ _ | refine blk_drew ?_ | refine blk_alloc ?_ _)); refine blk_put (cs := #[.string t129, .int .i64 t130, .int .i64 t131, .slice Ao35 t132.length co35, .int .i64 t128, .int .i64 x136005_28, .int .i64 x136006_28, .int .i64 x136007_28, .int .i64 0]) ?_ 8 _ rfl; (with_reducible repeat (first | refine blk_drewN ?_ _ | refine blk_drew ?_ | refine blk_alloc ?_ _)); refine blk_put (cs := #[.string t129, .int .i64 t130, .int .i64 t131, .slice Ao35 t132.length co35, .int .i64 t128, .int .i64 x136005_28, .int .i64 x136006_28, .int .i64 0, .int .i64 0]) ?_ 7 _ rfl; (with_reducible repeat (first | refine blk_drewN ?_ _ | refine blk_drew ?_ | refine blk_alloc ?_ _)); refine blk_put (cs := #[.string t129, .int .i64 t130, .int .i64 t131, .slice Ao35 t132.length co35, .int .i64 t128, .int .i64 x136005_28, .int .i64 0, .int .i64 0, .int .i64 0]) ?_ 6 _ rfl; (with_reducible repeat (first | refine blk_drewN ?_ _ | refine blk_drew ?_ | refine blk_alloc ?_ _)); refine blk_put (cs := #[.string t129, .int .i64 t130, .int .i64 t131, .slice Ao35 t132.length co35, .int .i64 t128, .int .i64 0, .int .i64 0, .int .i64 0, .int .i64 0]) ?_ 5 _ rfl; (with_reducible repeat (first | refine blk_drewN ?_ _ | refine blk_drew ?_ | refine blk_alloc ?_ _)); refine blk_put (cs := #[.string t129, .int .i64 t130, .int .i64 t131, .slice Ao35 t132.length co35, .int .i64 0, .int .i64 0, .int .i64 0, .int .i64 0, .int .i64 0]) ?_ 4 _ rfl; (with_reducible repeat (first | refine blk_drewN ?_ _ | refine blk_drew ?_ | refine blk_alloc ?_ _)); refine blk_put (cs := #[.string t129, .int .i64 t130, .int .i64 t131, .slice none 0 0, .int .i64 0, .int .i64 0, .int .i64 0, .int .i64 0, .int .i64 0]) ?_ 3 _ rfl; (with_reducible repeat (first | refine blk_drewN ?_ _ | refine blk_drew ?_ | refine blk_alloc ?_ _)); refine blk_put (cs := #[.string t129, .int .i64 t130, .int .i64 0, .slice none 0 0, .int .i64 0, .int .i64 0, .int .i64 0, .int .i64 0, .int .i64 0]) ?_ 2 _ rfl; (with_reducible repeat (first | refine blk_drewN ?_ _ | refine blk_drew ?_ | refine blk_alloc ?_ _)); refine blk_put (cs := #[.string t129, .int .i64 0, .int .i64 0, .slice none 0 0, .int .i64 0, .int .i64 0, .int .i64 0, .int .i64 0, .int .i64 0]) ?_ 1 _ rfl; (with_reducible repeat (first | refine blk_drewN ?_ _ | refine blk_drew ?_ | refine blk_alloc ?_ _)); refine blk_put (cs := #[.string (⟨#[]⟩ : ByteArray), .int .i64 0, .int .i64 0, .slice none 0 0, .int .i64 0, .int .i64 0, .int .i64 0, .int .i64 0, .int .i64 0]) ?_ 0 _ rfl; (with_reducible repeat (first | refine blk_drewN ?_ _ | refine blk_drew ?_ | refine blk_alloc ?_ _)); exact BK125.out) Try.underlying64 rfl (by kernel_rfl)) rfl ?_
              exact ⟨_, au4_12, by (with_reducible repeat (first | apply Kd.R_alloc | apply Kd.R_drewN | apply Kd.R_drew)); exact Kd.R_mono (Kd.R_far (p := ⟨gb125, 8, none⟩) (Kd.R_far (p := ⟨gb125, 7, none⟩) (Kd.R_far (p := ⟨gb125, 6, none⟩) (Kd.R_far (p := ⟨gb125, 5, none⟩) (Kd.R_far (p := ⟨gb125, 4, none⟩) (Kd.R_far (p := ⟨gb125, 3, none⟩) (Kd.R_far (p := ⟨gb125, 2, none⟩) (Kd.R_far (p := ⟨gb125, 1, none⟩) (Kd.R_far (p := ⟨gb125, 0, none⟩) (Kd.R_types HO_136003.out BK125.out (by decide)) (fun _ hk => hk.2) (.string t129)) (fun _ hk => hk.2) (.int .i64 t130)) (fun _ hk => hk.2) (.int .i64 t131)) (fun _ hk => hk.2) (.slice Ao35 t132.length co35)) (fun _ hk => hk.2) (.int .i64 t128)) (fun _ hk => hk.2) (.int .i64 x136005_28)) (fun _ hk => hk.2) (.int .i64 x136006_28)) (fun _ hk => hk.2) (.int .i64 x136007_28)) (fun _ hk => hk.2) (.int .i64 0)) (fun _ hk => trivial), bl_⟩

end Go.Proofs.Ytjffakoifpldeaa.PFnWindow
