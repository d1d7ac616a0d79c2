-- printed by a program of this session (wip/xp/xprint.py) out of the translation; Lean checks it
import Derived.Test.YtlghcbmkhdibdaaDoorPFnTrailersx0
import Derived.Test.YtlghcbmkhdibdaaDoorPFnTrailersx4
namespace Go.Proofs.YtlghcbmkhdibdaaDoor.PFnTrailers
open Go.RowKit Go.Proofs.YtlghcbmkhdibdaaDoorW.PrintWords Go.Proofs.YtlghcbmkhdibdaaDoorW.PrintLast Go.Proofs.YtlghcbmkhdibdaaDoorW.PrintMore
attribute [local go_sem] max2_int min2_int max_two min_two max_three min_three max_four min_four   -- for this text's walks alone
set_option linter.unusedVariables false
set_option linter.unusedSimpArgs false
set_option maxHeartbeats 8000000
set_option maxRecDepth 100000

theorem au5_0 {p : Prop} (h : p := by first | exact Kd.own_blk (Kd.R_ne El.out Em.out (by decide)) | (rw [add_block]; exact Kd.own_blk (Kd.R_ne El.out Em.out (by decide))) | (show (Addr.add _ _).block ≠ _; rw [add_block]; exact Kd.own_blk (Kd.R_ne El.out Em.out (by decide))) | (dsimp only; exact Kd.own_blk (Kd.R_ne El.out Em.out (by decide)))) : p := h
theorem au5_1 {p : Prop} (h : p := by first | rfl | (simp [errW_none, errW_some] <;> rfl) | (simp [*, errW_none, errW_some] <;> rfl)) : p := h
theorem au5_2 {p : Prop} (h : p := by repeat (first | exact (Kd.C_below gD.out HB.out) | (with_reducible refine Kd.C_alloc ?_ _) | (with_reducible refine Kd.C_drewN ?_ _) | (with_reducible refine Kd.C_drew ?_))) : p := h
theorem au5_3 {p : Prop} (h : p := by first | exact Kd.S_nil _ _ _ _ _ | exact Kd.N_nil _ _ _ _ _ | exact Kd.V_nil _ _ _ _ _ | exact Kd.Q_nil _ _ _ _ _ | exact Kd.R_nil _ _ _ _ _) : p := h
theorem au5_4 {p : Prop} (h : p := by repeat (first | exact (Kd.C_below n3.out HB.out) | (with_reducible refine Kd.C_alloc ?_ _) | (with_reducible refine Kd.C_drewN ?_ _) | (with_reducible refine Kd.C_drew ?_))) : p := h
theorem au5_5 {p : Prop} (h : p := by first | (with_reducible exact HZT.out) | exact HZT.out.below bl_) : p := h
theorem au5_6 {p : Prop} (h : p := by rintro w' ⟨s0, s1⟩; go_simp; with_reducible rfl) : p := h
theorem au5_7 {p : Prop} (h : p := by repeat (first | exact (Kd.C_below a0E.out HB.out) | (with_reducible refine Kd.C_alloc ?_ _) | (with_reducible refine Kd.C_drewN ?_ _) | (with_reducible refine Kd.C_drew ?_))) : p := h
theorem au5_8 {p : Prop} (h : p := by first | rfl | (simp [errW_none, errW_some] <;> rfl) | (simp only [← zr]; first | rfl | (simp [errW_none, errW_some] <;> rfl)) | (simp [*, errW_none, errW_some] <;> rfl)) : p := h
theorem au5_9 {p : Prop} (h : p := by repeat (first | exact n3.out | (with_reducible refine Kd.C_alloc ?_ _) | (with_reducible refine Kd.C_drewN ?_ _) | (with_reducible refine Kd.C_drew ?_))) : p := h
theorem au5_10 {p : Prop} (h : p := by repeat (first | (with_reducible first | exact HB2.out | apply below_alloc | apply pw_below_drewN | apply below_drew1) | exact HB2.out)) : p := h
theorem au5_11 {p : Prop} (h : p := by (with_reducible repeat (first | apply Kd.S_alloc | apply Kd.S_drewN | apply Kd.S_drew)); exact bR.out) : p := h
theorem au5_12 {p : Prop} (h : p := by (with_reducible repeat (first | apply Kd.S_alloc | apply Kd.S_drewN | apply Kd.S_drew)); exact b1p.out) : p := h

/-! ### F62: function 62 -/
open Go.Shelf
def F62.ren : Go.Shelf.Ren := ⟨fun x => match x with | 174 => 95 | 247 => 117 | 245 => 118 | 287 => 130 | 279 => 131 | 280 => 132 | 281 => 133 | 282 => 134 | 321 => 143 | 322 => 144 | 316 => 145 | 171 => 147 | 205 => 146 | 243 => 154 | 246 => 129 | 283 => 139 | 284 => 140 | 285 => 141 | 286 => 142 | 129 => 150 | 317 => 149 | 318 => 151 | 319 => 152 | 320 => 153 | 337 => 155 | 338 => 156 | n => n, fun x => match x with | 9 => 9 | 3 => 3 | 2 => 2 | 75 => 133 | 85 => 134 | 4 => 4 | 167 => 163 | 5 => 5 | 53 => 109 | 175 => 164 | 46 => 138 | 168 => 166 | 37 => 45 | 0 => 0 | 210 => 179 | 21 => 21 | 127 => 188 | 145 => 191 | 143 => 189 | 171 => 171 | 173 => 174 | 212 => 183 | 51 => 184 | 20 => 20 | 213 => 185 | 232 => 193 | 233 => 194 | 80 => 195 | n => n, fun x => match x with | 15 => 0 | 16 => 1 | 17 => 2 | 18 => 3 | 19 => 4 | n => n⟩
theorem F62.lays : LaysC.n174 Tryd.prog F62.ren where
 mixed := by kernel_rfl
 f129 := Tryd.func150.trans (congrArg some (by kernel_rfl))
 f171 := Tryd.func147.trans (congrArg some (by kernel_rfl))
 f174 := Tryd.func95.trans (congrArg some (by kernel_rfl))
 f205 := Tryd.func146.trans (congrArg some (by kernel_rfl))
 f243 := Tryd.func154.trans (congrArg some (by kernel_rfl))
 f245 := Tryd.func118.trans (congrArg some (by kernel_rfl))
 f246 := Tryd.func129.trans (congrArg some (by kernel_rfl))
 f247 := Tryd.func117.trans (congrArg some (by kernel_rfl))
 f279 := Tryd.func131.trans (congrArg some (by kernel_rfl))
 f280 := Tryd.func132.trans (congrArg some (by kernel_rfl))
 f281 := Tryd.func133.trans (congrArg some (by kernel_rfl))
 f282 := Tryd.func134.trans (congrArg some (by kernel_rfl))
 f283 := Tryd.func139.trans (congrArg some (by kernel_rfl))
 f284 := Tryd.func140.trans (congrArg some (by kernel_rfl))
 f285 := Tryd.func141.trans (congrArg some (by kernel_rfl))
 f286 := Tryd.func142.trans (congrArg some (by kernel_rfl))
 f287 := Tryd.func130.trans (congrArg some (by kernel_rfl))
 f316 := Tryd.func145.trans (congrArg some (by kernel_rfl))
 f317 := Tryd.func149.trans (congrArg some (by kernel_rfl))
 f318 := Tryd.func151.trans (congrArg some (by kernel_rfl))
 f319 := Tryd.func152.trans (congrArg some (by kernel_rfl))
 f320 := Tryd.func153.trans (congrArg some (by kernel_rfl))
 f321 := Tryd.func143.trans (congrArg some (by kernel_rfl))
 f322 := Tryd.func144.trans (congrArg some (by kernel_rfl))
 f337 := Tryd.func155.trans (congrArg some (by kernel_rfl))
 f338 := Tryd.func156.trans (congrArg some (by kernel_rfl))
 t0 := Tryd.underlying0
 a0 := Tryd.isAgg0
 z0 := Tryd.sizeOf0
 v0 := Tryd.zeroValue0
 t2 := Tryd.underlying2
 a2 := Tryd.isAgg2
 z2 := Tryd.sizeOf2
 v2 := Tryd.zeroValue2
 t3 := Tryd.underlying3
 a3 := Tryd.isAgg3
 z3 := Tryd.sizeOf3
 v3 := Tryd.zeroValue3
 t4 := Tryd.underlying4
 a4 := Tryd.isAgg4
 z4 := Tryd.sizeOf4
 v4 := Tryd.zeroValue4
 t5 := Tryd.underlying5
 a5 := Tryd.isAgg5
 z5 := Tryd.sizeOf5
 v5 := Tryd.zeroValue5
 t9 := Tryd.underlying9
 a9 := Tryd.isAgg9
 z9 := Tryd.sizeOf9
 v9 := Tryd.zeroValue9
 t20 := Tryd.underlying20
 a20 := Tryd.isAgg20
 z20 := Tryd.sizeOf20
 v20 := Tryd.zeroValue20
 t21 := Tryd.underlying21
 a21 := Tryd.isAgg21
 z21 := Tryd.sizeOf21
 v21 := Tryd.zeroValue21
 t37 := Tryd.underlying45
 a37 := Tryd.isAgg45
 z37 := Tryd.sizeOf45
 v37 := Tryd.zeroValue45
 t46 := Tryd.underlying138
 a46 := Tryd.isAgg138
 z46 := Tryd.sizeOf138
 v46 := Tryd.zeroValue138
 t51 := Tryd.underlying184
 a51 := Tryd.isAgg184
 z51 := Tryd.sizeOf184
 v51 := Tryd.zeroValue184
 t53 := Tryd.underlying109
 a53 := Tryd.isAgg109
 z53 := Tryd.sizeOf109
 v53 := Tryd.zeroValue109
 t75 := Tryd.underlying133
 a75 := Tryd.isAgg133
 z75 := Tryd.sizeOf133
 v75 := Tryd.zeroValue133
 t85 := Tryd.underlying134
 a85 := Tryd.isAgg134
 z85 := Tryd.sizeOf134
 v85 := Tryd.zeroValue134
 t127 := Tryd.underlying188
 a127 := Tryd.isAgg188
 z127 := Tryd.sizeOf188
 v127 := Tryd.zeroValue188
 t143 := Tryd.underlying189
 a143 := Tryd.isAgg189
 z143 := Tryd.sizeOf189
 v143 := Tryd.zeroValue189
 t145 := Tryd.underlying191
 a145 := Tryd.isAgg191
 z145 := Tryd.sizeOf191
 v145 := Tryd.zeroValue191
 t167 := Tryd.underlying163
 a167 := Tryd.isAgg163
 z167 := Tryd.sizeOf163
 v167 := Tryd.zeroValue163
 t168 := Tryd.underlying166
 a168 := Tryd.isAgg166
 z168 := Tryd.sizeOf166
 v168 := Tryd.zeroValue166
 t171 := Tryd.underlying171
 a171 := Tryd.isAgg171
 z171 := Tryd.sizeOf171
 v171 := Tryd.zeroValue171
 t173 := Tryd.underlying174
 a173 := Tryd.isAgg174
 z173 := Tryd.sizeOf174
 v173 := Tryd.zeroValue174
 t175 := Tryd.underlying164
 a175 := Tryd.isAgg164
 z175 := Tryd.sizeOf164
 v175 := Tryd.zeroValue164
 t210 := Tryd.underlying179
 a210 := Tryd.isAgg179
 z210 := Tryd.sizeOf179
 v210 := Tryd.zeroValue179
 t212 := Tryd.underlying183
 a212 := Tryd.isAgg183
 z212 := Tryd.sizeOf183
 v212 := Tryd.zeroValue183
 t213 := Tryd.underlying185
 a213 := Tryd.isAgg185
 z213 := Tryd.sizeOf185
 t232 := Tryd.underlying193
 a232 := Tryd.isAgg193
 z232 := Tryd.sizeOf193
 v232 := Tryd.zeroValue193
 t233 := Tryd.underlying194
 a233 := Tryd.isAgg194
 z233 := Tryd.sizeOf194
 v233 := Tryd.zeroValue194
 g15 := by kernel_rfl
 g16 := by kernel_rfl
 g17 := by kernel_rfl
 g18 := by kernel_rfl
 g19 := by kernel_rfl
 t80 := Tryd.underlying195
 a80 := Tryd.isAgg195
 z80 := Tryd.sizeOf195
 v80 := Tryd.zeroValue195
 i0 := by kernel_rfl
 i2 := by kernel_rfl
 i3 := by kernel_rfl
 i4 := by kernel_rfl
 i5 := by kernel_rfl
 i9 := by kernel_rfl
 i20 := by kernel_rfl
 i21 := by kernel_rfl
 i37 := by kernel_rfl
 i46 := by kernel_rfl
 i51 := by kernel_rfl
 i53 := by kernel_rfl
 i75 := by kernel_rfl
 i80 := by kernel_rfl
 i85 := by kernel_rfl
 i127 := by kernel_rfl
 i143 := by kernel_rfl
 i145 := by kernel_rfl
 i167 := by kernel_rfl
 i168 := by kernel_rfl
 i171 := by kernel_rfl
 i173 := by kernel_rfl
 i175 := by kernel_rfl
 i210 := by kernel_rfl
 i212 := by kernel_rfl
 i232 := by kernel_rfl
 i233 := by kernel_rfl
 m15 := by kernel_rfl
 m16 := by kernel_rfl
 m17 := by kernel_rfl
 m18 := by kernel_rfl
 m19 := by kernel_rfl
 c0 := by kernel_rfl
 c2 := by kernel_rfl
 c3 := by kernel_rfl
 c4 := by kernel_rfl
 c5 := by kernel_rfl
 c9 := by kernel_rfl
 c20 := by kernel_rfl
 c21 := by kernel_rfl
 c37 := by kernel_rfl
 c46 := by kernel_rfl
 c51 := by kernel_rfl
 c53 := by kernel_rfl
 c75 := by kernel_rfl
 c80 := by kernel_rfl
 c85 := by kernel_rfl
 c127 := by kernel_rfl
 c143 := by kernel_rfl
 c145 := by kernel_rfl
 c167 := by kernel_rfl
 c168 := by kernel_rfl
 c171 := by kernel_rfl
 c173 := by kernel_rfl
 c175 := by kernel_rfl
 c210 := by kernel_rfl
 c212 := by kernel_rfl
 c213 := by kernel_rfl
 c232 := by kernel_rfl
 c233 := by kernel_rfl
def F62.g (k : Nat) (a0 : ByteArray) (a1 : Int) (a2 : Int) : Lib.NumEnd Int → Option (Int × Bool)
  | .ok v => (F96.f k a0).bind fun b => (if b = true then ((F83.f v a1 a2).bind fun c => some (v, c)) else (some (v, false)))
  | Lib.NumEnd.syntax => some (0, false)
  | .range => some (Lib.intSat 64 a0.data.toList, false)
def F62.f (k : Nat) (a0 : ByteArray) (a1 : Int) (a2 : Int) : Option (Int × Bool) := if a0.size ≤ 281474976710656 then (F62.g k a0 a1 a2 (Lib.parseIntB 64 a0.data.toList)) else (none)
theorem F62.mono : ∀ a0 a1 a2 k, LeO (F62.f k a0 a1 a2) (F62.f (k + 1) a0 a1 a2) := by
 intro a0 a1 a2 k
 unfold F62.f
 refine LeO.ite ?_ (LeO.none _)
 generalize Lib.parseIntB 64 a0.data.toList = p
 cases p with
 | ok v => exact LeO.bind (F96.mono _ _) (fun _ => LeO.refl _)
 | range => exact LeO.refl _
 | _ => exact LeO.refl _
theorem F62.calls (k : Nat) (a0 : ByteArray) (a1 : Int) (a2 : Int) (r1 : Int) (r2 : Bool) (w : World) (hT : LaidT true Tryd.prog w) (h : F62.f k a0 a1 a2 = some (r1, r2)) :
  Calls Tryd.prog 62 #[.string a0, .int .i64 a1, .int .i64 a2] w fun e w' => e = .returned (.tuple #[.int .i64 r1, .bool r2]) ∧ Below w.heap.size w w' := by
 unfold F62.f at h
 by_cases hz : a0.size ≤ 281474976710656
 rotate_left
 ·rw [if_neg hz] at h
  cases h

 rw [if_pos hz] at h
 have HZ := am_ hz
 have HT := am_ hT
 clear hz hT
 cases hp : Lib.parseIntB 64 a0.data.toList with
 | ok v =>
  rw [hp] at h
  have HP := am_ hp
  clear hp
  replace h := Option.bind_eq_some_iff.mp h
  obtain ⟨b, hb, h⟩ := h
  have H1 := am_ hb
  clear hb
  cases b with
  | true =>
   rw [if_pos rfl] at h
   replace h := Option.bind_eq_some_iff.mp h
   obtain ⟨c, hc, h⟩ := h
   have H2 := am_ hc
   clear hc
   simp only [Option.some.injEq, Prod.mk.injEq] at h
   obtain ⟨rfl, rfl⟩ := h
   go_enter Tryd.func62, Tryd.ntmps62
   go_wp2_with (first | (go_at_call 95; refine (Any.strconv_ParseInt_10_at64_ok F62.lays a0 (by have := HZ.out; omega) v HP.out _).mono ?_; rintro e w1 ⟨rfl, hw⟩; have HB := am_ (show Below w.heap.size w w1 from hw.elim (fun e_ => e_ ▸ Below.refl _ _) (fun ⟨_, e_⟩ => e_ ▸ Lib.bytesWorld_below _ _ _)); clear hw) | (go_at_call 96; refine (F96.calls k a0 true _ H1.out).mono ?_; rintro e w2 ⟨rfl, hd⟩; have HD := am_ hd; clear hd) | (go_at_call 83; refine (F83.calls v a1 a2 c _ H2.out).mono ?_; rintro e w3 ⟨rfl, hd⟩; have HD3 := am_ hd; clear hd))
   go_ret2
   exact ⟨rfl, (HB.out.trans (HD.out.below.mono HB.out.size)).trans (HD3.out.below.mono (Nat.le_trans HB.out.size HD.out.below.size))⟩
  | false =>
   rw [if_neg (by simp)] at h
   simp only [Option.some.injEq, Prod.mk.injEq] at h
   obtain ⟨rfl, rfl⟩ := h
   go_enter Tryd.func62, Tryd.ntmps62
   go_wp2_with (first | (go_at_call 95; refine (Any.strconv_ParseInt_10_at64_ok F62.lays a0 (by have := HZ.out; omega) v HP.out _).mono ?_; rintro e w1 ⟨rfl, hw⟩; have HB := am_ (show Below w.heap.size w w1 from hw.elim (fun e_ => e_ ▸ Below.refl _ _) (fun ⟨_, e_⟩ => e_ ▸ Lib.bytesWorld_below _ _ _)); clear hw) | (go_at_call 96; refine (F96.calls k a0 false _ H1.out).mono ?_; rintro e w2 ⟨rfl, hd⟩; have HD := am_ hd; clear hd))
   go_ret2
   exact ⟨rfl, HB.out.trans (HD.out.below.mono HB.out.size)⟩
 | range =>
  rw [hp] at h
  have HP := am_ hp
  clear hp
  replace h : some (Lib.intSat 64 a0.data.toList, false) = some (r1, r2) := h
  simp only [Option.some.injEq, Prod.mk.injEq] at h
  obtain ⟨hr, rfl⟩ := h
  obtain ⟨tp, p, hv⟩ := HT.out.er rfl
  have HV := am_ hv
  have HQ := am_ hr
  clear hv hr
  go_enter Tryd.func62, Tryd.ntmps62
  go_wp2_with (first | (go_at_call 95; refine (Any.strconv_ParseInt_10_at64_range_var F62.lays a0 HZ.out HP.out tp p _ HV.out).mono ?_; rintro e w1 ⟨N1, rfl, hn1, hn2, hb⟩; rw [HQ.out]; have HB := am_ hb; clear hb hn1 hn2))
  go_ret2
  exact ⟨rfl, HB.out⟩
 | _ =>
  rw [hp] at h
  have HP := am_ hp
  clear hp
  replace h : some ((0 : Int), false) = some (r1, r2) := h
  simp only [Option.some.injEq, Prod.mk.injEq] at h
  obtain ⟨rfl, rfl⟩ := h
  obtain ⟨tp, p, hv⟩ := HT.out.es rfl
  have HV := am_ hv
  clear hv
  go_enter Tryd.func62, Tryd.ntmps62
  go_wp2_with (first | (go_at_call 95; refine (Any.strconv_ParseInt_10_at64_syntax_var F62.lays a0 HZ.out HP.out tp p _ HV.out).mono ?_; rintro e w1 ⟨N1, rfl, hn1, hn2, hb⟩; have HB := am_ hb; clear hb hn1 hn2))
  go_ret2
  exact ⟨rfl, HB.out⟩
/-! ### F38: function 38 -/
def F38.f (k : Nat) (ao : ByteArray) (ah : List (S55)) : Option (ByteArray × ByteArray × Int × (List (S83)) × Bool) := (F60.f k ao ah (⟨#[73, 88, 72]⟩ : ByteArray) 3).bind fun mZ => (if mZ.2 = true then (if 0 < (mZ.1.length : Int) then ((F61.f k (rdOf ByteArray.empty mZ.1 0)).bind fun a7r => (if a7r = true then (if 1 < (mZ.1.length : Int) then ((F61.f k (rdOf ByteArray.empty mZ.1 1)).bind fun a7s => (if a7s = true then (if 2 < (mZ.1.length : Int) then ((F62.f k (rdOf ByteArray.empty mZ.1 2) 1 999999).bind fun Ks => (some (rdOf ByteArray.empty mZ.1 0, rdOf ByteArray.empty mZ.1 1, Ks.1, ([] : List (S83)), Ks.2))) else (none)) else (some ((⟨#[]⟩ : ByteArray), (⟨#[]⟩ : ByteArray), 0, ([] : List (S83)), false)))) else (none)) else (some ((⟨#[]⟩ : ByteArray), (⟨#[]⟩ : ByteArray), 0, ([] : List (S83)), false)))) else (none)) else (some ((⟨#[]⟩ : ByteArray), (⟨#[]⟩ : ByteArray), 0, ([] : List (S83)), false)))
theorem F38.mono : ∀ a0 a1 k, LeO (F38.f k a0 a1) (F38.f (k + 1) a0 a1) := by
 intro a0 a1 k
 unfold F38.f
 repeat' with_reducible first | exact F61.mono _ _ | exact F62.mono _ _ _ _ | exact F60.mono _ _ _ _ _ | exact LeO.refl _ | exact LeO.none _ | refine LeO.ite ?_ ?_ | refine LeO.bind ?_ (fun _ => ?_)
def F38.T5 : Bool × List (List Nat × List Nat) := (true, [([], []), ([0], [0]), ([1], [1]), ([], []), ([3], [3]), ([4], [4]), ([], []), ([2, 5, 6], [2, 5, 6]), ([], []), ([7, 0, 1, 2, 3, 4, 5, 6, 7], [7]), ([8, 9, 0, 1, 2, 3, 4, 5, 6, 7, 8, 9], [8])])
def F38.B5 : List Nat := [0, 1, 3, 0, 8, 24, 0, 127, 0, 255, 1023]
theorem F38.tab5 : rtab .any (opsOf Tryd.f38 5) = F38.T5 := by kernel_rfl
theorem F38.bits5 : waitsOk F38.T5.2 F38.B5 = true := by kernel_rfl
/-! ### F14: function 14 -/
def F14.f (k : Nat) (l0 : List (S52)) : Option (ByteArray × ByteArray × Int × (List (S83)) × Bool × Int × Int) := (F37.f l0).bind fun a7t => (if a7t = true then (some ((⟨#[]⟩ : ByteArray), (⟨#[]⟩ : ByteArray), 0, ([] : List (S83)), false, 0, 2)) else (if (l0.length : Int) = 0 then (some ((⟨#[]⟩ : ByteArray), (⟨#[]⟩ : ByteArray), 0, ([] : List (S83)), false, 0, 6)) else (if 0 < (l0.length : Int) then ((F38.f k ((rd_T52 l0 0).f0) ((rd_T52 l0 0).f1)).bind fun tX => (if tX.2.2.2.2 = true then (some (tX.1, tX.2.1, tX.2.2.1, tX.2.2.2.1, true, 0, 0)) else (some ((⟨#[]⟩ : ByteArray), (⟨#[]⟩ : ByteArray), 0, ([] : List (S83)), false, 0, 3)))) else (none))))
theorem F14.mono : ∀ a0 k, LeO (F14.f k a0) (F14.f (k + 1) a0) := by
 intro a0 k
 unfold F14.f
 repeat' with_reducible first | exact F38.mono _ _ _ | exact LeO.refl _ | exact LeO.none _ | refine LeO.ite ?_ ?_ | refine LeO.bind ?_ (fun _ => ?_)
/-! ### F113: function 113 -/
open Go.Shelf
def F113.ren : Go.Shelf.Ren := ⟨fun x => match x with | 173 => 113 | 246 => 129 | 283 => 139 | 284 => 140 | 285 => 141 | 286 => 142 | 129 => 150 | 317 => 149 | 318 => 151 | 319 => 152 | 320 => 153 | 337 => 155 | 338 => 156 | n => n, fun x => match x with | 2 => 2 | 3 => 3 | 9 => 9 | 4 => 4 | 171 => 171 | 0 => 0 | 53 => 109 | 37 => 45 | 5 => 5 | 173 => 174 | 212 => 183 | 51 => 184 | 20 => 20 | 213 => 185 | 46 => 138 | 232 => 193 | 233 => 194 | n => n, fun x => match x with | 17 => 2 | 18 => 3 | 19 => 4 | n => n⟩
theorem F113.lays : LaysM.n173 Tryd.prog F113.ren where
 mixed := by kernel_rfl
 f129 := Tryd.func150.trans (congrArg some (by kernel_rfl))
 f173 := Tryd.func113.trans (congrArg some (by kernel_rfl))
 f246 := Tryd.func129.trans (congrArg some (by kernel_rfl))
 f283 := Tryd.func139.trans (congrArg some (by kernel_rfl))
 f284 := Tryd.func140.trans (congrArg some (by kernel_rfl))
 f285 := Tryd.func141.trans (congrArg some (by kernel_rfl))
 f286 := Tryd.func142.trans (congrArg some (by kernel_rfl))
 f317 := Tryd.func149.trans (congrArg some (by kernel_rfl))
 f318 := Tryd.func151.trans (congrArg some (by kernel_rfl))
 f319 := Tryd.func152.trans (congrArg some (by kernel_rfl))
 f320 := Tryd.func153.trans (congrArg some (by kernel_rfl))
 f337 := Tryd.func155.trans (congrArg some (by kernel_rfl))
 f338 := Tryd.func156.trans (congrArg some (by kernel_rfl))
 t0 := Tryd.underlying0
 a0 := Tryd.isAgg0
 z0 := Tryd.sizeOf0
 v0 := Tryd.zeroValue0
 t2 := Tryd.underlying2
 a2 := Tryd.isAgg2
 z2 := Tryd.sizeOf2
 v2 := Tryd.zeroValue2
 t3 := Tryd.underlying3
 a3 := Tryd.isAgg3
 z3 := Tryd.sizeOf3
 v3 := Tryd.zeroValue3
 t4 := Tryd.underlying4
 a4 := Tryd.isAgg4
 z4 := Tryd.sizeOf4
 v4 := Tryd.zeroValue4
 t5 := Tryd.underlying5
 a5 := Tryd.isAgg5
 z5 := Tryd.sizeOf5
 v5 := Tryd.zeroValue5
 t9 := Tryd.underlying9
 a9 := Tryd.isAgg9
 z9 := Tryd.sizeOf9
 v9 := Tryd.zeroValue9
 t20 := Tryd.underlying20
 a20 := Tryd.isAgg20
 z20 := Tryd.sizeOf20
 v20 := Tryd.zeroValue20
 t37 := Tryd.underlying45
 a37 := Tryd.isAgg45
 z37 := Tryd.sizeOf45
 v37 := Tryd.zeroValue45
 t46 := Tryd.underlying138
 a46 := Tryd.isAgg138
 z46 := Tryd.sizeOf138
 v46 := Tryd.zeroValue138
 t51 := Tryd.underlying184
 a51 := Tryd.isAgg184
 z51 := Tryd.sizeOf184
 v51 := Tryd.zeroValue184
 t53 := Tryd.underlying109
 a53 := Tryd.isAgg109
 z53 := Tryd.sizeOf109
 v53 := Tryd.zeroValue109
 t171 := Tryd.underlying171
 a171 := Tryd.isAgg171
 z171 := Tryd.sizeOf171
 v171 := Tryd.zeroValue171
 t173 := Tryd.underlying174
 a173 := Tryd.isAgg174
 z173 := Tryd.sizeOf174
 v173 := Tryd.zeroValue174
 t212 := Tryd.underlying183
 a212 := Tryd.isAgg183
 z212 := Tryd.sizeOf183
 v212 := Tryd.zeroValue183
 t213 := Tryd.underlying185
 a213 := Tryd.isAgg185
 z213 := Tryd.sizeOf185
 t232 := Tryd.underlying193
 a232 := Tryd.isAgg193
 z232 := Tryd.sizeOf193
 v232 := Tryd.zeroValue193
 t233 := Tryd.underlying194
 a233 := Tryd.isAgg194
 z233 := Tryd.sizeOf194
 v233 := Tryd.zeroValue194
 g17 := by kernel_rfl
 g18 := by kernel_rfl
 g19 := by kernel_rfl
 i0 := by kernel_rfl
 i2 := by kernel_rfl
 i3 := by kernel_rfl
 i4 := by kernel_rfl
 i5 := by kernel_rfl
 i9 := by kernel_rfl
 i20 := by kernel_rfl
 i37 := by kernel_rfl
 i46 := by kernel_rfl
 i51 := by kernel_rfl
 i53 := by kernel_rfl
 i171 := by kernel_rfl
 i173 := by kernel_rfl
 i212 := by kernel_rfl
 i232 := by kernel_rfl
 i233 := by kernel_rfl
 m17 := by kernel_rfl
 m18 := by kernel_rfl
 m19 := by kernel_rfl
def F113.f (a0 : Int) (a1 : Int) : Option ByteArray := if a1 = 10 then (if -9223372036854775808 ≤ a0 ∧ a0 ≤ 9223372036854775807 then (some ⟨(Lib.itoa a0).toArray⟩) else (none)) else (none)
theorem F113.calls (a0 : Int) (a1 : Int) (r : ByteArray) (w : World) (hT : LaidT true Tryd.prog w) (h : F113.f a0 a1 = some r) :
  Calls Tryd.prog 113 #[.int .i64 a0, .int .i64 a1] w fun e w' => e = .returned (.string r) ∧ Below w.heap.size w w' := by
 unfold F113.f at h
 by_cases h1 : a1 = 10
 rotate_left
 ·rw [if_neg h1] at h
  cases h

 rw [if_pos h1] at h
 by_cases h2 : -9223372036854775808 ≤ a0 ∧ a0 ≤ 9223372036854775807
 rotate_left
 ·rw [if_neg h2] at h
  cases h
 rw [if_pos h2] at h
 subst h1
 obtain rfl := Option.some.inj h
 refine (Any.strconv_FormatInt_10 F113.lays a0 h2.1 h2.2 w hT.pow).mono ?_
 rintro e w' ⟨rfl, k, os, rfl⟩
 refine ⟨rfl, rfl, rfl, rfl, ?_, fun j hj => Array.getElem?_append_left hj⟩
 show w.heap.size ≤ (w.heap ++ os).size
 rw [Array.size_append]
 omega
/-! ### F88: function 88 -/
def F88.f (a0 : Int) : Option (ByteArray) := (F113.f a0 10).bind fun En => (some En)
theorem F88.calls (a0 : Int) (r : ByteArray) (w : World) (hT : LaidT true Tryd.prog w) (h : F88.f a0 = some r) :
  Calls Tryd.prog 88 #[.int .i64 a0] w fun e w' => e = .returned (.string r) ∧ Below w.heap.size w w' := by
 have HZT := am_ hT
 clear hT
 have HB := am_ (Below.refl w.heap.size w)
 have H : ((F113.f a0 10).bind fun En => (some En)) = some r := h
 clear h
 replace H := bi_ H; rcases H with ⟨En, A2, H⟩
 obtain rfl := Option.some.inj H
 go_enter Tryd.func88, Tryd.ntmps88
 go_wp2_with (first | ((with_reducible refine gate_callee (f := 113) rfl ?_); refine gl_ 4 Tryd.func113 #[.int .i64 a0, .int .i64 10] ?_ rfl rfl rfl rfl; (with_reducible refine (F113.calls a0 10 En _ ?s1 A2.out).mono ?_); (case s1 => exact au5_5); rintro e w3 ⟨rfl, hb⟩; refine ⟨_, rfl, ?_⟩; replace HB := hs_ w hb; (try clear hb)))
 go_ret
 exact ⟨au5_1, bl_⟩

/-! ### F77: function 77 -/
def F77.j0 : Nat → Int → Int → List ByteArray → Bool → Option (Int)
  | 0, _, _, _, _ => none
  | k + 1, x2, x3, x9, Nc => if Nc = true then (some 3) else (if 0 < (x9.length : Int) then ((F88.f x2).bind fun qI => (if (rdOf ByteArray.empty x9 0).toList = qI.toList then (if 1 < (x9.length : Int) then ((F88.f x3).bind fun sA => (if (rdOf ByteArray.empty x9 1).toList = sA.toList then (some 0) else (some 5))) else (none)) else (some 5))) else (none))
def F77.f (k : Nat) (ao : ByteArray) (ah : List (S55)) (a1 : ByteArray) (a2 : Int) (a3 : Int) : Option (Int) := (F60.f k ao ah a1 2).bind fun gl => (if gl.2 = true then (if 0 < (gl.1.length : Int) then ((F96.f k (rdOf ByteArray.empty gl.1 0)).bind fun H7 => (if H7 = true then (if 1 < (gl.1.length : Int) then ((F96.f k (rdOf ByteArray.empty gl.1 1)).bind fun Ax => (F77.j0 k a2 a3 gl.1 (!Ax))) else (none)) else (F77.j0 k a2 a3 gl.1 true))) else (none)) else (F77.j0 k a2 a3 gl.1 true))
theorem F77.mono_l : ∀ k, (∀ y0 y1 y2 y3, LeO (F77.j0 k y0 y1 y2 y3) (F77.j0 (k + 1) y0 y1 y2 y3))
 | 0 => fun _ _ _ _ r h => by simp [F77.j0] at h
 | k + 1 => by
  have b6 := F77.mono_l k
  intro y0 y1 y2 y3
  unfold F77.j0
  repeat' with_reducible first | exact b6 _ _ _ _ | exact F96.mono _ _ | exact F60.mono _ _ _ _ _ | exact LeO.refl _ | exact LeO.none _ | refine LeO.ite ?_ ?_ | refine LeO.bind ?_ (fun _ => ?_)
theorem F77.mono : ∀ a0 a1 a2 a3 a4 k, LeO (F77.f k a0 a1 a2 a3 a4) (F77.f (k + 1) a0 a1 a2 a3 a4) := by
 intro a0 a1 a2 a3 a4 k
 have b6 := F77.mono_l k
 unfold F77.f
 repeat' with_reducible first | exact b6 _ _ _ _ | exact F96.mono _ _ | exact F60.mono _ _ _ _ _ | exact LeO.refl _ | exact LeO.none _ | refine LeO.ite ?_ ?_ | refine LeO.bind ?_ (fun _ => ?_)
def F77.T4 : Bool × List (List Nat × List Nat) := (true, [([], []), ([0], [0]), ([1], [1]), ([], []), ([3], [3]), ([2, 4], [2, 4]), ([5, 4], [5]), ([6], [6]), ([7, 6], [6, 7]), ([8, 6], [6, 8]), ([6], [6]), ([10, 6, 6], [6, 10]), ([9, 11, 6], [6, 9, 11]), ([6, 12], [6, 12]), ([13, 11], [13])])
def F77.B4 : List Nat := [0, 1, 3, 0, 8, 31, 63, 127, 255, 511, 127, 1151, 4095, 8191, 16383]
theorem F77.tab4 : rtab .any (opsOf Tryd.f77 4) = F77.T4 := by kernel_rfl
theorem F77.bits4 : waitsOk F77.T4.2 F77.B4 = true := by kernel_rfl
theorem F77.calls (k : Nat) (ao : ByteArray) (b7 : Option Addr) (bV : Nat) (ah : List (S55)) (a1 : ByteArray) (a2 : Int) (a3 : Int) (r : Int) (w : World) (d9 : Kd.C k55 w b7 ah.length ah) (ea : ah.length ≤ bV) (hT : LaidT true Tryd.prog w) (h : F77.f k ao ah a1 a2 a3 = some r) :
  Calls Tryd.prog 77 #[.agg #[.string ao, .slice b7 ah.length bV], .string a1, .int .i64 a2, .int .i64 a3] w fun e w' => e = .returned (.int .i64 r) ∧ Below w.heap.size w w' := by
 have jn := Tryd.underlying52
 have gD := am_ d9
 have iG := am_ ea
 clear d9 ea
 have HZT := am_ hT
 clear hT
 have HB := am_ (Below.refl w.heap.size w)
 have H : ((F60.f k ao ah a1 2).bind fun gl => (if gl.2 = true then (if 0 < (gl.1.length : Int) then ((F96.f k (rdOf ByteArray.empty gl.1 0)).bind fun H7 => (if H7 = true then (if 1 < (gl.1.length : Int) then ((F96.f k (rdOf ByteArray.empty gl.1 1)).bind fun Ax => (F77.j0 k a2 a3 gl.1 (!Ax))) else (none)) else (F77.j0 k a2 a3 gl.1 true))) else (none)) else (F77.j0 k a2 a3 gl.1 true))) = some r := h
 clear h
 replace H := bi_ H; rcases H with ⟨⟨di, a7u⟩, A5, H⟩
 have BN := am_ H
 clear H
 go_enter Tryd.func77, Tryd.ntmps77
 go_upto_region 2 with (first | ((with_reducible refine gate_dst (N := 4) rfl ?_); refine be_ 4 #[.string ao, .slice b7 ah.length bV] 52 ?_; intro WE hg w7 hbox hb; have dx := am_ (hbox); have WF := am_ (gw_ hg bl_); have b1q := WF; replace HB := hs_ w hb; clear hb hbox hg; obtain ⟨uT, uU, uV, uW⟩ := cellsF2 dx.out) | ((with_reducible refine gate_callee (f := 60) rfl ?_); refine gl_ 14 Tryd.func60 #[.agg #[.string ao, .slice b7 ah.length bV], .string a1, .int .i64 2] ?_ rfl rfl rfl rfl; (with_reducible refine (F60.calls k ao _ _ ah a1 2 di a7u _ ?s1 ?s2 A5.out).mono ?_); (case s1 => exact au5_2); (case s2 => exact iG.out); rintro e w9 ⟨a7v, rfl, bm, hb⟩; refine ⟨_, rfl, ?_⟩; have ow := am_ (Kd.R_lower bm (below_size bl_)); replace dx := bb_ dx hb; replace HB := hs_ w hb; clear hb bm))
 (try simp only [Act.put, List.setIfInBounds_toArray, List.set_cons_zero, List.set_cons_succ])
 go_cut [17] (fun v17 wc => ∃ (kq : Nat) (Eo : Bool), v17 = .bool Eo ∧ Aside0 (F77.j0 kq a2 a3 di Eo = some r) ∧ Aside0 (kq ≤ k) ∧ Aside0 (Kd.R Kd.string 9 wc w.heap.size (fun _ => True) a7v di) ∧ Aside0 (wc.heap[WE]? = some (.cells #[.string ao, (.slice b7 ah.length bV)] 52 (0, 0))) ∧ Aside0 (Below w.heap.size w wc))
 case first =>
  have H := BN.out
  clear BN
  replace H := ib_ H; rcases H with ⟨rfl, H⟩ | ⟨rfl, H⟩
  rotate_left
  ·have H' := am_ H
   clear H
   go_wp2
   go_meet
   case rel => exact ⟨_, (true), er_, H', ⟨by first | omega | exact Nat.le_refl _⟩, ⟨rk_ ow⟩, ⟨bk_ dx⟩, ⟨bl_⟩⟩
  replace H := itn_ H; rcases H with ⟨c11b0, H⟩
  have c11b1 : decide (0 < di.length) = true := n2_ c11b0
  (first | rw [c11b0] | (simp only [i64_w, i32_w]; rw [c11b0]) | skip)
  replace H := bi_ H; rcases H with ⟨H7, A12, H⟩
  replace H := ib_ H; rcases H with ⟨rfl, H⟩ | ⟨rfl, H⟩
  rotate_left
  ·have H' := am_ H
   clear H
   obtain ⟨Ay, bv, vq⟩ := Kd.R_slice ow.out
   subst vq
   have tY : 0 ≤ (0 : Int) := (by omega)
   have tZ : 0 < (di.length : Int) := od_
   obtain ⟨Kt, Nd, lp⟩ := Kd.at_string (Kd.R_reads' ow.out).2.2 0 tY tZ
   cases Nd
   have WG : (0 < di.length) = True := eq_true (by omega)
   (try rw [show ((0 : Int)).toNat = 0 from rfl] at lp)
   (try rw [Addr.add_zero'] at lp)
   replace tY := eq_true tY
   replace tZ := eq_true tZ
   go_wp2_with (first | (go_at_call 96; (with_reducible refine (F96.calls k (rdOf ByteArray.empty di 0) false _ A12.out).mono ?_); rintro e w' ⟨rfl, ⟨nd, rfl⟩⟩))
   go_meet
   case rel => exact ⟨_, (true), er_, H', ⟨by first | omega | exact Nat.le_refl _⟩, ⟨rk_ ow⟩, ⟨bk_ dx⟩, ⟨bl_⟩⟩
  replace H := itn_ H; rcases H with ⟨c14b0, H⟩
  have c14b1 : decide (1 < di.length) = true := n2_ c14b0
  replace H := bi_ H; rcases H with ⟨Ax, A15, H⟩
  have H' := am_ H
  clear H
  obtain ⟨b5Z, b50, a7w⟩ := Kd.R_slice ow.out
  subst a7w
  have tY : 0 ≤ (0 : Int) := (by omega)
  have tZ : 0 < (di.length : Int) := od_
  obtain ⟨Kt, Nd, lp⟩ := Kd.at_string (Kd.R_reads' ow.out).2.2 0 tY tZ
  cases Nd
  have WG : (0 < di.length) = True := eq_true (by omega)
  (try rw [show ((0 : Int)).toNat = 0 from rfl] at lp)
  (try rw [Addr.add_zero'] at lp)
  replace tY := eq_true tY
  replace tZ := eq_true tZ
  go_wp2_with (first | (go_at_call 96; (with_reducible refine (F96.calls k (rdOf ByteArray.empty di 0) true _ A12.out).mono ?_); rintro e w' ⟨rfl, ⟨nd, rfl⟩⟩; have H8 : 0 ≤ (1 : Int) := (by omega); have H9 : 1 < (di.length : Int) := od_; obtain ⟨WH, a7x, sB⟩ := Kd.at_string (Kd.R_reads' ow.out).2.2 1 H8 H9; obtain rfl : Kt = WH := (by injection a7x); (try simp only [show (1 : Int).toNat = 1 from rfl, Nat.reduceMul, Nat.reduceEqDiff, Go.Addr.add, ↓reduceIte] at sB); have b1s : (1 < di.length) = True := eq_true (by omega); (try rw [show ((1 : Int)).toNat = 1 from rfl] at sB); replace H8 := eq_true H8; replace H9 := eq_true H9) | (go_at_call 96; (with_reducible refine (F96.calls k (rdOf ByteArray.empty di 1) Ax _ A15.out).mono ?_); rintro e w' ⟨rfl, ⟨nd, rfl⟩⟩))
  go_meet
  case rel => exact ⟨_, (!Ax), er_, H', ⟨by first | omega | exact Nat.le_refl _⟩, ⟨rk_ ow⟩, ⟨bk_ dx⟩, ⟨bl_⟩⟩
 case rest =>
  clear BN
  try clear c11b0
  try clear c11b1
  try clear c14b0
  try clear c14b1
  try clear uT uU
  try clear uV uW
  try clear lp
  try clear sB
  try clear tY
  try clear H8
  try clear tZ
  try clear H9
  obtain ⟨kq, Eo, rfl, HA, Fw, fO, dx, HB⟩ := hcut
  cases kq with
  | zero => exact absurd HA.out (by simp [F77.j0])
  | succ OE =>
   have H := HA.out
   clear HA
   simp only [F77.j0] at H
   replace H := ib_ H; rcases H with ⟨rfl, H⟩ | ⟨rfl, H⟩
   ·obtain rfl := Option.some.inj H
    go_wp2
    go_ret
    exact ⟨au5_1, bl_⟩
   by_cases c19 : 0 < (di.length : Int)
   rotate_left
   ·rw [if_neg c19] at H
    exact absurd H (by simp)

   rw [if_pos c19] at H
   have c19b0 : decide (0 < (di.length : Int)) = true := decide_eq_true c19
   have c19b1 : decide (0 < di.length) = true := decide_eq_true (by omega)
   clear c19
   replace H := bi_ H; rcases H with ⟨qI, A20, H⟩
   by_cases c21 : (rdOf ByteArray.empty di 0).toList = qI.toList
   rotate_left
   ·rw [if_neg c21] at H
    have c21b0 : ((rdOf ByteArray.empty di 0).toList == qI.toList) = false := beq_eq_false_iff_ne.mpr c21
    have c21b1 : ((rdOf ByteArray.empty di 0).toList != qI.toList) = true := bne_iff_ne.mpr c21
    obtain rfl := Option.some.inj H
    try go_wp2
    replace fO := am_ (Kd.R_drew fO.out)
    replace dx := bd_ dx
    replace HB := am_ (below_drew1 HB.out)
    obtain ⟨b51, b52, WI⟩ := Kd.R_slice fO.out
    (first | subst WI | (injection WI with dY gS dZ; have gT := dY.symm; have gU := dZ.symm; clear dY gS dZ; subst gT; subst gU))
    have qa : 0 ≤ (0 : Int) := (by omega)
    have qb : 0 < (di.length : Int) := od_
    obtain ⟨kE, Ep, d7⟩ := Kd.at_string (Kd.R_reads' fO.out).2.2 0 qa qb
    cases Ep
    have Ku : (0 < di.length) = True := eq_true (by omega)
    (try rw [show ((0 : Int)).toNat = 0 from rfl] at d7)
    (try rw [Addr.add_zero'] at d7)
    replace qa := eq_true qa
    replace qb := eq_true qb
    refine start_ (n := 15) (S := fun w' => w'.cell? kE = some (.string (rdOf ByteArray.empty di 0))) (ds := []) (bs 15 0) (by kernel_rfl) rfl rfl (d7) (fun hHeld => ?_); refine with_tabW F77.tab4 F77.bits4 (fun HT_ HW_ => ?_)
    generalize wc.drew = K1 at fO dx HB d7 hHeld ⊢
    refine pu_ 0 35 (bs 15 1) HT_ ?_ rfl rfl
    refine pu_ 1 36 (bs 15 3) HT_ ?_ rfl rfl
    refine pu_ 3 38 (bs 15 11) HT_ ?_ rfl rfl
    refine take_ (i := 2) (N := some 37) (v := ?_) (a' := ?_) (bs 15 15) rfl rfl (take_ofW HT_.out HW_.out (by kernel_rfl)) (fun _ _ _ h => h) (Or.inl ⟨by rfl, ?_⟩) hHeld ?_ ?_
    rotate_left
    ·intro w' s0
     go_simp
     with_reducible rfl
    rotate_left
    ·simp only [Act.put, List.setIfInBounds_toArray, List.set_cons_zero, List.set_cons_succ, i64_w, i32_w]
     rfl
    refine one_ (i := 4) (N := some 39) (bs 15 31) rfl rfl (one_of HT_.out (by kernel_rfl)) (by decide) (fun K hK => ?_)
    refine gr_ Tryd.func88 #[.int .i64 a2] (by rfl) ?_ rfl rfl rfl
    with_reducible refine (F88.calls a2 qI _ ?s1 A20.out).mono ?_
    (case s1 => exact au5_5)
    rintro e ta ⟨rfl, hb⟩
    have sC := (hb.cell (World.block_lt_of_cell? _ _ (hHeld))).trans (hHeld)
    refine ⟨_, rfl, ?_⟩
    replace fO := am_ (Kd.R_below (rk_ fO) hb)
    replace dx := bb_ dx hb
    replace HB := hs_ w hb
    (try clear hb)
    (try clear hb2)
    (try clear hk)
    (try clear hi)
    refine hK.out _ _ (sC) (fun hHeld => ?_)
    clear hK K
    refine no_ 39 ?_
    refine pu_ 5 40 (bs 15 63) HT_ ?_ rfl rfl
    refine pu_ 6 41 (bs 15 127) HT_ ?_ rfl rfl
    refine pv_ 7 42 (bs 15 255) HT_ ?_ rfl rfl
    refine pv_ 8 43 (bs 15 511) HT_ ?_ rfl rfl
    refine pv_ 9 44 (bs 15 1023) HT_ ?_ rfl rfl
    refine pv_ 10 45 (bs 15 2047) HT_ ?_ rfl rfl
    refine pv_ 11 46 (bs 15 4095) HT_ ?_ rfl rfl
    refine pv_ 12 47 (bs 15 8191) HT_ ?_ rfl rfl
    refine pu_ 13 48 (bs 15 16383) HT_ ?_ rfl rfl
    refine pu_ 14 34 (bs 15 32767) HT_ ?_ rfl rfl
    refine done_ (done_of HT_.out (by kernel_rfl)) ?_
    try go_wp2
    go_ret
    exact ⟨au5_1, bl_⟩
   rw [if_pos c21] at H
   have c21b0 : ((rdOf ByteArray.empty di 0).toList == qI.toList) = true := beq_iff_eq.mpr c21
   have c21b1 : ((rdOf ByteArray.empty di 0).toList != qI.toList) = false := bne_eq_false_iff_eq.mpr c21
   clear c21
   replace H := itn_ H; rcases H with ⟨c22b0, H⟩
   have c22b1 : decide (1 < di.length) = true := n2_ c22b0
   replace H := bi_ H; rcases H with ⟨sA, A23, H⟩
   by_cases oH : (rdOf ByteArray.empty di 1).toList = sA.toList
   rotate_left
   ·rw [if_neg oH] at H
    have c24b0 : ((rdOf ByteArray.empty di 1).toList == sA.toList) = false := beq_eq_false_iff_ne.mpr oH
    have c24b1 : ((rdOf ByteArray.empty di 1).toList != sA.toList) = true := bne_iff_ne.mpr oH
    obtain rfl := Option.some.inj H
    try go_wp2
    replace fO := am_ (Kd.R_drew fO.out)
    replace dx := bd_ dx
    replace HB := am_ (below_drew1 HB.out)
    obtain ⟨b53, b54, WJ⟩ := Kd.R_slice fO.out
    (first | subst WJ | (injection WJ with dY gS dZ; have gT := dY.symm; have gU := dZ.symm; clear dY gS dZ; subst gT; subst gU))
    have qa : 0 ≤ (0 : Int) := (by omega)
    have qb : 0 < (di.length : Int) := od_
    obtain ⟨kE, Ep, d7⟩ := Kd.at_string (Kd.R_reads' fO.out).2.2 0 qa qb
    cases Ep
    have Ku : (0 < di.length) = True := eq_true (by omega)
    (try rw [show ((0 : Int)).toNat = 0 from rfl] at d7)
    (try rw [Addr.add_zero'] at d7)
    replace qa := eq_true qa
    replace qb := eq_true qb
    have vr : 0 ≤ (1 : Int) := (by omega)
    have vt : 1 < (di.length : Int) := od_
    obtain ⟨Er, Nf, hZ⟩ := Kd.at_string (Kd.R_reads' fO.out).2.2 1 vr vt
    obtain rfl : kE = Er := (by injection Nf)
    (try simp only [show (1 : Int).toNat = 1 from rfl, Nat.reduceMul, Nat.reduceEqDiff, Go.Addr.add, ↓reduceIte] at hZ)
    have WK : (1 < di.length) = True := eq_true (by omega)
    (try rw [show ((1 : Int)).toNat = 1 from rfl] at hZ)
    replace vr := eq_true vr
    replace vt := eq_true vt
    refine start_ (n := 15) (S := fun w' => w'.cell? kE = some (.string (rdOf ByteArray.empty di 0)) ∧ w'.cell? ⟨kE.block, kE.off + 1, none⟩ = some (.string (rdOf ByteArray.empty di 1))) (ds := []) (bs 15 0) (by kernel_rfl) rfl rfl ⟨d7, hZ⟩ (fun hHeld => ?_); refine with_tabW F77.tab4 F77.bits4 (fun HT_ HW_ => ?_)
    generalize wc.drew = K0 at fO dx HB d7 hZ hHeld ⊢
    refine pu_ 0 35 (bs 15 1) HT_ ?_ rfl rfl
    refine pu_ 1 36 (bs 15 3) HT_ ?_ rfl rfl
    refine pu_ 3 38 (bs 15 11) HT_ ?_ rfl rfl
    refine tk_ 2 37 (bs 15 15) HT_ HW_ hHeld au5_6 ?_ rfl rfl
    refine one_ (i := 4) (N := some 39) (bs 15 31) rfl rfl (one_of HT_.out (by kernel_rfl)) (by decide) (fun K hK => ?_)
    refine gr_ Tryd.func88 #[.int .i64 a2] (by rfl) ?_ rfl rfl rfl
    with_reducible refine (F88.calls a2 qI _ ?s1 A20.out).mono ?_
    (case s1 => exact au5_5)
    rintro e AM ⟨rfl, hb⟩
    have sC := (hb.cell (World.block_lt_of_cell? _ _ (hHeld.1))).trans (hHeld.1)
    have vu := (hb.cell (World.block_lt_of_cell? _ _ (hHeld.2))).trans (hHeld.2)
    refine ⟨_, rfl, ?_⟩
    replace fO := am_ (Kd.R_below (rk_ fO) hb)
    replace dx := bb_ dx hb
    replace HB := hs_ w hb
    (try clear hb)
    (try clear hb2)
    (try clear hk)
    (try clear hi)
    refine hK.out _ _ ⟨sC, vu⟩ (fun hHeld => ?_)
    clear hK K
    refine no_ 39 ?_
    refine pu_ 5 40 (bs 15 63) HT_ ?_ rfl rfl
    refine pu_ 6 41 (bs 15 127) HT_ ?_ rfl rfl
    refine pu_ 7 42 (bs 15 255) HT_ ?_ rfl rfl
    refine pu_ 8 43 (bs 15 511) HT_ ?_ rfl rfl
    refine pu_ 10 45 (bs 15 1535) HT_ ?_ rfl rfl
    refine tk_ 9 44 (bs 15 2047) HT_ HW_ hHeld au5_6 ?_ rfl rfl
    refine one_ (i := 11) (N := some 46) (bs 15 4095) rfl rfl (one_of HT_.out (by kernel_rfl)) (by decide) (fun K hK => ?_)
    refine gr_ Tryd.func88 #[.int .i64 a3] (by rfl) ?_ rfl rfl rfl
    with_reducible refine (F88.calls a3 sA _ ?s1 A23.out).mono ?_
    (case s1 => exact au5_5)
    rintro e w32 ⟨rfl, hb⟩
    have sC := (hb.cell (World.block_lt_of_cell? _ _ (hHeld.1))).trans (hHeld.1)
    have vu := (hb.cell (World.block_lt_of_cell? _ _ (hHeld.2))).trans (hHeld.2)
    refine ⟨_, rfl, ?_⟩
    replace fO := am_ (Kd.R_below (rk_ fO) hb)
    replace dx := bb_ dx hb
    replace HB := hs_ w hb
    (try clear hb)
    (try clear hb2)
    (try clear hk)
    (try clear hi)
    refine hK.out _ _ ⟨sC, vu⟩ (fun hHeld => ?_)
    clear hK K
    refine no_ 46 ?_
    refine pu_ 12 47 (bs 15 8191) HT_ ?_ rfl rfl
    refine pu_ 13 48 (bs 15 16383) HT_ ?_ rfl rfl
    refine pu_ 14 34 (bs 15 32767) HT_ ?_ rfl rfl
    refine done_ (done_of HT_.out (by kernel_rfl)) ?_
    try go_wp2
    go_ret
    exact ⟨au5_1, bl_⟩
   rw [if_pos oH] at H
   have c24b0 : ((rdOf ByteArray.empty di 1).toList == sA.toList) = true := beq_iff_eq.mpr oH
   have c24b1 : ((rdOf ByteArray.empty di 1).toList != sA.toList) = false := bne_eq_false_iff_eq.mpr oH
   clear oH
   obtain rfl := Option.some.inj H
   try go_wp2
   replace fO := am_ (Kd.R_drew fO.out)
   replace dx := bd_ dx
   replace HB := am_ (below_drew1 HB.out)
   obtain ⟨Ng, Nh, Es⟩ := Kd.R_slice fO.out
   (first | subst Es | (injection Es with dY gS dZ; have gT := dY.symm; have gU := dZ.symm; clear dY gS dZ; subst gT; subst gU))
   have qa : 0 ≤ (0 : Int) := (by omega)
   have qb : 0 < (di.length : Int) := od_
   obtain ⟨kE, Ep, d7⟩ := Kd.at_string (Kd.R_reads' fO.out).2.2 0 qa qb
   cases Ep
   have Ku : (0 < di.length) = True := eq_true (by omega)
   (try rw [show ((0 : Int)).toNat = 0 from rfl] at d7)
   (try rw [Addr.add_zero'] at d7)
   replace qa := eq_true qa
   replace qb := eq_true qb
   have vr : 0 ≤ (1 : Int) := (by omega)
   have vt : 1 < (di.length : Int) := od_
   obtain ⟨Er, Nf, hZ⟩ := Kd.at_string (Kd.R_reads' fO.out).2.2 1 vr vt
   obtain rfl : kE = Er := (by injection Nf)
   (try simp only [show (1 : Int).toNat = 1 from rfl, Nat.reduceMul, Nat.reduceEqDiff, Go.Addr.add, ↓reduceIte] at hZ)
   have WK : (1 < di.length) = True := eq_true (by omega)
   (try rw [show ((1 : Int)).toNat = 1 from rfl] at hZ)
   replace vr := eq_true vr
   replace vt := eq_true vt
   refine start_ (n := 15) (S := fun w' => w'.cell? kE = some (.string (rdOf ByteArray.empty di 0)) ∧ w'.cell? ⟨kE.block, kE.off + 1, none⟩ = some (.string (rdOf ByteArray.empty di 1))) (ds := []) (bs 15 0) (by kernel_rfl) rfl rfl ⟨d7, hZ⟩ (fun hHeld => ?_); refine with_tabW F77.tab4 F77.bits4 (fun HT_ HW_ => ?_)
   generalize wc.drew = w25 at fO dx HB d7 hZ hHeld ⊢
   refine pu_ 0 35 (bs 15 1) HT_ ?_ rfl rfl
   refine pu_ 1 36 (bs 15 3) HT_ ?_ rfl rfl
   refine pu_ 3 38 (bs 15 11) HT_ ?_ rfl rfl
   refine tk_ 2 37 (bs 15 15) HT_ HW_ hHeld au5_6 ?_ rfl rfl
   refine one_ (i := 4) (N := some 39) (bs 15 31) rfl rfl (one_of HT_.out (by kernel_rfl)) (by decide) (fun K hK => ?_)
   refine gr_ Tryd.func88 #[.int .i64 a2] (by rfl) ?_ rfl rfl rfl
   with_reducible refine (F88.calls a2 qI _ ?s1 A20.out).mono ?_
   (case s1 => exact au5_5)
   rintro e Fu ⟨rfl, hb⟩
   have sC := (hb.cell (World.block_lt_of_cell? _ _ (hHeld.1))).trans (hHeld.1)
   have vu := (hb.cell (World.block_lt_of_cell? _ _ (hHeld.2))).trans (hHeld.2)
   refine ⟨_, rfl, ?_⟩
   replace fO := am_ (Kd.R_below (rk_ fO) hb)
   replace dx := bb_ dx hb
   replace HB := hs_ w hb
   (try clear hb)
   (try clear hb2)
   (try clear hk)
   (try clear hi)
   refine hK.out _ _ ⟨sC, vu⟩ (fun hHeld => ?_)
   clear hK K
   refine no_ 39 ?_
   refine pu_ 5 40 (bs 15 63) HT_ ?_ rfl rfl
   refine pu_ 6 41 (bs 15 127) HT_ ?_ rfl rfl
   refine pu_ 7 42 (bs 15 255) HT_ ?_ rfl rfl
   refine pu_ 8 43 (bs 15 511) HT_ ?_ rfl rfl
   refine pu_ 10 45 (bs 15 1535) HT_ ?_ rfl rfl
   refine tk_ 9 44 (bs 15 2047) HT_ HW_ hHeld au5_6 ?_ rfl rfl
   refine one_ (i := 11) (N := some 46) (bs 15 4095) rfl rfl (one_of HT_.out (by kernel_rfl)) (by decide) (fun K hK => ?_)
   refine gr_ Tryd.func88 #[.int .i64 a3] (by rfl) ?_ rfl rfl rfl
   with_reducible refine (F88.calls a3 sA _ ?s1 A23.out).mono ?_
   (case s1 => exact au5_5)
   rintro e vv ⟨rfl, hb⟩
   have sC := (hb.cell (World.block_lt_of_cell? _ _ (hHeld.1))).trans (hHeld.1)
   have vu := (hb.cell (World.block_lt_of_cell? _ _ (hHeld.2))).trans (hHeld.2)
   refine ⟨_, rfl, ?_⟩
   replace fO := am_ (Kd.R_below (rk_ fO) hb)
   replace dx := bb_ dx hb
   replace HB := hs_ w hb
   (try clear hb)
   (try clear hb2)
   (try clear hk)
   (try clear hi)
   refine hK.out _ _ ⟨sC, vu⟩ (fun hHeld => ?_)
   clear hK K
   refine no_ 46 ?_
   refine pu_ 12 47 (bs 15 8191) HT_ ?_ rfl rfl
   refine pu_ 13 48 (bs 15 16383) HT_ ?_ rfl rfl
   refine pu_ 14 34 (bs 15 32767) HT_ ?_ rfl rfl
   refine done_ (done_of HT_.out (by kernel_rfl)) ?_
   try go_wp2
   go_ret
   exact ⟨au5_1, bl_⟩
/-! ### F137: function 137 -/
def F137.l0 : Nat → ByteArray → Int → Int → Option (Bool)
  | 0, _, _, _ => none
  | k + 1, x0, x5, x6 => if x6 < x5 then (if 0 ≤ x6 then (if x6 < (x0.size : Int) then (if (bt x0 x6) < 32 then (some false) else (if (bt x0 x6) > 126 then (some false) else (F137.l0 k x0 x5 (wrap64 (x6 + 1))))) else (none)) else (none)) else (some true)
def F137.f (k : Nat) (a0 : ByteArray) : Option (Bool) := F137.l0 k a0 (a0.size : Int) 0
theorem F137.mono_l : ∀ k, (∀ y0 y1 y2, LeO (F137.l0 k y0 y1 y2) (F137.l0 (k + 1) y0 y1 y2))
 | 0 => fun _ _ _ r h => by simp [F137.l0] at h
 | k + 1 => by
  have b6 := F137.mono_l k
  intro y0 y1 y2
  unfold F137.l0
  repeat' with_reducible first | exact b6 _ _ _ | exact LeO.refl _ | exact LeO.none _ | refine LeO.ite ?_ ?_ | refine LeO.bind ?_ (fun _ => ?_)
theorem F137.mono : ∀ a0 k, LeO (F137.f k a0) (F137.f (k + 1) a0) := by
 intro a0 k
 have b6 := F137.mono_l k
 unfold F137.f
 repeat' with_reducible first | exact b6 _ _ _ | exact LeO.refl _ | exact LeO.none _ | refine LeO.ite ?_ ?_ | refine LeO.bind ?_ (fun _ => ?_)
theorem F137.calls (k : Nat) (a0 : ByteArray) (r : Bool) (w : World) (h : F137.f k a0 = some r) :
  Calls Tryd.prog 137 #[.string a0] w fun e w' => e = .returned (.bool r) ∧ Drawn0 w w' := by
 have H : (F137.l0 k a0 (a0.size : Int) 0) = some r := h
 clear h
 have H' := am_ H
 clear H
 go_enter Tryd.func137, Tryd.ntmps137
 go_wp2
 go_loopg [6] k (fun kq v6 w' => ∃ (bg : Int), v6 = .int .i64 bg ∧ Aside0 (F137.l0 kq a0 (a0.size : Int) bg = some r) ∧ Aside0 (kq ≤ k) ∧ Drawn0 w w')
 case atStart => exact ⟨(0), er_, H', ⟨Nat.le_refl _⟩, dn_⟩
 case round =>
  clear H'
  obtain ⟨bg, rfl, HA, dk, ⟨m1, rfl⟩⟩ := hrel
  cases gk with
  | zero => exact absurd HA.out (by simp [F137.l0])
  | succ k1 =>
   have H := HA.out
   clear HA
   simp only [F137.l0] at H
   replace H := it_ H; rcases H with ⟨c2b0, H⟩ | ⟨c2b0, H⟩
   rotate_left
   ·obtain rfl := Option.some.inj H
    go_wp2
    go_ret
    exact ⟨er_, dn_⟩

   replace H := itn_ H; rcases H with ⟨c3b0, H⟩
   replace H := itn_ H; rcases H with ⟨c4b0, H⟩
   replace H := it_ H; rcases H with ⟨c6b0, H⟩ | ⟨c6b0, H⟩
   ·obtain rfl := Option.some.inj H
    have p5 : 0 ≤ (bg : Int) := od_
    have q5 : bg < (a0.size : Int) := od_
    have wy := bt_at a0 bg
    replace p5 := eq_true p5
    replace q5 := eq_true q5
    go_wp2
    go_ret
    exact ⟨er_, dn_⟩
   replace H := it_ H; rcases H with ⟨(c8b0 : decide (126 < (bt a0 bg)) = true), H⟩ | ⟨(c8b0 : decide (126 < (bt a0 bg)) = false), H⟩
   ·obtain rfl := Option.some.inj H
    have p5 : 0 ≤ (bg : Int) := od_
    have q5 : bg < (a0.size : Int) := od_
    have wy := bt_at a0 bg
    replace p5 := eq_true p5
    replace q5 := eq_true q5
    have p7 : 0 ≤ (bg : Int) := od_
    have q7 : bg < (a0.size : Int) := od_
    have nl := bt_at a0 bg
    replace p7 := eq_true p7
    replace q7 := eq_true q7
    go_wp2
    go_ret
    exact ⟨er_, dn_⟩
   have H' := am_ H
   clear H
   have p5 : 0 ≤ (bg : Int) := od_
   have q5 : bg < (a0.size : Int) := od_
   have wy := bt_at a0 bg
   replace p5 := eq_true p5
   replace q5 := eq_true q5
   have p7 : 0 ≤ (bg : Int) := od_
   have q7 : bg < (a0.size : Int) := od_
   have nl := bt_at a0 bg
   replace p7 := eq_true p7
   replace q7 := eq_true q7
   go_wp2
   go_roundg k1
   case measure => have := dk.out; omega
   case rel => exact ⟨(wrap64 (bg + 1)), er_, H', ⟨by have := dk.out; omega⟩, dn_⟩
/-! ### F123: function 123 -/
def F123.f (k : Nat) (a0 : ByteArray) : Option (Bool) := if (a0.size : Int) ≤ 40 then ((F137.f k a0).bind fun Et => (some Et)) else (some false)
theorem F123.mono : ∀ a0 k, LeO (F123.f k a0) (F123.f (k + 1) a0) := by
 intro a0 k
 unfold F123.f
 repeat' with_reducible first | exact F137.mono _ _ | exact LeO.refl _ | exact LeO.none _ | refine LeO.ite ?_ ?_ | refine LeO.bind ?_ (fun _ => ?_)
theorem F123.calls (k : Nat) (a0 : ByteArray) (r : Bool) (w : World) (h : F123.f k a0 = some r) :
  Calls Tryd.prog 123 #[.string a0] w fun e w' => e = .returned (.bool r) ∧ Drawn0 w w' := by
 have H : (if (a0.size : Int) ≤ 40 then ((F137.f k a0).bind fun Et => (some Et)) else (some false)) = some r := h
 clear h
 replace H := it_ H; rcases H with ⟨c2b0, H⟩ | ⟨c2b0, H⟩
 rotate_left
 ·have c2b1 : decide (a0.size ≤ 40) = false := n2_ c2b0
  obtain rfl := Option.some.inj H
  go_enter Tryd.func123, Tryd.ntmps123
  go_wp2
  go_ret
  exact ⟨er_, dn_⟩

 have c2b1 : decide (a0.size ≤ 40) = true := n2_ c2b0
 replace H := bi_ H; rcases H with ⟨Et, A3, H⟩
 obtain rfl := Option.some.inj H
 go_enter Tryd.func123, Tryd.ntmps123
 go_wp2_with (first | (go_at_call 137; (with_reducible refine (F137.calls k a0 Et _ A3.out).mono ?_); rintro e w' ⟨rfl, ⟨nd, rfl⟩⟩))
 go_ret
 exact ⟨er_, dn_⟩
/-! ### F122: function 122 -/
def F122.f (k : Nat) (a0 : ByteArray) : Option (Bool) := (F123.f k a0).bind fun Eu => (some (!Eu))
theorem F122.mono : ∀ a0 k, LeO (F122.f k a0) (F122.f (k + 1) a0) := by
 intro a0 k
 unfold F122.f
 repeat' with_reducible first | exact F123.mono _ _ | exact LeO.refl _ | exact LeO.none _ | refine LeO.ite ?_ ?_ | refine LeO.bind ?_ (fun _ => ?_)
theorem F122.calls (k : Nat) (a0 : ByteArray) (r : Bool) (w : World) (h : F122.f k a0 = some r) :
  Calls Tryd.prog 122 #[.string a0] w fun e w' => e = .returned (.bool r) ∧ Drawn0 w w' := by
 have H : ((F123.f k a0).bind fun Eu => (some (!Eu))) = some r := h
 clear h
 replace H := bi_ H; rcases H with ⟨Eu, A2, H⟩
 obtain rfl := Option.some.inj H
 go_enter Tryd.func122, Tryd.ntmps122
 go_wp2_with (first | ((with_reducible refine gate_callee (f := 123) rfl ?_); refine gl_ 4 Tryd.func123 #[.string a0] ?_ rfl rfl rfl rfl; (with_reducible refine (F123.calls k a0 Eu _ A2.out).mono ?_); rintro e w' ⟨rfl, ⟨nd, rfl⟩⟩; refine ⟨_, rfl, ?_⟩))
 go_ret
 exact ⟨er_, dn_⟩

/-! ### F124: function 124 -/
def F124.f (a0 : ByteArray) : Option (Bool) := if (a0.size : Int) = 3 then (if 0 < (a0.size : Int) then ((F93.f (bt a0 0)).bind fun Ia => (if Ia = true then (if 1 < (a0.size : Int) then ((F93.f (bt a0 1)).bind fun Ib => (if Ib = true then (if 2 < (a0.size : Int) then ((F93.f (bt a0 2)).bind fun Ew => (some Ew)) else (none)) else (some false))) else (none)) else (some false))) else (none)) else (some false)
theorem F124.calls (a0 : ByteArray) (r : Bool) (w : World) (h : F124.f a0 = some r) :
  Calls Tryd.prog 124 #[.string a0] w fun e w' => e = .returned (.bool r) ∧ Drawn0 w w' := by
 have H : (if (a0.size : Int) = 3 then (if 0 < (a0.size : Int) then ((F93.f (bt a0 0)).bind fun Ia => (if Ia = true then (if 1 < (a0.size : Int) then ((F93.f (bt a0 1)).bind fun Ib => (if Ib = true then (if 2 < (a0.size : Int) then ((F93.f (bt a0 2)).bind fun Ew => (some Ew)) else (none)) else (some false))) else (none)) else (some false))) else (none)) else (some false)) = some r := h
 clear h
 by_cases c2 : (a0.size : Int) = 3
 rotate_left
 ·rw [if_neg c2] at H
  have c2b0 : ((a0.size : Int) == 3) = false := beq_eq_false_iff_ne.mpr c2
  have c2b1 : ((a0.size : Int) != 3) = true := bne_iff_ne.mpr c2
  obtain rfl := Option.some.inj H
  go_enter Tryd.func124, Tryd.ntmps124
  go_wp2
  go_ret
  exact ⟨er_, dn_⟩

 rw [if_pos c2] at H
 have c2b0 : ((a0.size : Int) == 3) = true := beq_iff_eq.mpr c2
 have c2b1 : ((a0.size : Int) != 3) = false := bne_eq_false_iff_eq.mpr c2
 clear c2
 replace H := itn_ H; rcases H with ⟨c3b0, H⟩
 have c3b1 : decide (0 < a0.size) = true := n2_ c3b0
 replace H := bi_ H; rcases H with ⟨Ia, A5, H⟩
 replace H := ib_ H; rcases H with ⟨rfl, H⟩ | ⟨rfl, H⟩
 rotate_left
 ·obtain rfl := Option.some.inj H
  have p4 : 0 ≤ (0 : Int) := (by omega)
  have q4 : 0 < a0.size := (by have : (0 : Int) < (a0.size : Int) := od_; omega)
  have hx4 : ∀ h : 0 < a0.size, ((a0[0]'h).toNat : Int) = bt a0 0 := bt_at a0 0
  clear p4
  have qi4 : (0 < (a0.size : Int)) = True := eq_true (of_decide_eq_true as_)
  replace q4 := eq_true q4
  go_enter Tryd.func124, Tryd.ntmps124
  go_wp2_with (first | (go_at_call 93; (with_reducible refine (F93.calls (bt a0 0) false _ A5.out).mono ?_); rintro e w' ⟨rfl, ⟨nd, rfl⟩⟩))
  go_ret
  exact ⟨er_, dn_⟩
 replace H := itn_ H; rcases H with ⟨c7b0, H⟩
 have c7b1 : decide (1 < a0.size) = true := n2_ c7b0
 replace H := bi_ H; rcases H with ⟨Ib, A9, H⟩
 replace H := ib_ H; rcases H with ⟨rfl, H⟩ | ⟨rfl, H⟩
 rotate_left
 ·obtain rfl := Option.some.inj H
  have p4 : 0 ≤ (0 : Int) := (by omega)
  have q4 : 0 < a0.size := (by have : (0 : Int) < (a0.size : Int) := od_; omega)
  have hx4 : ∀ h : 0 < a0.size, ((a0[0]'h).toNat : Int) = bt a0 0 := bt_at a0 0
  clear p4
  have qi4 : (0 < (a0.size : Int)) = True := eq_true (of_decide_eq_true as_)
  replace q4 := eq_true q4
  go_enter Tryd.func124, Tryd.ntmps124
  go_wp2_with (first | (go_at_call 93; (with_reducible refine (F93.calls (bt a0 0) true _ A5.out).mono ?_); rintro e w' ⟨rfl, ⟨nd, rfl⟩⟩; have p8 : 0 ≤ (1 : Int) := (by omega); have q8 : 1 < a0.size := (by have : (1 : Int) < (a0.size : Int) := od_; omega); have OB : ∀ h : 1 < a0.size, ((a0[1]'h).toNat : Int) = bt a0 1 := bt_at a0 1; clear p8; have ZF : (1 < (a0.size : Int)) = True := eq_true (of_decide_eq_true as_); replace q8 := eq_true q8) | (go_at_call 93; (with_reducible refine (F93.calls (bt a0 1) false _ A9.out).mono ?_); rintro e w' ⟨rfl, ⟨nd, rfl⟩⟩))
  go_ret
  exact ⟨er_, dn_⟩
 replace H := itn_ H; rcases H with ⟨c11b0, H⟩
 have c11b1 : decide (2 < a0.size) = true := n2_ c11b0
 replace H := bi_ H; rcases H with ⟨Ew, OM, H⟩
 obtain rfl := Option.some.inj H
 have p4 : 0 ≤ (0 : Int) := (by omega)
 have q4 : 0 < a0.size := (by have : (0 : Int) < (a0.size : Int) := od_; omega)
 have hx4 : ∀ h : 0 < a0.size, ((a0[0]'h).toNat : Int) = bt a0 0 := bt_at a0 0
 clear p4
 have qi4 : (0 < (a0.size : Int)) = True := eq_true (of_decide_eq_true as_)
 replace q4 := eq_true q4
 go_enter Tryd.func124, Tryd.ntmps124
 go_wp2_with (first | (go_at_call 93; (with_reducible refine (F93.calls (bt a0 0) true _ A5.out).mono ?_); rintro e w' ⟨rfl, ⟨nd, rfl⟩⟩; have p8 : 0 ≤ (1 : Int) := (by omega); have q8 : 1 < a0.size := (by have : (1 : Int) < (a0.size : Int) := od_; omega); have OB : ∀ h : 1 < a0.size, ((a0[1]'h).toNat : Int) = bt a0 1 := bt_at a0 1; clear p8; have ZF : (1 < (a0.size : Int)) = True := eq_true (of_decide_eq_true as_); replace q8 := eq_true q8) | (go_at_call 93; (with_reducible refine (F93.calls (bt a0 1) true _ A9.out).mono ?_); rintro e w' ⟨rfl, ⟨nd, rfl⟩⟩; have iA : 0 ≤ (2 : Int) := (by omega); have il : 2 < a0.size := (by have : (2 : Int) < (a0.size : Int) := od_; omega); have lG : ∀ h : 2 < a0.size, ((a0[2]'h).toNat : Int) = bt a0 2 := bt_at a0 2; clear iA; have b55 : (2 < (a0.size : Int)) = True := eq_true (of_decide_eq_true as_); replace il := eq_true il) | (go_at_call 93; (with_reducible refine (F93.calls (bt a0 2) Ew _ OM.out).mono ?_); rintro e w' ⟨rfl, ⟨nd, rfl⟩⟩))
 go_ret
 exact ⟨er_, dn_⟩
/-! ### F136: function 136 -/
def F136.l0 : Nat → List ByteArray → Int → Int → Option (Int)
  | 0, _, _, _ => none
  | k + 1, x0, x7, x8 => if x8 < x7 then (if 0 ≤ x8 then (if x8 < (x0.length : Int) then ((F122.f k (rdOf ByteArray.empty x0 x8)).bind fun WL => (if WL = true then (some x8) else (F136.l0 k x0 x7 (wrap64 (x8 + 1))))) else (none)) else (none)) else (some (-1))
def F136.f (k : Nat) (l0 : List ByteArray)  : Option (Int) := F136.l0 k l0 (l0.length : Int) 0
theorem F136.mono_l : ∀ k, (∀ y0 y1 y2, LeO (F136.l0 k y0 y1 y2) (F136.l0 (k + 1) y0 y1 y2))
 | 0 => fun _ _ _ r h => by simp [F136.l0] at h
 | k + 1 => by
  have b6 := F136.mono_l k
  intro y0 y1 y2
  unfold F136.l0
  repeat' with_reducible first | exact b6 _ _ _ | exact F122.mono _ _ | exact LeO.refl _ | exact LeO.none _ | refine LeO.ite ?_ ?_ | refine LeO.bind ?_ (fun _ => ?_)
theorem F136.mono : ∀ a0 k, LeO (F136.f k a0) (F136.f (k + 1) a0) := by
 intro a0 k
 have b6 := F136.mono_l k
 unfold F136.f
 repeat' with_reducible first | exact b6 _ _ _ | exact F122.mono _ _ | exact LeO.refl _ | exact LeO.none _ | refine LeO.ite ?_ ?_ | refine LeO.bind ?_ (fun _ => ?_)
theorem F136.calls (k : Nat) (A0 : Option Addr) (c0 : Nat) (l0 : List ByteArray)  (r : Int) (w : World) (eQ : Kd.C Kd.string w A0 l0.length l0) (f9 : l0.length ≤ c0) (h : F136.f k l0 = some r) :
  Calls Tryd.prog 136 #[.slice A0 l0.length c0, .func (.func 122) #[] #[]] w fun e w' => e = .returned (.int .i64 r) ∧ Drawn0 w w' := by
 have n3 := am_ eQ
 have sV := am_ f9
 clear eQ f9
 have H : (F136.l0 k l0 (l0.length : Int) 0) = some r := h
 clear h
 have H' := am_ H
 clear H
 go_enter Tryd.func136, Tryd.ntmps136
 go_wp2
 go_loopg [8] k (fun kq v8 w' => ∃ (ew : Int), v8 = .int .i64 ew ∧ Aside0 (F136.l0 kq l0 (l0.length : Int) ew = some r) ∧ Aside0 (kq ≤ k) ∧ Drawn0 w w')
 case atStart => exact ⟨(0), er_, H', ⟨Nat.le_refl _⟩, dn_⟩
 case round =>
  clear H'
  obtain ⟨ew, rfl, HA, dk, ⟨m1, rfl⟩⟩ := hrel
  cases gk with
  | zero => exact absurd HA.out (by simp [F136.l0])
  | succ k1 =>
   have H := HA.out
   clear HA
   simp only [F136.l0] at H
   replace H := it_ H; rcases H with ⟨c3b0, H⟩ | ⟨c3b0, H⟩
   rotate_left
   ·obtain rfl := Option.some.inj H
    go_wp2
    go_ret
    exact ⟨er_, dn_⟩

   replace H := itn_ H; rcases H with ⟨c4b0, H⟩
   replace H := itn_ H; rcases H with ⟨c5b0, H⟩
   replace H := bi_ H; rcases H with ⟨WL, A6, H⟩
   replace H := ib_ H; rcases H with ⟨rfl, H⟩ | ⟨rfl, H⟩
   ·obtain rfl := Option.some.inj H
    have vw : 0 ≤ (ew : Int) := od_
    have vx : ew < (l0.length : Int) := od_
    obtain ⟨WM, Nk, Ic⟩ := Kd.at_string n3.out ew vw vx
    cases Nk
    replace vw := eq_true vw
    replace vx := eq_true vx
    go_wp2_with (first | (go_at_call 122; (with_reducible refine (F122.calls k1 (rdOf ByteArray.empty l0 ew) true _ A6.out).mono ?_); rintro e w' ⟨rfl, ⟨nd, rfl⟩⟩))
    go_ret
    exact ⟨er_, dn_⟩
   have H' := am_ H
   clear H
   have vw : 0 ≤ (ew : Int) := od_
   have vx : ew < (l0.length : Int) := od_
   obtain ⟨WM, Nk, Ic⟩ := Kd.at_string n3.out ew vw vx
   cases Nk
   replace vw := eq_true vw
   replace vx := eq_true vx
   go_wp2_with (first | (go_at_call 122; (with_reducible refine (F122.calls k1 (rdOf ByteArray.empty l0 ew) false _ A6.out).mono ?_); rintro e w' ⟨rfl, ⟨nd, rfl⟩⟩))
   go_roundg k1
   case measure => have := dk.out; omega
   case rel => exact ⟨(wrap64 (ew + 1)), er_, H', ⟨by have := dk.out; omega⟩, dn_⟩
/-! ### F121: function 121 -/
def F121.f (k : Nat) (l0 : List ByteArray)  : Option (Bool) := (F136.f k l0).bind fun Ex => (some (decide (Ex ≥ 0)))
theorem F121.mono : ∀ a0 k, LeO (F121.f k a0) (F121.f (k + 1) a0) := by
 intro a0 k
 unfold F121.f
 repeat' with_reducible first | exact F136.mono _ _ | exact LeO.refl _ | exact LeO.none _ | refine LeO.ite ?_ ?_ | refine LeO.bind ?_ (fun _ => ?_)
theorem F121.calls (k : Nat) (A0 : Option Addr) (c0 : Nat) (l0 : List ByteArray)  (r : Bool) (w : World) (eQ : Kd.C Kd.string w A0 l0.length l0) (f9 : l0.length ≤ c0) (h : F121.f k l0 = some r) :
  Calls Tryd.prog 121 #[.slice A0 l0.length c0, .func (.func 122) #[] #[]] w fun e w' => e = .returned (.bool r) ∧ Drawn0 w w' := by
 have n3 := am_ eQ
 have sV := am_ f9
 clear eQ f9
 have H : ((F136.f k l0).bind fun Ex => (some (decide (Ex ≥ 0)))) = some r := h
 clear h
 replace H := bi_ H; rcases H with ⟨Ex, A3, H⟩
 obtain rfl := Option.some.inj H
 go_enter Tryd.func121, Tryd.ntmps121
 go_wp2_with (first | ((with_reducible refine gate_callee (f := 136) rfl ?_); refine gl_ 7 Tryd.func136 #[.slice A0 l0.length c0, .func (.func 122) #[] #[]] ?_ rfl rfl rfl rfl; (with_reducible refine (F136.calls k _ _ l0  Ex _ ?s1 ?s2 A3.out).mono ?_); (case s1 => exact au5_9); (case s2 => exact sV.out); rintro e w' ⟨rfl, ⟨nd, rfl⟩⟩; refine ⟨_, rfl, ?_⟩))
 go_ret
 exact ⟨er_, dn_⟩

/-! ### F103: function 103 -/
mutual
def F103.l0 : Nat → List (S55) → Int → Int → ByteArray → List (S55) → Option (Bool)
  | 0, _, _, _, _, _ => none
  | k + 1, x7, x8, x9, lq, j5 => if x9 < x8 then (if 0 ≤ x9 then (if x9 < (x7.length : Int) then ((F83.f (((rd_T55 x7 x9).f0).length : Int) 1 4).bind fun WN => (if WN = true then ((F121.f k ((rd_T55 x7 x9).f0)).bind fun Id => (F103.j1 k x9 (((rd_T55 x7 x9).f0).length : Int) x7 x8 x9 Id lq j5 ((rd_T55 x7 x9).f0))) else (F103.j1 k x9 (((rd_T55 x7 x9).f0).length : Int) x7 x8 x9 true lq j5 ((rd_T55 x7 x9).f0)))) else (none)) else (none)) else ((F124.f lq).bind fun WO => (if WO = true then (some (decide ((j5.length : Int) ≤ 10))) else (some false)))
def F103.j1 : Nat → Int → Int → List (S55) → Int → Int → Bool → ByteArray → List (S55) → List ByteArray → Option (Bool)
  | 0, _, _, _, _, _, _, _, _, _ => none
  | k + 1, x3, x5, x7, x8, x9, x24, lq, j5, zt => if x24 = true then (some false) else (if 0 ≤ (wrap64 (x5 - 1)) then (if (wrap64 (x5 - 1)) < (zt.length : Int) then (if (rdOf ByteArray.empty zt (wrap64 (x5 - 1))).toList = ([] : List UInt8) then (if x5 > 1 then (some false) else (if x3 = (wrap64 ((j5.length : Int) - 1)) then (some false) else (F103.l0 k x7 x8 (wrap64 (x9 + 1)) lq j5))) else (F103.l0 k x7 x8 (wrap64 (x9 + 1)) lq j5)) else (none)) else (none))
end
def F103.f (k : Nat) (ao : ByteArray) (ah : List (S55)) : Option (Bool) := F103.l0 k ah (ah.length : Int) 0 ao ah
theorem F103.mono_l : ∀ k, (∀ y0 y1 y2 y3 y4, LeO (F103.l0 k y0 y1 y2 y3 y4) (F103.l0 (k + 1) y0 y1 y2 y3 y4)) ∧ (∀ y0 y1 y2 y3 y4 y5 y6 y7 y8, LeO (F103.j1 k y0 y1 y2 y3 y4 y5 y6 y7 y8) (F103.j1 (k + 1) y0 y1 y2 y3 y4 y5 y6 y7 y8))
 | 0 => ⟨fun _ _ _ _ _ r h => by simp [F103.l0] at h, fun _ _ _ _ _ _ _ _ _ r h => by simp [F103.j1] at h⟩
 | k + 1 => by
  obtain ⟨b6, fd⟩ := F103.mono_l k
  refine ⟨?_, ?_⟩
  rotate_left
  ·intro y0 y1 y2 y3 y4 y5 y6 y7 y8
   unfold F103.j1
   repeat' with_reducible first | exact b6 _ _ _ _ _ | exact fd _ _ _ _ _ _ _ _ _ | exact F121.mono _ _ | exact LeO.refl _ | exact LeO.none _ | refine LeO.ite ?_ ?_ | refine LeO.bind ?_ (fun _ => ?_)
  intro y0 y1 y2 y3 y4
  unfold F103.l0
  repeat' with_reducible first | exact b6 _ _ _ _ _ | exact fd _ _ _ _ _ _ _ _ _ | exact F121.mono _ _ | exact LeO.refl _ | exact LeO.none _ | refine LeO.ite ?_ ?_ | refine LeO.bind ?_ (fun _ => ?_)
theorem F103.mono : ∀ a0 a1 k, LeO (F103.f k a0 a1) (F103.f (k + 1) a0 a1) := by
 intro a0 a1 k
 obtain ⟨b6, fd⟩ := F103.mono_l k
 unfold F103.f
 repeat' with_reducible first | exact b6 _ _ _ _ _ | exact fd _ _ _ _ _ _ _ _ _ | exact F121.mono _ _ | exact LeO.refl _ | exact LeO.none _ | refine LeO.ite ?_ ?_ | refine LeO.bind ?_ (fun _ => ?_)
theorem F103.calls (k : Nat) (ao : ByteArray) (b7 : Option Addr) (bV : Nat) (ah : List (S55)) (r : Bool) (w : World) (d9 : Kd.C k55 w b7 ah.length ah) (ea : ah.length ≤ bV) (h : F103.f k ao ah = some r) :
  Calls Tryd.prog 103 #[.agg #[.string ao, .slice b7 ah.length bV]] w fun e w' => e = .returned (.bool r) ∧ Below w.heap.size w w' := by
 have jn := Tryd.underlying52
 have sY := Tryd.underlying55
 have gD := am_ d9
 have iG := am_ ea
 clear d9 ea
 have HB := am_ (Below.refl w.heap.size w)
 have H : (F103.l0 k ah (ah.length : Int) 0 ao ah) = some r := h
 clear h
 have H' := am_ H
 clear H
 go_enter Tryd.func103, Tryd.ntmps103
 go_wp2_with (first | ((with_reducible refine gate_dst (N := 1) rfl ?_); (try (refine gate_guard (by rfl) ?_; dsimp only)); refine be_ 1 #[.string ao, .slice b7 ah.length bV] 52 ?_; intro Kv hg w2 hbox hb; have gF := am_ (hbox); have WP := am_ (gw_ hg bl_); have b1w := WP; replace HB := hs_ w hb; clear hb hbox hg; obtain ⟨Ey, Ez, EA, EB⟩ := cellsF2 gF.out))
 go_loopg [9] k (fun kq v9 w' => ∃ (cB : Int), v9 = .int .i64 cB ∧ Aside0 (F103.l0 kq ah (ah.length : Int) cB ao ah = some r) ∧ Aside0 (kq ≤ k) ∧ Aside0 (w'.heap[Kv]? = some (.cells #[.string ao, (.slice b7 ah.length bV)] 52 (0, 0))) ∧ Aside0 (Below w.heap.size w w'))
 case atStart => exact ⟨(0), er_, H', ⟨Nat.le_refl _⟩, ⟨bk_ gF⟩, ⟨bl_⟩⟩
 case round =>
  clear H'
  try clear Ey Ez
  try clear EA EB
  obtain ⟨cB, rfl, HA, dk, gF, HB⟩ := hrel
  cases gk with
  | zero => exact absurd HA.out (by simp [F103.l0])
  | succ k1 =>
   have H := HA.out
   clear HA
   simp only [F103.l0] at H
   replace H := it_ H; rcases H with ⟨c4b0, H⟩ | ⟨c4b0, H⟩
   rotate_left
   ·replace H := bi_ H; rcases H with ⟨WO, Y5, H⟩
    replace H := ib_ H; rcases H with ⟨rfl, H⟩ | ⟨rfl, H⟩
    ·obtain rfl := Option.some.inj H
     obtain ⟨xH, a0G, xI, a0H⟩ := cellsF2 gF.out
     go_wp2_with (first | ((with_reducible refine gate_callee (f := 124) rfl ?_); refine gl_ 47 Tryd.func124 #[.string ao] ?_ rfl rfl rfl rfl; (with_reducible refine (F124.calls ao true _ Y5.out).mono ?_); rintro e w' ⟨rfl, ⟨nd, rfl⟩⟩; refine ⟨_, rfl, ?_⟩))
     go_ret
     exact ⟨au5_1, bl_⟩
    obtain rfl := Option.some.inj H
    obtain ⟨gJ, gK, jU, gL⟩ := cellsF2 gF.out
    go_wp2_with (first | ((with_reducible refine gate_callee (f := 124) rfl ?_); refine gl_ 47 Tryd.func124 #[.string ao] ?_ rfl rfl rfl rfl; (with_reducible refine (F124.calls ao false _ Y5.out).mono ?_); rintro e w' ⟨rfl, ⟨nd, rfl⟩⟩; refine ⟨_, rfl, ?_⟩))
    go_ret
    exact ⟨au5_1, bl_⟩

   replace H := itn_ H; rcases H with ⟨c5b0, H⟩
   replace H := itn_ H; rcases H with ⟨c6b0, H⟩
   have HC7 := am_ H
   clear H
   have Ie : 0 ≤ (cB : Int) := od_
   have If : cB < (ah.length : Int) := od_
   obtain ⟨WQ, qc, qd, a7B, pn, zu, zv⟩ := at_T55 gD.out cB Ie If
   cases a7B
   replace pn := (HB.out.cell (World.block_lt_of_cell? _ _ pn)).trans pn
   have m5 := am_ zv
   have Ig := am_ zu
   clear zv zu
   replace Ie := eq_true Ie
   replace If := eq_true If
   go_upto_region 5 with (first | ((with_reducible refine gate_dst (N := 4) rfl ?_); (try (refine gate_guard (by rfl) ?_; dsimp only)); refine be_ 4 #[.slice none 0 0] 55 ?_; intro qe hg w8 hbox hb; have io := am_ (hbox); have WR := am_ (gw_ hg bl_); have b1x := WR; replace HB := hs_ w hb; have ia := am_ (gn_ hg (blkl_ gF)); have ib := am_ (gm_ hg (blkl_ gF)); replace gF := bb_ gF hb; clear hb hbox hg; have b57 := ib.out; have b58 := ia.out; have oE : w8.cell? ⟨qe, 0, none⟩ = some (.slice none 0 0) := (blk_cell io.out 0).trans rfl; have oF := blk_frozen io.out 0))
   (try simp only [Act.put, List.setIfInBounds_toArray, List.set_cons_zero, List.set_cons_succ])
   go_cut [24] (fun v24 wc => ∃ (kq : Nat) (EC : Bool), v24 = .bool EC ∧ Aside0 (F103.j1 kq cB (((rd_T55 ah cB).f0).length : Int) ah (ah.length : Int) cB EC ao ah ((rd_T55 ah cB).f0) = some r) ∧ Aside0 (kq ≤ k1) ∧ Aside0 (wc.heap[Kv]? = some (.cells #[.string ao, (.slice (some WQ) ah.length bV)] 52 (0, 0))) ∧ Aside0 (wc.heap[qe]? = some (.cells #[(.slice qc ((rd_T55 ah cB).f0).length qd)] 55 (0, 0))) ∧ Aside0 (Below w.heap.size w wc))
   case first =>
    have H := HC7.out
    clear HC7
    replace H := bi_ H; rcases H with ⟨WN, A11, H⟩
    replace H := ib_ H; rcases H with ⟨rfl, H⟩ | ⟨rfl, H⟩
    rotate_left
    ·have H' := am_ H
     clear H
     go_wp2_with (first | ((with_reducible refine gate_callee (f := 83) rfl ?_); refine gl_ 18 Tryd.func83 #[.int .i64 (((rd_T55 ah cB).f0).length : Int), .int .i64 1, .int .i64 4] ?_ rfl rfl rfl rfl; (with_reducible refine (F83.calls (((rd_T55 ah cB).f0).length : Int) 1 4 false _ A11.out).mono ?_); rintro e w' ⟨rfl, ⟨nd, rfl⟩⟩; refine ⟨_, rfl, ?_⟩))
     go_meet
     case rel => exact ⟨_, (true), er_, H', ⟨by have := dk.out; first | omega | exact Nat.le_refl _⟩, ⟨bf_ gF⟩, ⟨bq_ io⟩, ⟨bl_⟩⟩
    replace H := bi_ H; rcases H with ⟨Id, OM, H⟩
    have H' := am_ H
    clear H
    go_wp2_with (first | ((with_reducible refine gate_callee (f := 83) rfl ?_); refine gl_ 18 Tryd.func83 #[.int .i64 (((rd_T55 ah cB).f0).length : Int), .int .i64 1, .int .i64 4] ?_ rfl rfl rfl rfl; (with_reducible refine (F83.calls (((rd_T55 ah cB).f0).length : Int) 1 4 true _ A11.out).mono ?_); rintro e w' ⟨rfl, ⟨nd, rfl⟩⟩; refine ⟨_, rfl, ?_⟩; have Kb := ib.out; have Ke := ia.out; have eT : w8.cell? ⟨qe, 0, none⟩ = some (.slice none 0 0) := (blk_cell io.out 0).trans rfl; have eU := blk_frozen io.out 0) | (go_at_call 121; (with_reducible refine (F121.calls k1 _ _ ((rd_T55 ah cB).f0)  Id _ ?s1 ?s2 OM.out).mono ?_); (case s1 => exact Kd.C_below m5.out bl_); (case s2 => exact Ig.out); rintro e w' ⟨rfl, ⟨nd, rfl⟩⟩))
    go_meet
    case rel => exact ⟨_, (Id), er_, H', ⟨by have := dk.out; first | omega | exact Nat.le_refl _⟩, ⟨bf_ gF⟩, ⟨bq_ io⟩, ⟨bl_⟩⟩
   case rest =>
    clear HC7
    try clear c4b0
    try clear c5b0
    try clear c6b0
    try clear oE
    try clear eT
    try clear Ey Ez
    try clear oF
    try clear eU
    try clear EA EB
    try clear pn
    try clear Ie
    try clear If
    obtain ⟨kq, EC, rfl, HA, HJ6, gF, io, HB⟩ := hcut
    cases kq with
    | zero => exact absurd HA.out (by simp [F103.j1])
    | succ kj6 =>
     have H := HA.out
     clear HA
     simp only [F103.j1] at H
     replace H := ib_ H; rcases H with ⟨rfl, H⟩ | ⟨rfl, H⟩
     ·obtain rfl := Option.some.inj H
      go_wp2
      go_ret
      exact ⟨au5_1, bl_⟩
     obtain ⟨jl, zr⟩ : ∃ j_ : Int, (wrap64 ((((rd_T55 ah cB).f0).length : Int) - 1)) = j_ := ⟨_, rfl⟩
     replace H : (if 0 ≤ (jl) then (if (jl) < (((rd_T55 ah cB).f0).length : Int) then (if (rdOf ByteArray.empty ((rd_T55 ah cB).f0) (jl)).toList = ([] : List UInt8) then (if (((rd_T55 ah cB).f0).length : Int) > 1 then (some false) else (if cB = (wrap64 ((ah.length : Int) - 1)) then (some false) else (F103.l0 kj6 ah (ah.length : Int) (wrap64 (cB + 1)) ao ah))) else (F103.l0 kj6 ah (ah.length : Int) (wrap64 (cB + 1)) ao ah)) else (none)) else (none)) = some r := by first | (rw [zr] at H; exact H) | (simp only [zr] at H ⊢; exact H)
     have hji17w : (IntKind.i64.wrap ((((rd_T55 ah cB).f0).length : Int) - 1)) = jl := (i64_w _).trans zr
     replace H := itn_ H; rcases H with ⟨c18b0, H⟩
     replace H := itn_ H; rcases H with ⟨c19b0, H⟩
     by_cases c20 : (rdOf ByteArray.empty ((rd_T55 ah cB).f0) (jl)).toList = ([] : List UInt8)
     rotate_left
     ·rw [if_neg c20] at H
      have c20b0 : ((rdOf ByteArray.empty ((rd_T55 ah cB).f0) (jl)).toList == ([] : List UInt8)) = false := beq_eq_false_iff_ne.mpr c20
      have c20b1 : ((rdOf ByteArray.empty ((rd_T55 ah cB).f0) (jl)).toList != ([] : List UInt8)) = true := bne_iff_ne.mpr c20
      have H' := am_ H
      clear H
      have BP := ib.out
      have BQ := ia.out
      have lY : wc.cell? ⟨qe, 0, none⟩ = some (.slice qc ((rd_T55 ah cB).f0).length qd) := (blk_cell io.out 0).trans rfl
      have sv := blk_frozen io.out 0
      have lH : 0 ≤ ((jl) : Int) := od_
      have lI : (jl) < (((rd_T55 ah cB).f0).length : Int) := od_
      obtain ⟨ED, vy, dB⟩ := Kd.at_string m5.out (jl) lH lI
      cases vy
      replace dB := (HB.out.cell (World.block_lt_of_cell? _ _ dB)).trans dB
      replace lH := eq_true lH
      replace lI := eq_true lI
      go_wp2
      go_roundg kj6
      case measure => have := dk.out; have := HJ6.out; omega
      case rel => exact ⟨(wrap64 (cB + 1)), er_, H', ⟨by have := dk.out; have := HJ6.out; omega⟩, ⟨bk_ gF⟩, ⟨bl_⟩⟩
     rw [if_pos c20] at H
     have c20b0 : ((rdOf ByteArray.empty ((rd_T55 ah cB).f0) (jl)).toList == ([] : List UInt8)) = true := beq_iff_eq.mpr c20
     have c20b1 : ((rdOf ByteArray.empty ((rd_T55 ah cB).f0) (jl)).toList != ([] : List UInt8)) = false := bne_eq_false_iff_eq.mpr c20
     clear c20
     replace H := it_ H; rcases H with ⟨(c21b0 : decide (1 < (((rd_T55 ah cB).f0).length : Int)) = true), H⟩ | ⟨(c21b0 : decide (1 < (((rd_T55 ah cB).f0).length : Int)) = false), H⟩
     ·have c21b1 : decide (1 < ((rd_T55 ah cB).f0).length) = true := n2_ c21b0
      obtain rfl := Option.some.inj H
      have JY := ib.out
      have JZ := ia.out
      have lf : wc.cell? ⟨qe, 0, none⟩ = some (.slice qc ((rd_T55 ah cB).f0).length qd) := (blk_cell io.out 0).trans rfl
      have lg := blk_frozen io.out 0
      have lH : 0 ≤ ((jl) : Int) := od_
      have lI : (jl) < (((rd_T55 ah cB).f0).length : Int) := od_
      obtain ⟨ED, vy, dB⟩ := Kd.at_string m5.out (jl) lH lI
      cases vy
      replace dB := (HB.out.cell (World.block_lt_of_cell? _ _ dB)).trans dB
      replace lH := eq_true lH
      replace lI := eq_true lI
      go_wp2
      go_ret
      exact ⟨au5_8, bl_⟩
     have c21b1 : decide (1 < ((rd_T55 ah cB).f0).length) = false := n2_ c21b0
     by_cases oH : cB = (wrap64 ((ah.length : Int) - 1))
     ·rw [if_pos oH] at H
      have c24b0 : (cB == (wrap64 ((ah.length : Int) - 1))) = true := beq_iff_eq.mpr oH
      have c24b1 : (cB != (wrap64 ((ah.length : Int) - 1))) = false := bne_eq_false_iff_eq.mpr oH
      clear oH
      obtain rfl := Option.some.inj H
      have CP := ib.out
      have CQ := ia.out
      have iH : wc.cell? ⟨qe, 0, none⟩ = some (.slice qc ((rd_T55 ah cB).f0).length qd) := (blk_cell io.out 0).trans rfl
      have la := blk_frozen io.out 0
      have lH : 0 ≤ ((jl) : Int) := od_
      have lI : (jl) < (((rd_T55 ah cB).f0).length : Int) := od_
      obtain ⟨ED, vy, dB⟩ := Kd.at_string m5.out (jl) lH lI
      cases vy
      replace dB := (HB.out.cell (World.block_lt_of_cell? _ _ dB)).trans dB
      replace lH := eq_true lH
      replace lI := eq_true lI
      obtain ⟨yR, yS, yT, yU⟩ := cellsF2 gF.out
      go_wp2
      go_ret
      exact ⟨au5_8, bl_⟩
     rw [if_neg oH] at H
     have c24b0 : (cB == (wrap64 ((ah.length : Int) - 1))) = false := beq_eq_false_iff_ne.mpr oH
     have c24b1 : (cB != (wrap64 ((ah.length : Int) - 1))) = true := bne_iff_ne.mpr oH
     have H' := am_ H
     clear H
     have Dm := ib.out
     have Dn := ia.out
     have lh : wc.cell? ⟨qe, 0, none⟩ = some (.slice qc ((rd_T55 ah cB).f0).length qd) := (blk_cell io.out 0).trans rfl
     have ll := blk_frozen io.out 0
     have lH : 0 ≤ ((jl) : Int) := od_
     have lI : (jl) < (((rd_T55 ah cB).f0).length : Int) := od_
     obtain ⟨ED, vy, dB⟩ := Kd.at_string m5.out (jl) lH lI
     cases vy
     replace dB := (HB.out.cell (World.block_lt_of_cell? _ _ dB)).trans dB
     replace lH := eq_true lH
     replace lI := eq_true lI
     obtain ⟨oI, oJ, oK, oL⟩ := cellsF2 gF.out
     go_wp2
     go_roundg kj6
     case measure => have := dk.out; have := HJ6.out; omega
     case rel => exact ⟨(wrap64 (cB + 1)), er_, H', ⟨by have := dk.out; have := HJ6.out; omega⟩, ⟨bk_ gF⟩, ⟨bl_⟩⟩
/-! ### F125: function 125 -/
def F125.l0 : Nat → List ByteArray → ByteArray → Int → Int → Option (Int)
  | 0, _, _, _, _ => none
  | k + 1, x0, x1, x7, x8 => if x8 < x7 then (if 0 ≤ x8 then (if x8 < (x0.length : Int) then (if x1.toList = (rdOf ByteArray.empty x0 x8).toList then (some x8) else (F125.l0 k x0 x1 x7 (wrap64 (x8 + 1)))) else (none)) else (none)) else (some (-1))
def F125.f (k : Nat) (l0 : List ByteArray) (a1 : ByteArray) : Option (Int) := F125.l0 k l0 a1 (l0.length : Int) 0
theorem F125.mono_l : ∀ k, (∀ y0 y1 y2 y3, LeO (F125.l0 k y0 y1 y2 y3) (F125.l0 (k + 1) y0 y1 y2 y3))
 | 0 => fun _ _ _ _ r h => by simp [F125.l0] at h
 | k + 1 => by
  have b6 := F125.mono_l k
  intro y0 y1 y2 y3
  unfold F125.l0
  repeat' with_reducible first | exact b6 _ _ _ _ | exact LeO.refl _ | exact LeO.none _ | refine LeO.ite ?_ ?_ | refine LeO.bind ?_ (fun _ => ?_)
theorem F125.mono : ∀ a0 a1 k, LeO (F125.f k a0 a1) (F125.f (k + 1) a0 a1) := by
 intro a0 a1 k
 have b6 := F125.mono_l k
 unfold F125.f
 repeat' with_reducible first | exact b6 _ _ _ _ | exact LeO.refl _ | exact LeO.none _ | refine LeO.ite ?_ ?_ | refine LeO.bind ?_ (fun _ => ?_)
theorem F125.calls (k : Nat) (A0 : Option Addr) (c0 : Nat) (l0 : List ByteArray) (a1 : ByteArray) (r : Int) (w : World) (eQ : Kd.C Kd.string w A0 l0.length l0) (f9 : l0.length ≤ c0) (h : F125.f k l0 a1 = some r) :
  Calls Tryd.prog 125 #[.slice A0 l0.length c0, .string a1] w fun e w' => e = .returned (.int .i64 r) ∧ Drawn0 w w' := by
 have n3 := am_ eQ
 have sV := am_ f9
 clear eQ f9
 have H : (F125.l0 k l0 a1 (l0.length : Int) 0) = some r := h
 clear h
 have H' := am_ H
 clear H
 go_enter Tryd.func125, Tryd.ntmps125
 go_wp2
 go_loopg [8] k (fun kq v8 w' => ∃ (ew : Int), v8 = .int .i64 ew ∧ Aside0 (F125.l0 kq l0 a1 (l0.length : Int) ew = some r) ∧ Aside0 (kq ≤ k) ∧ Drawn0 w w')
 case atStart => exact ⟨(0), er_, H', ⟨Nat.le_refl _⟩, dn_⟩
 case round =>
  clear H'
  obtain ⟨ew, rfl, HA, dk, ⟨m1, rfl⟩⟩ := hrel
  cases gk with
  | zero => exact absurd HA.out (by simp [F125.l0])
  | succ k1 =>
   have H := HA.out
   clear HA
   simp only [F125.l0] at H
   replace H := it_ H; rcases H with ⟨c3b0, H⟩ | ⟨c3b0, H⟩
   rotate_left
   ·obtain rfl := Option.some.inj H
    go_wp2
    go_ret
    exact ⟨er_, dn_⟩

   replace H := itn_ H; rcases H with ⟨c4b0, H⟩
   replace H := itn_ H; rcases H with ⟨c5b0, H⟩
   by_cases c6 : a1.toList = (rdOf ByteArray.empty l0 ew).toList
   ·rw [if_pos c6] at H
    have c6b0 : (a1.toList == (rdOf ByteArray.empty l0 ew).toList) = true := beq_iff_eq.mpr c6
    have c6b1 : (a1.toList != (rdOf ByteArray.empty l0 ew).toList) = false := bne_eq_false_iff_eq.mpr c6
    clear c6
    obtain rfl := Option.some.inj H
    have vz : 0 ≤ (ew : Int) := od_
    have vA : ew < (l0.length : Int) := od_
    obtain ⟨WS, Nl, Ih⟩ := Kd.at_string n3.out ew vz vA
    cases Nl
    replace vz := eq_true vz
    replace vA := eq_true vA
    go_wp2
    go_ret
    exact ⟨er_, dn_⟩
   rw [if_neg c6] at H
   have c6b0 : (a1.toList == (rdOf ByteArray.empty l0 ew).toList) = false := beq_eq_false_iff_ne.mpr c6
   have c6b1 : (a1.toList != (rdOf ByteArray.empty l0 ew).toList) = true := bne_iff_ne.mpr c6
   have H' := am_ H
   clear H
   have vz : 0 ≤ (ew : Int) := od_
   have vA : ew < (l0.length : Int) := od_
   obtain ⟨WS, Nl, Ih⟩ := Kd.at_string n3.out ew vz vA
   cases Nl
   replace vz := eq_true vz
   replace vA := eq_true vA
   go_wp2
   go_roundg k1
   case measure => have := dk.out; omega
   case rel => exact ⟨(wrap64 (ew + 1)), er_, H', ⟨by have := dk.out; omega⟩, dn_⟩
/-! ### F104: function 104 -/
def F104.f (k : Nat) (l0 : List ByteArray) (a1 : ByteArray) : Option (Bool) := (F125.f k l0 a1).bind fun EE => (some (decide (EE ≥ 0)))
theorem F104.mono : ∀ a0 a1 k, LeO (F104.f k a0 a1) (F104.f (k + 1) a0 a1) := by
 intro a0 a1 k
 unfold F104.f
 repeat' with_reducible first | exact F125.mono _ _ _ | exact LeO.refl _ | exact LeO.none _ | refine LeO.ite ?_ ?_ | refine LeO.bind ?_ (fun _ => ?_)
theorem F104.calls (k : Nat) (A0 : Option Addr) (c0 : Nat) (l0 : List ByteArray) (a1 : ByteArray) (r : Bool) (w : World) (eQ : Kd.C Kd.string w A0 l0.length l0) (f9 : l0.length ≤ c0) (h : F104.f k l0 a1 = some r) :
  Calls Tryd.prog 104 #[.slice A0 l0.length c0, .string a1] w fun e w' => e = .returned (.bool r) ∧ Drawn0 w w' := by
 have n3 := am_ eQ
 have sV := am_ f9
 clear eQ f9
 have H : ((F125.f k l0 a1).bind fun EE => (some (decide (EE ≥ 0)))) = some r := h
 clear h
 replace H := bi_ H; rcases H with ⟨EE, A3, H⟩
 obtain rfl := Option.some.inj H
 go_enter Tryd.func104, Tryd.ntmps104
 go_wp2_with (first | ((with_reducible refine gate_callee (f := 125) rfl ?_); refine gl_ 7 Tryd.func125 #[.slice A0 l0.length c0, .string a1] ?_ rfl rfl rfl rfl; (with_reducible refine (F125.calls k _ _ l0 a1 EE _ ?s1 ?s2 A3.out).mono ?_); (case s1 => exact au5_9); (case s2 => exact sV.out); rintro e w' ⟨rfl, ⟨nd, rfl⟩⟩; refine ⟨_, rfl, ?_⟩))
 go_ret
 exact ⟨er_, dn_⟩

/-! ### F105: function 105 -/
def F105.f  : Option (List ByteArray) := some (([(⟨#[73, 88, 72]⟩ : ByteArray), (⟨#[71, 82, 72]⟩ : ByteArray), (⟨#[77, 83, 72]⟩ : ByteArray), (⟨#[77, 83, 84]⟩ : ByteArray), (⟨#[71, 82, 84]⟩ : ByteArray), (⟨#[73, 88, 84]⟩ : ByteArray)] : List ByteArray))
theorem F105.calls  (r : List ByteArray) (w : World) (h : F105.f  = some r) :
  Calls Tryd.prog 105 #[] w fun e w' => ∃ DM : Value, e = .returned (DM) ∧ Kd.R Kd.string 9 w' w.heap.size (fun _ => True) DM r ∧ Below w.heap.size w w' := by
 have HB := am_ (Below.refl w.heap.size w)
 have H : (some (([(⟨#[73, 88, 72]⟩ : ByteArray), (⟨#[71, 82, 72]⟩ : ByteArray), (⟨#[77, 83, 72]⟩ : ByteArray), (⟨#[77, 83, 84]⟩ : ByteArray), (⟨#[71, 82, 84]⟩ : ByteArray), (⟨#[73, 88, 84]⟩ : ByteArray)] : List ByteArray))) = some r := h
 clear h
 obtain ⟨a7C, EF⟩ : ∃ y_ : List ByteArray, y_ = (([(⟨#[73, 88, 72]⟩ : ByteArray), (⟨#[71, 82, 72]⟩ : ByteArray), (⟨#[77, 83, 72]⟩ : ByteArray), (⟨#[77, 83, 84]⟩ : ByteArray), (⟨#[71, 82, 84]⟩ : ByteArray), (⟨#[73, 88, 84]⟩ : ByteArray)] : List ByteArray)) := ⟨_, rfl⟩
 replace H : (some a7C) = some r := by first | (rw [EF]; exact H) | exact H
 have Kw := am_ EF
 clear EF
 obtain rfl := Option.some.inj H
 go_enter Tryd.func105, Tryd.ntmps105
 go_wp2_with (first | ((with_reducible refine gate_dst (N := 1) rfl ?_); refine Kd.R_lit Kd.string _ 9 ?hg (N := 1) ?hd (xs := ([(⟨#[73, 88, 72]⟩ : ByteArray), (⟨#[71, 82, 72]⟩ : ByteArray), (⟨#[77, 83, 72]⟩ : ByteArray), (⟨#[77, 83, 84]⟩ : ByteArray), (⟨#[71, 82, 84]⟩ : ByteArray), (⟨#[73, 88, 84]⟩ : ByteArray)] : List ByteArray)) (inner := [.string (⟨#[73, 88, 72]⟩ : ByteArray), .string (⟨#[71, 82, 72]⟩ : ByteArray), .string (⟨#[77, 83, 72]⟩ : ByteArray), .string (⟨#[77, 83, 84]⟩ : ByteArray), .string (⟨#[71, 82, 84]⟩ : ByteArray), .string (⟨#[73, 88, 84]⟩ : ByteArray)]) (ok := fun _ => True) (okp := fun _ => True) ?hr ?hp (fun _ hk => hk) trivial (Below.refl _ _) (Nat.le_refl _) (by simp) ?_; (case hd => rfl); (case hg => rfl); (case hr => exact hr_); (case hp => exact (Reps.one (show Kd.M Kd.string _ _ _ (⟨#[73, 88, 72]⟩ : ByteArray) [.string (⟨#[73, 88, 72]⟩ : ByteArray)] from rfl) (Reps.one (show Kd.M Kd.string _ _ _ (⟨#[71, 82, 72]⟩ : ByteArray) [.string (⟨#[71, 82, 72]⟩ : ByteArray)] from rfl) (Reps.one (show Kd.M Kd.string _ _ _ (⟨#[77, 83, 72]⟩ : ByteArray) [.string (⟨#[77, 83, 72]⟩ : ByteArray)] from rfl) (Reps.one (show Kd.M Kd.string _ _ _ (⟨#[77, 83, 84]⟩ : ByteArray) [.string (⟨#[77, 83, 84]⟩ : ByteArray)] from rfl) (Reps.one (show Kd.M Kd.string _ _ _ (⟨#[71, 82, 84]⟩ : ByteArray) [.string (⟨#[71, 82, 84]⟩ : ByteArray)] from rfl) (Reps.one (show Kd.M Kd.string _ _ _ (⟨#[73, 88, 84]⟩ : ByteArray) [.string (⟨#[73, 88, 84]⟩ : ByteArray)] from rfl) (Reps.none _ _)))))))); intro b6a w1 ho2 hb hg_ hnew_; clear hg_ hnew_; (first | rw [← Kw.out] at ho2 | (simp only [Int.reduceToNat] at ho2; rw [← Kw.out] at ho2)); have WT := am_ (Kd.R_lower ho2 (below_size bl_)); replace HB := hs_ w hb; clear hb ho2))
 go_ret
 exact ⟨_, au5_1, rk_ WT, bl_⟩

/-! ### F78: function 78 -/
def F78.f (k : Nat) (ao : ByteArray) (ah : List (S55)) : Option (Bool) := (F103.f k ao ah).bind fun Ii => (if Ii = true then ((F105.f).bind fun vC => ((F104.f k vC ao).bind fun EG => (some (!EG)))) else (some false))
theorem F78.mono : ∀ a0 a1 k, LeO (F78.f k a0 a1) (F78.f (k + 1) a0 a1) := by
 intro a0 a1 k
 unfold F78.f
 repeat' with_reducible first | exact F103.mono _ _ _ | exact F104.mono _ _ _ | exact LeO.refl _ | exact LeO.none _ | refine LeO.ite ?_ ?_ | refine LeO.bind ?_ (fun _ => ?_)
def F78.T1 : Bool × List (List Nat × List Nat) := (true, [([], []), ([0], [0]), ([1, 1], [1]), ([2, 2], [2]), ([2], [2]), ([4, 2], [2, 4]), ([3, 5, 3, 2], [2, 3, 5]), ([6, 2], [2, 6]), ([2, 7], [2, 7]), ([8, 6, 0, 1, 2, 3, 4, 5, 6, 7, 8], [8])])
def F78.B1 : List Nat := [0, 1, 3, 7, 7, 23, 63, 127, 255, 511]
theorem F78.tab1 : rtab .any (opsOf Tryd.f78 1) = F78.T1 := by kernel_rfl
theorem F78.bits1 : waitsOk F78.T1.2 F78.B1 = true := by kernel_rfl
theorem F78.calls (k : Nat) (ao : ByteArray) (b7 : Option Addr) (bV : Nat) (ah : List (S55)) (r : Bool) (w : World) (d9 : Kd.C k55 w b7 ah.length ah) (ea : ah.length ≤ bV) (h : F78.f k ao ah = some r) :
  Calls Tryd.prog 78 #[.agg #[.string ao, .slice b7 ah.length bV]] w fun e w' => e = .returned (.bool r) ∧ Below w.heap.size w w' := by
 have jn := Tryd.underlying52
 have gD := am_ d9
 have iG := am_ ea
 clear d9 ea
 have HB := am_ (Below.refl w.heap.size w)
 have H : ((F103.f k ao ah).bind fun Ii => (if Ii = true then ((F105.f).bind fun vC => ((F104.f k vC ao).bind fun EG => (some (!EG)))) else (some false))) = some r := h
 clear h
 replace H := bi_ H; rcases H with ⟨Ii, A2, H⟩
 replace H := ib_ H; rcases H with ⟨rfl, H⟩ | ⟨rfl, H⟩
 rotate_left
 ·obtain rfl := Option.some.inj H
  go_enter Tryd.func78, Tryd.ntmps78
  try go_wp2_with (first | ((with_reducible refine gate_dst (N := 1) rfl ?_); refine be_ 1 #[.string ao, .slice b7 ah.length bV] 52 ?_; intro t6 hg IP hbox hb; have dG := am_ (hbox); have EH := am_ (gw_ hg bl_); have WU := EH; replace HB := hs_ w hb; clear hb hbox hg))
  replace dG := bd_ dG
  replace HB := am_ (below_drew1 HB.out)
  refine start_ (n := 10) (S := fun w' => w'.cell? ⟨t6, 0, none⟩ = some (.string ao) ∧ w'.cell? ⟨t6, 1, none⟩ = some (.slice b7 ah.length bV)) (ds := []) (bs 10 0) (by kernel_rfl) rfl rfl ⟨(blk_cell dG.out 0).trans rfl, (blk_cell dG.out 1).trans rfl⟩ (fun hHeld => ?_); refine with_tabW F78.tab1 F78.bits1 (fun HT_ HW_ => ?_)
  generalize IP.drew = rx at dG HB hHeld ⊢
  refine tk_ 0 3 (bs 10 1) HT_ HW_ hHeld au5_6 ?_ rfl rfl
  refine one_ (i := 1) (N := some 4) (bs 10 3) rfl rfl (one_of HT_.out (by kernel_rfl)) (by decide) (fun K hK => ?_)
  refine gr_ Tryd.func103 #[.agg #[.string ao, .slice b7 ah.length bV]] (by rfl) ?_ rfl rfl rfl
  with_reducible refine (F103.calls k ao _ _ ah false _ ?s1 ?s2 A2.out).mono ?_
  (case s1 => exact au5_2)
  (case s2 => exact iG.out)
  rintro e OD ⟨rfl, hb⟩
  refine ⟨_, rfl, ?_⟩
  replace dG := bb_ dG hb
  replace HB := hs_ w hb
  (try clear hb)
  (try clear hb2)
  (try clear hk)
  (try clear hi)
  refine hK.out _ _ ⟨(blk_cell dG.out 0).trans rfl, (blk_cell dG.out 1).trans rfl⟩ (fun hHeld => ?_)
  clear hK K
  refine no_ 4 ?_
  refine pu_ 2 5 (bs 10 7) HT_ ?_ rfl rfl
  refine pv_ 3 6 (bs 10 15) HT_ ?_ rfl rfl
  refine pv_ 4 7 (bs 10 31) HT_ ?_ rfl rfl
  refine pv_ 5 8 (bs 10 63) HT_ ?_ rfl rfl
  refine pv_ 6 9 (bs 10 127) HT_ ?_ rfl rfl
  refine pv_ 7 10 (bs 10 255) HT_ ?_ rfl rfl
  refine pu_ 8 11 (bs 10 511) HT_ ?_ rfl rfl
  refine pu_ 9 2 (bs 10 1023) HT_ ?_ rfl rfl
  refine done_ (done_of HT_.out (by kernel_rfl)) ?_
  try go_wp2
  go_ret
  exact ⟨au5_1, bl_⟩

 replace H := bi_ H; rcases H with ⟨vC, A4, H⟩
 replace H := bi_ H; rcases H with ⟨EG, A5, H⟩
 obtain rfl := Option.some.inj H
 go_enter Tryd.func78, Tryd.ntmps78
 try go_wp2_with (first | ((with_reducible refine gate_dst (N := 1) rfl ?_); refine be_ 1 #[.string ao, .slice b7 ah.length bV] 52 ?_; intro t6 hg w6 hbox hb; have dG := am_ (hbox); have EH := am_ (gw_ hg bl_); have WU := EH; replace HB := hs_ w hb; clear hb hbox hg))
 replace dG := bd_ dG
 replace HB := am_ (below_drew1 HB.out)
 refine start_ (n := 10) (S := fun w' => w'.cell? ⟨t6, 0, none⟩ = some (.string ao) ∧ w'.cell? ⟨t6, 1, none⟩ = some (.slice b7 ah.length bV)) (ds := []) (bs 10 0) (by kernel_rfl) rfl rfl ⟨(blk_cell dG.out 0).trans rfl, (blk_cell dG.out 1).trans rfl⟩ (fun hHeld => ?_); refine with_tabW F78.tab1 F78.bits1 (fun HT_ HW_ => ?_)
 generalize w6.drew = w7 at dG HB hHeld ⊢
 refine tk_ 0 3 (bs 10 1) HT_ HW_ hHeld au5_6 ?_ rfl rfl
 refine one_ (i := 1) (N := some 4) (bs 10 3) rfl rfl (one_of HT_.out (by kernel_rfl)) (by decide) (fun K hK => ?_)
 refine gr_ Tryd.func103 #[.agg #[.string ao, .slice b7 ah.length bV]] (by rfl) ?_ rfl rfl rfl
 with_reducible refine (F103.calls k ao _ _ ah true _ ?s1 ?s2 A2.out).mono ?_
 (case s1 => exact au5_2)
 (case s2 => exact iG.out)
 rintro e w8 ⟨rfl, hb⟩
 refine ⟨_, rfl, ?_⟩
 replace dG := bb_ dG hb
 replace HB := hs_ w hb
 (try clear hb)
 (try clear hb2)
 (try clear hk)
 (try clear hi)
 refine hK.out _ _ ⟨(blk_cell dG.out 0).trans rfl, (blk_cell dG.out 1).trans rfl⟩ (fun hHeld => ?_)
 clear hK K
 refine no_ 4 ?_
 refine pu_ 2 5 (bs 10 7) HT_ ?_ rfl rfl
 refine pu_ 4 7 (bs 10 23) HT_ ?_ rfl rfl
 refine tk_ 5 8 (bs 10 55) HT_ HW_ hHeld au5_6 ?_ rfl rfl
 refine one_ (i := 3) (N := some 6) (bs 10 63) rfl rfl (one_of HT_.out (by kernel_rfl)) (by decide) (fun K hK => ?_)
 refine gr_ Tryd.func105 #[] (by rfl) ?_ rfl rfl rfl
 with_reducible refine (F105.calls  vC _ A4.out).mono ?_
 rintro e w9 ⟨b6b, rfl, bm, hb⟩
 refine ⟨_, rfl, ?_⟩
 have EI := am_ (Kd.R_lower bm (below_size bl_))
 replace dG := bb_ dG hb
 replace HB := hs_ w hb
 (try clear hb)
 (try clear hb2)
 (try clear hk)
 (try clear hi)
 (try clear bm)
 obtain ⟨MM, MN, DD⟩ := Kd.R_slice EI.out
 (first | subst DD | (injection DD with dY gS dZ; have gT := dY.symm; have gU := dZ.symm; clear dY gS dZ; subst gT; subst gU))
 refine hK.out _ _ ⟨(blk_cell dG.out 0).trans rfl, (blk_cell dG.out 1).trans rfl⟩ (fun hHeld => ?_)
 clear hK K
 refine no_ 6 ?_
 refine one_ (i := 6) (N := some 9) (bs 10 127) rfl rfl (one_of HT_.out (by kernel_rfl)) (by decide) (fun K hK => ?_)
 refine gr_ Tryd.func104 #[.slice MM vC.length MN, .string ao] (by rfl) ?_ rfl rfl rfl
 with_reducible refine (F104.calls k _ _ vC ao EG _ ?s1 ?s2 A5.out).mono ?_
 (case s1 => repeat (first | exact (Kd.R_reads' EI.out).2.2 | (with_reducible refine Kd.C_alloc ?_ _) | (with_reducible refine Kd.C_drewN ?_ _) | (with_reducible refine Kd.C_drew ?_)))
 (case s2 => exact (Kd.R_reads' EI.out).2.1)
 rintro e w' ⟨rfl, ⟨nd, rfl⟩⟩
 refine ⟨_, rfl, ?_⟩
 refine hK.out _ _ ⟨(blk_cell dG.out 0).trans rfl, (blk_cell dG.out 1).trans rfl⟩ (fun hHeld => ?_)
 clear hK K
 refine no_ 9 ?_
 refine pu_ 7 10 (bs 10 255) HT_ ?_ rfl rfl
 refine pu_ 8 11 (bs 10 511) HT_ ?_ rfl rfl
 refine pu_ 9 2 (bs 10 1023) HT_ ?_ rfl rfl
 refine done_ (done_of HT_.out (by kernel_rfl)) ?_
 try go_wp2
 go_ret
 exact ⟨au5_1, bl_⟩
/-! ### F106: function 106 -/
def F106.f (l0 : List (ByteArray)) : Option (List (ByteArray)) := if l0.length < 8796093022208 then (some l0) else (none)
theorem F106.calls (A0 : Option Addr) (c0 : Nat) (l0 : List (ByteArray)) (r : List (ByteArray)) (w : World) (eQ : Kd.C Kd.string w A0 l0.length l0) (f9 : l0.length ≤ c0) (h : F106.f l0 = some r) :
  Calls Tryd.prog 106 #[.slice A0 l0.length c0] w fun e w' => ∃ DM : Value, e = .returned (DM) ∧ Kd.R Kd.string 9 w' w.heap.size (fun _ => True) DM r ∧ Below w.heap.size w w' := by
 have hu := Tryd.underlying53
 have HR := am_ eQ
 clear eQ
 have HB := am_ (Below.refl w.heap.size w)
 by_cases hl : l0.length < 8796093022208
 rotate_left
 ·have H := h
  unfold F106.f at H
  rw [if_neg hl] at H
  cases H

 have H := h
 unfold F106.f at H
 rw [if_pos hl] at H
 obtain rfl := Option.some.inj H
 clear H h
 have HL := am_ hl
 clear hl
 cases A0 with
 | none =>
  have h0 : l0 = [] := by
   rcases l0 with _ | ⟨x, xs⟩
   ·rfl
   obtain ⟨ad, h1, _⟩ := HR.out.2.2 (by simp)
   cases h1
  subst h0
  have hq := fun (w : World) => Go.Lib.run_eql_slice_nil (P := Tryd.prog) w 53 9 none 0 c0 0 0 hu
  go_enter Tryd.func106, Tryd.ntmps106
  go_wp2
  go_ret
  exact ⟨_, rfl, Kd.R_nil _ _ _ _ _, HB.out⟩
 | some ad =>
  have hq := fun (w : World) => Go.Lib.run_eql_slice_nil (P := Tryd.prog) w 53 9 (some ad) l0.length c0 0 0 hu
  go_enter Tryd.func106, Tryd.ntmps106
  go_wp2_with (first
   | ((with_reducible refine gate_dst (N := 5) rfl ?_); refine Kd.R_lit Kd.string _ 9 ?hg (N := 5) ?hd (xs := ([] : List (ByteArray))) (inner := []) (ok := fun _ => True) (okp := fun _ => True) ?hr ?hp (fun _ hk => hk) trivial (Below.refl _ _) (Nat.le_refl _) (by simp) ?_; (case hd => rfl); (case hg => rfl); (case hr => exact hr_); (case hp => exact (Reps.none _ _)); intro v1 w1 ho hb hg_ hnew_; clear hg_ hnew_; have HO := am_ (Kd.R_lower ho (below_size HB.out)); have HB2 := am_ (below_step HB.out hb); clear ho hb)
   | ((with_reducible refine gate_builtin (b := .append) (xs := #[.tmp 5, .tmp 6]) rfl ?_); at_builtin; refine Kd.R_append_rows Kd.string (w0 := w) w.heap.size rfl (.tmp 5) (.tmp 6) 53 9 (.string ⟨#[]⟩) 16 rfl Tryd.underlying53 info9 rfl (by decide) (by omega) v1 ([] : List (ByteArray)) l0 _ _ _ (fun _ => True) (fun _ => False) rfl rfl ?aO ?aR (fun _ _ h => h) (fun _ h => h.elim) ?aF ?aB ?aS ?aL ?_; (case aR => repeat (first | exact (Kd.C_below HR.out HB2.out) | (with_reducible refine Kd.C_alloc ?_ _) | (with_reducible refine Kd.C_drewN ?_ _) | (with_reducible refine Kd.C_drew ?_))); (case aB => exact au5_10); (case aF => exact (fun _ _ => trivial)); (case aO => exact (by (with_reducible repeat (first | apply Kd.R_alloc | apply Kd.R_drewN | apply Kd.R_drew)); exact HO.out)); (case aS => exact (below_size au5_10)); (case aL => have := HL.out; simp only [List.length_nil]; omega); intro v2 w2 ho hb hg hat))
  go_ret
  exact ⟨_, rfl, by (with_reducible repeat (first | apply Kd.R_alloc | apply Kd.R_drewN | apply Kd.R_drew)); exact ho, by repeat (first | (with_reducible first | exact hb | apply below_alloc | apply pw_below_drewN | apply below_drew1) | exact hb)⟩
/-! ### F79: function 79 -/
def F79.l0 : Nat → List (S55) → Int → Int → ByteArray → List (S55) → Option (ByteArray × (List (S55)))
  | 0, _, _, _, _, _ => none
  | k + 1, WV, x11, H6, zw, sD => if H6 < x11 then (if 0 ≤ H6 then (if H6 < (WV.length : Int) then ((F106.f ((rd_T55 WV H6).f0)).bind fun t7 => (if sD.length < 5864062014805 then (F79.l0 k WV x11 (wrap64 (H6 + 1)) zw (sD ++ [(⟨t7⟩ : S55)])) else (none))) else (none)) else (none)) else (some (zw, sD))
def F79.f (k : Nat) (ao : ByteArray) (ah : List (S55)) : Option (ByteArray × (List (S55))) := F79.l0 k ah (ah.length : Int) 0 ao ([] : List (S55))
theorem F79.mono_l : ∀ k, (∀ y0 y1 y2 y3 y4, LeO (F79.l0 k y0 y1 y2 y3 y4) (F79.l0 (k + 1) y0 y1 y2 y3 y4))
 | 0 => fun _ _ _ _ _ r h => by simp [F79.l0] at h
 | k + 1 => by
  have b6 := F79.mono_l k
  intro y0 y1 y2 y3 y4
  unfold F79.l0
  repeat' with_reducible first | exact b6 _ _ _ _ _ | exact LeO.refl _ | exact LeO.none _ | refine LeO.ite ?_ ?_ | refine LeO.bind ?_ (fun _ => ?_)
theorem F79.mono : ∀ a0 a1 k, LeO (F79.f k a0 a1) (F79.f (k + 1) a0 a1) := by
 intro a0 a1 k
 have b6 := F79.mono_l k
 unfold F79.f
 repeat' with_reducible first | exact b6 _ _ _ _ _ | exact LeO.refl _ | exact LeO.none _ | refine LeO.ite ?_ ?_ | refine LeO.bind ?_ (fun _ => ?_)
def F79.T5 : Bool × List (List Nat × List Nat) := (true, [([], []), ([0], [0]), ([], []), ([2], [2]), ([3], [3]), ([4], [4]), ([5], [5]), ([1, 6, 4], [1, 6]), ([0, 1, 2, 3, 4, 5, 6, 7], []), ([8, 7, 7, 0, 1, 2, 3, 4, 5, 6, 7], [7, 8])])
def F79.B5 : List Nat := [0, 1, 0, 4, 12, 28, 60, 127, 255, 511]
theorem F79.tab5 : rtab .any (opsOf Tryd.f79 5) = F79.T5 := by kernel_rfl
theorem F79.bits5 : waitsOk F79.T5.2 F79.B5 = true := by kernel_rfl
theorem F79.calls (k : Nat) (ao : ByteArray) (b7 : Option Addr) (bV : Nat) (ah : List (S55)) (r1 : ByteArray) (r2 : List (S55)) (w : World) (d9 : Kd.C k55 w b7 ah.length ah) (ea : ah.length ≤ bV) (h : F79.f k ao ah = some (r1, r2)) :
  Calls Tryd.prog 79 #[.agg #[.string ao, .slice b7 ah.length bV]] w fun e w' => ∃ tj : Value, e = .returned (.agg #[.string r1, tj]) ∧ Kd.S k55 55 w' w.heap.size (fun _ => True) tj r2 ∧ Below w.heap.size w w' := by
 have jn := Tryd.underlying52
 have sY := Tryd.underlying55
 have gD := am_ d9
 have iG := am_ ea
 clear d9 ea
 have HB := am_ (Below.refl w.heap.size w)
 have H : (F79.l0 k ah (ah.length : Int) 0 ao ([] : List (S55))) = some (r1, r2) := h
 clear h
 have H' := am_ H
 clear H
 go_enter Tryd.func79, Tryd.ntmps79
 go_wp2_with (first | ((with_reducible refine gate_dst (N := 1) rfl ?_); refine be_ 1 #[.string ao, .slice b7 ah.length bV] 52 ?_; intro Kx hg w2 hbox hb; have dj := am_ (hbox); have WW := am_ (gw_ hg bl_); have b1z := WW; replace HB := hs_ w hb; clear hb hbox hg) | ((with_reducible refine gate_dst (N := 2) rfl ?_); refine be_ 2 #[.string (⟨#[]⟩ : ByteArray), .slice none 0 0] 52 ?_; intro t8 hg w3 hbox hb; have dH := am_ (hbox); have WX := am_ (gw_ hg bl_); have b1A := WX; replace HB := hs_ w hb; have rb := am_ (gn_ hg (blkl_ dj)); have rc := am_ (gm_ hg (blkl_ dj)); replace dj := bb_ dj hb; clear hb hbox hg; have a58 := rb.out; have a59 := rc.out; obtain ⟨px, sn, pz, sq⟩ := cellsF2 dj.out) | ((with_reducible refine gate_dst (N := 3) rfl ?_); refine be_ 3 #[.string (⟨#[]⟩ : ByteArray), .slice none 0 0] 52 ?_; intro re hg w6 hbox hb; have cE := am_ (hbox); have WY := am_ (gw_ hg bl_); have b1B := WY; replace HB := hs_ w hb; have nV := am_ (gn_ hg (blkl_ dj)); have nW := am_ (gm_ hg (blkl_ dj)); replace dj := bb_ dj hb; have nX := am_ (gn_ hg (blkl_ dH)); have nY := am_ (gm_ hg (blkl_ dH)); replace dH := bb_ dH hb; clear hb hbox hg; have Vk := nW.out; have Vl := nV.out; have a6a := nY.out; have a6b := nX.out; obtain ⟨jf, jg, kp, jh⟩ := cellsF2 cE.out; obtain ⟨oE, wv, oF, ww⟩ := cellsF2 dj.out))
 go_loopg [12] k (fun kq OL w' => ∃ (dE : Int) (fb : List (S55)) (f8 : Value), OL = .int .i64 dE ∧ Aside0 (F79.l0 kq ah (ah.length : Int) dE ao fb = some (r1, r2)) ∧ Aside0 (kq ≤ k) ∧ Aside0 (Kd.S k55 55 w' w.heap.size (fun _ => True) f8 fb) ∧ Aside0 (w'.heap[Kx]? = some (.cells #[.string ao, (.slice b7 ah.length bV)] 52 (0, 0))) ∧ Aside0 (w'.heap[t8]? = some (.cells #[.string (⟨#[]⟩ : ByteArray), (.slice none 0 0)] 52 (0, 0))) ∧ Aside0 (w'.heap[re]? = some (.cells #[.string ao, f8] 52 (0, 0))) ∧ Aside0 (Below w.heap.size w w'))
 case atStart => exact ⟨(0), (([] : List (S55))), (.slice none 0 0), er_, H', ⟨Nat.le_refl _⟩, ⟨au5_3⟩, ⟨bf_ dj⟩, ⟨bf_ dH⟩, ⟨bq_ cE⟩, ⟨bl_⟩⟩
 case round =>
  clear H'
  try clear oE wv
  try clear px sn
  try clear jf jg
  try clear oF ww
  try clear pz sq
  try clear kp jh
  obtain ⟨dE, fb, f8, rfl, HA, dk, bR, dj, dH, cE, HB⟩ := hrel
  cases gk with
  | zero => exact absurd HA.out (by simp [F79.l0])
  | succ k1 =>
   have H := HA.out
   clear HA
   simp only [F79.l0] at H
   replace H := it_ H; rcases H with ⟨c11b0, H⟩ | ⟨c11b0, H⟩
   rotate_left
   ·simp only [Option.some.injEq, Prod.mk.injEq] at H
    obtain ⟨rfl, rfl⟩ := H
    have Dm := nW.out
    have Dn := nV.out
    have b1C := nY.out
    have b1D := nX.out
    obtain ⟨oI, oJ, oK, oL⟩ := cellsF2 cE.out
    have BP := rc.out
    have BQ := rb.out
    obtain ⟨lY, oM, sv, oN⟩ := cellsF2 dH.out
    obtain ⟨WZ, W0, a7D⟩ := Kd.S_slice bR.out
    subst a7D
    go_wp2
    refine bodyPost_ret (results_cell_row rfl _ _ t8 52 #[.string ao, .slice WZ fb.length W0] (0, 0) _ rfl (bq_ dH) Tryd.underlying52 rfl (by kernel_rfl)) rfl ?_
    exact ⟨_, au5_1, by (with_reducible repeat (first | apply Kd.S_alloc | apply Kd.S_drewN | apply Kd.S_drew)); exact Kd.S_mono (Kd.S_far (p := ⟨t8, 1, none⟩) (Kd.S_far (p := ⟨t8, 0, none⟩) (Kd.S_types bR.out dH.out (by decide)) (fun _ hk => hk.2) (.string ao)) (fun _ hk => hk.2) (.slice WZ fb.length W0)) (fun _ hk => trivial), bl_⟩
   replace H := itn_ H; rcases H with ⟨c12b0, H⟩
   replace H := itn_ H; rcases H with ⟨c13b0, H⟩
   replace H := bi_ H; rcases H with ⟨t7, A14, H⟩
   replace H := iln_ H; rcases H with ⟨W3, H⟩
   obtain ⟨Ij, EJ⟩ : ∃ y_ : List (S55), y_ = (fb ++ [(⟨t7⟩ : S55)]) := ⟨_, rfl⟩
   replace H : (F79.l0 k1 ah (ah.length : Int) (wrap64 (dE + 1)) ao Ij) = some (r1, r2) := by first | (rw [EJ]; exact H) | exact H
   have W4 := am_ EJ
   clear EJ
   have H' := am_ H
   clear H
   have Nm : 0 ≤ (dE : Int) := od_
   have Nn : dE < (ah.length : Int) := od_
   obtain ⟨W5, gp, gq, a7E, sE, zx, zy⟩ := at_T55 gD.out dE Nm Nn
   cases a7E
   replace sE := (HB.out.cell (World.block_lt_of_cell? _ _ sE)).trans sE
   have Ik := am_ zy
   have Il := am_ zx
   clear zy zx
   replace Nm := eq_true Nm
   replace Nn := eq_true Nn
   try go_wp2_with (first | ((with_reducible refine gate_dst (N := 5) rfl ?_); refine be_ 5 #[.slice none 0 0] 55 ?_; intro fH hg kP hbox hb; replace bR := am_ (Kd.S_below (Kd.S_elderB au5_11 fH (Nat.le_of_eq hg.symm)) hb); have fz := am_ (hbox); have W6 := am_ (gw_ hg bl_); have b1E := W6; replace HB := hs_ w hb; have Az := am_ (gn_ hg (blkl_ dj)); have AA := am_ (gm_ hg (blkl_ dj)); replace dj := bb_ dj hb; have AB := am_ (gn_ hg (blkl_ dH)); have AC := am_ (gm_ hg (blkl_ dH)); replace dH := bb_ dH hb; have rf := am_ (gn_ hg (blkl_ cE)); have rg := am_ (gm_ hg (blkl_ cE)); replace cE := bb_ cE hb; clear hb hbox hg; have Vz := AA.out; have VA := Az.out; have IQ := AC.out; have IR := AB.out; have IT := rg.out; have IU := rf.out; have lc : kP.cell? ⟨fH, 0, none⟩ = some (.slice none 0 0) := (blk_cell fz.out 0).trans rfl; have ld := blk_frozen fz.out 0))
   have bI : Aside0 (Kd.S k55 55 (kP.setCell ⟨fH, 0, none⟩ (.slice gp ((rd_T55 ah dE).f0).length gq)) w.heap.size (fun k_ => k_ ≠ fH) f8 fb) := ⟨by (with_reducible repeat (first | apply Kd.S_alloc | apply Kd.S_drewN | apply Kd.S_drew)); exact Kd.S_mono (Kd.S_far (p := ⟨fH, 0, none⟩) (Kd.S_mono bR.out (fun k_ hk => (⟨hk, hk.2⟩ : _ ∧ k_ ≠ fH))) (fun _ hk => hk.2) (.slice gp ((rd_T55 ah dE).f0).length gq)) (fun _ hk => hk.1.2)⟩
   have bZ : Aside0 ((kP.setCell ⟨fH, 0, none⟩ (.slice gp ((rd_T55 ah dE).f0).length gq)).heap[Kx]? = some (.cells #[.string ao, .slice (some W5) ah.length bV] 52 (0, 0))) := ⟨bf_ dj⟩
   have n2_ : Aside0 ((kP.setCell ⟨fH, 0, none⟩ (.slice gp ((rd_T55 ah dE).f0).length gq)).heap[t8]? = some (.cells #[.string (⟨#[]⟩ : ByteArray), .slice none 0 0] 52 (0, 0))) := ⟨bf_ dH⟩
   have cD : Aside0 ((kP.setCell ⟨fH, 0, none⟩ (.slice gp ((rd_T55 ah dE).f0).length gq)).heap[re]? = some (.cells #[.string ao, f8] 52 (0, 0))) := ⟨bf_ cE⟩
   have ji : Aside0 ((kP.setCell ⟨fH, 0, none⟩ (.slice gp ((rd_T55 ah dE).f0).length gq)).heap[fH]? = some (.cells #[.slice gp ((rd_T55 ah dE).f0).length gq] 55 (0, 0))) := ⟨bq_ fz⟩
   have jj : Aside0 (Below w.heap.size w (kP.setCell ⟨fH, 0, none⟩ (.slice gp ((rd_T55 ah dE).f0).length gq))) := ⟨bl_⟩
   (try clear bR)
   (try clear dj)
   (try clear dH)
   (try clear cE)
   (try clear fz)
   (try clear HB)
   generalize (kP.setCell ⟨fH, 0, none⟩ (.slice gp ((rd_T55 ah dE).f0).length gq)) = Zf at bI bZ n2_ cD ji jj ⊢
   have bR := bI
   have dj := bZ
   have dH := n2_
   have cE := cD
   have fz := ji
   have HB := jj
   clear bI bZ n2_ cD ji jj
   replace bR := am_ (Kd.S_drew bR.out)
   replace dj := bd_ dj
   replace dH := bd_ dH
   replace cE := bd_ cE
   replace fz := bd_ fz
   replace HB := am_ (below_drew1 HB.out)
   refine start_ (n := 10) (S := fun w' => w'.cell? ⟨re, 0, none⟩ = some (.string ao) ∧ w'.cell? ⟨re, 1, none⟩ = some (f8) ∧ w'.cell? ⟨fH, 0, none⟩ = some (.slice gp ((rd_T55 ah dE).f0).length gq)) (ds := [9]) (bs 10 0) (by kernel_rfl) rfl rfl ⟨(blk_cell cE.out 0).trans rfl, (blk_cell cE.out 1).trans rfl, (blk_cell fz.out 0).trans rfl⟩ (fun hHeld => ?_); refine with_tabW F79.tab5 F79.bits5 (fun HT_ HW_ => ?_)
   generalize Zf.drew = OC at bR dj dH cE fz HB hHeld ⊢
   refine pu_ 0 16 (bs 10 1) HT_ ?_ rfl rfl
   refine pu_ 2 18 (bs 10 5) HT_ ?_ rfl rfl
   refine tk_ 1 17 (bs 10 7) HT_ HW_ hHeld (by rintro w' ⟨s0, s1, s2⟩; go_simp; with_reducible rfl) ?_ rfl rfl
   refine tk_ 3 19 (bs 10 15) HT_ HW_ hHeld (by rintro w' ⟨s0, s1, s2⟩; go_simp; with_reducible rfl) ?_ rfl rfl
   refine one_ (i := 4) (N := some 20) (bs 10 31) rfl rfl (one_of HT_.out (by kernel_rfl)) (by decide) (fun K hK => ?_)
   refine gr_ Tryd.func106 #[.slice gp ((rd_T55 ah dE).f0).length gq] (by rfl) ?_ rfl rfl rfl
   with_reducible refine (F106.calls _ _ ((rd_T55 ah dE).f0) t7 _ ?s1 ?s2 A14.out).mono ?_
   (case s1 => repeat (first | exact (Kd.C_below Ik.out HB.out) | (with_reducible refine Kd.C_alloc ?_ _) | (with_reducible refine Kd.C_drewN ?_ _) | (with_reducible refine Kd.C_drew ?_)))
   (case s2 => exact Il.out)
   rintro e w23 ⟨b6c, rfl, bm, hb⟩
   refine ⟨_, rfl, ?_⟩
   replace bR := am_ (Kd.S_elder' au5_11 (Kd.R_base bm) hb)
   have zz := am_ (Kd.R_lower bm (below_size bl_))
   replace dj := bb_ dj hb
   replace dH := bb_ dH hb
   replace cE := bb_ cE hb
   replace fz := bb_ fz hb
   replace HB := hs_ w hb
   (try clear hb)
   (try clear hb2)
   (try clear hk)
   (try clear hi)
   (try clear bm)
   obtain ⟨No, Np, Im⟩ := Kd.R_slice zz.out
   (first | subst Im | (injection Im with dY gS dZ; have gT := dY.symm; have gU := dZ.symm; clear dY gS dZ; subst gT; subst gU))
   refine hK.out _ _ ⟨(blk_cell cE.out 0).trans rfl, (blk_cell cE.out 1).trans rfl, (blk_cell fz.out 0).trans rfl⟩ (fun hHeld => ?_)
   clear hK K
   refine no_ 20 ?_
   refine pu_ 5 21 (bs 10 63) HT_ ?_ rfl rfl
   refine one_ (i := 6) (N := some 22) (bs 10 127) rfl rfl (one_of HT_.out (by kernel_rfl)) (by decide) (fun K hK => ?_)
   refine value_ (w1 := ?_) (v := ?_) (by rfl) rfl ?_ ?_
   rotate_left 2
   ·go_simp
    constructor
    ·rfl
    ·rfl
   refine hK.out _ _ ⟨(blk_cell (blk_alloc cE.out _) 0).trans rfl, (blk_cell (blk_alloc cE.out _) 1).trans rfl, (blk_cell (blk_alloc fz.out _) 0).trans rfl⟩ (fun hHeld => ?_)
   clear hK K
   refine no_ 22 ?_
   refine one_ (i := 7) (N := some 23) (bs 10 255) rfl rfl (one_of HT_.out (by kernel_rfl)) (by decide) (fun K hK => ?_)
   refine Kd.S_append_step k55 (w0 := w) w.heap.size (by rfl) (.tmp 17) (.tmp 22) 50 55 (.agg #[(.slice none 0 0)]) 24 rfl Tryd.underlying50 info55 rfl (by decide) (by omega) f8 fb (⟨t7⟩ : S55) [.slice No t7.length Np] (fun k_ => k_ ≠ fH) (fun k_ => some k_ = (.slice No t7.length Np : Value).ownBlock) rfl rfl ?aP (fun k_ hk_ => ((Kd.R_mono (ok' := fun k_ => ((fun k_ => k_ ≠ fH)) k_ ∧ some k_ ≠ (f8 : Value).ownBlock) (Kd.R_types (Kd.R_apart' (zz.out) (Kd.S_typed bR.out) (by decide)) fz.out (by decide)) (fun k_ hk => ⟨hk.2, hk.1.2⟩))).1 k_ hk_.symm) ?aF ?aO ?aB ?aS ?aL ?_
   (case aP => exact k55_mkM _ _ _ (⟨t7⟩ : S55) (Kd.R_mono (Kd.R_tight rfl (Kd.R_mono (ok' := fun k_ => ((fun k_ => k_ ≠ fH)) k_ ∧ some k_ ≠ (f8 : Value).ownBlock) (Kd.R_types (Kd.R_apart' (zz.out) (Kd.S_typed bR.out) (by decide)) fz.out (by decide)) (fun k_ hk => ⟨hk.2, hk.1.2⟩))) (fun _ h_ => h_)))
   (case aB => exact bl_)
   (case aF => exact (fun k_ hk => Kd.freshB (g := fH) (o := .cells #[.slice gp ((rd_T55 ah dE).f0).length gq] 55 (0, 0)) (bk_ fz) k_ hk))
   (case aO => exact (by (with_reducible repeat (first | apply Kd.S_alloc | apply Kd.S_drewN | apply Kd.S_drew)); exact Kd.S_mono bR.out (fun k_ hk => ⟨hk.1, fun e_ => hk.2 e_⟩)))
   (case aS => exact (below_size bl_))
   (case aL => have := W3.out; omega)
   intro b6d w25 ho hb hg hat
   rw [← W4.out] at ho
   replace dj := am_ (bg_ dj hg (Kd.S_ne bR.out dj.out (by decide)))
   replace dH := am_ (bg_ dH hg (Kd.S_ne bR.out dH.out (by decide)))
   replace cE := am_ (bg_ cE hg (Kd.S_ne bR.out cE.out (by decide)))
   replace fz := am_ (bg_ fz hg (Kd.S_away bR.out (fun _ hk => hk.1)))
   replace HB := am_ (hb)
   have Ky := am_ (ho)
   clear bR zz
   clear ho hb hg hat
   obtain ⟨Ng, Nh, Es⟩ := Kd.S_slice Ky.out
   (first | subst Es | (injection Es with dY gS dZ; have gT := dY.symm; have gU := dZ.symm; clear dY gS dZ; subst gT; subst gU))
   refine hK.out _ _ ⟨(blk_cell cE.out 0).trans rfl, (blk_cell cE.out 1).trans rfl, (blk_cell fz.out 0).trans rfl⟩ (fun hHeld => ?_)
   clear hK K
   refine no_ 23 ?_
   refine pu_ 8 24 (bs 10 511) HT_ ?_ rfl rfl
   refine last_ (i := 9) (N := none) (bs 10 1023) rfl rfl (one_of HT_.out (by kernel_rfl)) (by decide) (fun K hK => ?_)
   have b6e : w25.cell? ⟨re, 1, none⟩ = some (f8) := (blk_cell cE.out 1).trans rfl
   have b1F := blk_frozen cE.out 1
   have a0L := nV.out
   have a0M := nX.out
   have a0N := rg.out
   have a0O := nW.out
   have a0P := nY.out
   have a0Q := rf.out
   refine skip_ (w1 := ?_) (by rfl) rfl ?_ ?_
   rotate_left
   ·go_simp
    rfl
   refine hK.out _ _ ?_
   clear hK K
   refine done_ (done_of HT_.out (by kernel_rfl)) ?_
   try go_wp2
   go_roundg k1
   case measure => have := dk.out; omega
   case rel => exact ⟨(wrap64 (dE + 1)), (Ij), (.slice Ng Ij.length Nh), er_, H', ⟨by have := dk.out; omega⟩, ⟨by (with_reducible repeat (first | apply Kd.S_alloc | apply Kd.S_drewN | apply Kd.S_drew)); exact Kd.S_mono (Kd.S_far (p := ⟨re, 1, none⟩) (Kd.S_types Ky.out cE.out (by decide)) (fun _ hk => hk.2) (.slice Ng Ij.length Nh)) (fun _ hk => trivial)⟩, ⟨bf_ dj⟩, ⟨bf_ dH⟩, ⟨bq_ cE⟩, ⟨bl_⟩⟩
end Go.Proofs.YtlghcbmkhdibdaaDoor.PFnTrailers
