/- Plain lemmas for the pure parts: rounds, wrapping, bytes of a text, lists read by place.
Conditions: none. -/
import Derived.Test.YtchoalagkcdbhaaWWords
import Derived.Test.YtchoalagkcdbhaaWMore
set_option linter.unusedVariables false
namespace Go.Proofs.YtchoalagkcdbhaaW.PrintWords
section
variable {α β : Type}
theorem Ev.pos {c : Prop} [Decidable c] {g f : Nat → Option α} {r : α} (h : c) (k : Ev g r) : Ev (fun n => if c then g n else f n) r := by
  obtain ⟨K, hk⟩ := k
  exact ⟨K, fun n hn => by simp only [if_pos h]; exact hk n hn⟩
theorem Ev.neg {c : Prop} [Decidable c] {g f : Nat → Option α} {r : α} (h : ¬ c) (k : Ev f r) : Ev (fun n => if c then g n else f n) r := by
  obtain ⟨K, hk⟩ := k
  exact ⟨K, fun n hn => by simp only [if_neg h]; exact hk n hn⟩
theorem Ev.ite {c : Prop} [Decidable c] {g f : Nat → Option α} {r : α} (h1 : c → Ev g r) (h2 : ¬ c → Ev f r) : Ev (fun n => if c then g n else f n) r := by
  by_cases h : c
  · exact Ev.pos h (h1 h)
  · exact Ev.neg h (h2 h)
theorem Ev.bindc {x : Option β} {f : Nat → β → Option α} {a : β} {r : α} (h : x = some a) (k : Ev (fun n => f n a) r) : Ev (fun n => x.bind (f n)) r := by
  subst h
  obtain ⟨K, hk⟩ := k
  exact ⟨K, fun n hn => hk n hn⟩
theorem Ev.ret {r r' : α} (h : r = r') : Ev (fun _ => some r) r' := by
  subst h
  exact Ev.now r
theorem Ev.const {x : Option α} {r : α} (h : x = some r) : Ev (fun _ => x) r := by
  subst h
  exact Ev.now r
theorem Ev.unique {g : Nat → Option α} {r r' : α} (h : Ev g r) (h' : Ev g r') : r = r' := by
  obtain ⟨K, h⟩ := h
  obtain ⟨K', h'⟩ := h'
  have h1 := h (max K K') (by omega)
  have h2 := h' (max K K') (by omega)
  rw [h1] at h2
  exact Option.some.inj h2
theorem Ev.to {g : Nat → Option α} {r r' : α} (h : Ev g r) (e : r = r') : Ev g r' := e ▸ h
end
end Go.Proofs.YtchoalagkcdbhaaW.PrintWords
namespace Go.Proofs.YtchoalagkcdbhaaW.Pl
open Go.RowKit Go.Proofs.YtchoalagkcdbhaaW.PrintWords Go.Proofs.YtchoalagkcdbhaaW.PrintMore

theorem wrap_id {x : Int} (h0 : -9223372036854775808 ≤ x) (h1 : x ≤ 9223372036854775807) : wrap64 x = x := by
  unfold wrap64
  omega
/-- The bounds of an int64. -/
theorem i64_of {x : Int} (h : (Lit.int .i64 x).wf = true) : -9223372036854775808 ≤ x ∧ x ≤ 9223372036854775807 := by
  have h2 : IntKind.i64.min ≤ x ∧ x ≤ 9223372036854775807 := by simpa [Lit.wf] using h
  exact h2

theorem length_bytesOf (s : ByteArray) : (bytesOf s).length = s.size := by
  simp [bytesOf]
theorem mem_bytesOf {s : ByteArray} {c : Int} (h : c ∈ bytesOf s) : 0 ≤ c ∧ c ≤ 255 := by
  simp only [bytesOf, List.mem_map] at h
  obtain ⟨b, _, rfl⟩ := h
  have := b.toNat_lt
  omega
theorem bt_nat (s : ByteArray) (i : Nat) (h : i < s.size) : bt s (i : Int) = (bytesOf s)[i]'(by rw [length_bytesOf]; exact h) := by
  simp [bt, bytesOf, h]; rfl
theorem drop_cons {s : ByteArray} {i : Nat} {c : Int} {r : List Int} (h : (bytesOf s).drop i = c :: r) : (i : Int) < (s.size : Int) ∧ bt s (i : Int) = c ∧ (bytesOf s).drop (i + 1) = r ∧ 0 ≤ c ∧ c ≤ 255 := by
  have hl : i < (bytesOf s).length := by
    by_cases hl : i < (bytesOf s).length
    · exact hl
    · rw [List.drop_eq_nil_of_le (by omega)] at h; cases h
  have h1 := List.drop_eq_getElem_cons hl
  rw [h] at h1
  have hs : i < s.size := by rw [← length_bytesOf]; exact hl
  refine ⟨by omega, ?_, ?_, ?_⟩
  · rw [bt_nat s i hs]; exact (List.cons.inj h1).1.symm
  · exact (List.cons.inj h1).2.symm
  · exact mem_bytesOf (List.mem_of_mem_drop (by rw [h]; exact List.mem_cons_self))
theorem drop_nil {s : ByteArray} {i : Nat} (h : (bytesOf s).drop i = []) : (s.size : Int) ≤ (i : Int) := by
  rw [List.drop_eq_nil_iff, length_bytesOf] at h
  omega
theorem ldrop_cons {α : Type} {l : List α} {i : Nat} {c : α} {r : List α} (z : α) (h : l.drop i = c :: r) : (i : Int) < (l.length : Int) ∧ l.getD (i : Int).toNat z = c ∧ l.drop (i + 1) = r := by
  have hl : i < l.length := by
    by_cases hl : i < l.length
    · exact hl
    · rw [List.drop_eq_nil_of_le (by omega)] at h; cases h
  have h1 := List.drop_eq_getElem_cons hl
  rw [h] at h1
  refine ⟨by omega, ?_, (List.cons.inj h1).2.symm⟩
  rw [Int.toNat_natCast, List.getD_eq_getElem?_getD, List.getElem?_eq_getElem hl]
  exact (List.cons.inj h1).1.symm
theorem ldrop_nil {α : Type} {l : List α} {i : Nat} (h : l.drop i = []) : (l.length : Int) ≤ (i : Int) := by
  rw [List.drop_eq_nil_iff] at h
  omega
theorem rd_cons {l : List Int} {i : Nat} {c : Int} {r : List Int} (h : l.drop i = c :: r) : (i : Int) < (l.length : Int) ∧ rd l (i : Int) = c ∧ l.drop (i + 1) = r := ldrop_cons 0 h
theorem rdOf_cons {α : Type} {l : List α} {i : Nat} {c : α} {r : List α} (z : α) (h : l.drop i = c :: r) : (i : Int) < (l.length : Int) ∧ rdOf z l (i : Int) = c ∧ l.drop (i + 1) = r := ldrop_cons z h
theorem toList_inj {a b : ByteArray} : a.toList = b.toList ↔ a = b := by
  constructor
  · intro h
    have h1 : a.data.toList = b.data.toList := by rwa [ByteArray.toList_eq, ByteArray.toList_eq] at h
    cases a; cases b
    simp only [ByteArray.mk.injEq]
    exact Array.ext' h1
  · intro h
    rw [h]
theorem bytesOf_inj {a b : ByteArray} (h : bytesOf a = bytesOf b) : a = b := by
  have h1 : a.data.toList = b.data.toList := by
    have hi : Function.Injective (fun c : UInt8 => (c.toNat : Int)) := fun x y hxy => UInt8.toNat_inj.1 (by have : (x.toNat : Int) = (y.toNat : Int) := hxy; omega)
    exact (List.map_inj_right (fun x y hxy => hi hxy)).1 h
  cases a; cases b
  simp only [ByteArray.mk.injEq]
  exact Array.ext' h1
theorem bytesOf_strOf (l : List Int) (h : ∀ c ∈ l, 0 ≤ c ∧ c ≤ 255) : bytesOf (strOfNums l) = l := by
  simp only [bytesOf, strOfNums, List.map_map]
  have : ∀ c ∈ l, ((fun b : UInt8 => (b.toNat : Int)) ∘ fun n : Int => UInt8.ofNat n.toNat) c = c := by
    intro c hc
    have := h c hc
    simp only [Function.comp, UInt8.toNat_ofNat']
    omega
  rw [List.map_congr_left this, List.map_id'']
  exact fun _ => rfl
theorem size_strOf (l : List Int) : (strOfNums l).size = l.length := by
  simp [strOfNums, ByteArray.size]
theorem bytesOf_append (a b : ByteArray) : bytesOf (a ++ b) = bytesOf a ++ bytesOf b := by
  simp [bytesOf]
theorem size_append (a b : ByteArray) : (a ++ b).size = a.size + b.size := by
  simp
theorem strOf_append (a b : List Int) : strOfNums (a ++ b) = strOfNums a ++ strOfNums b := by
  have h : (strOfNums (a ++ b)).data.toList = (strOfNums a ++ strOfNums b).data.toList := by
    simp [strOfNums]
  exact toList_inj.1 (by rwa [ByteArray.toList_eq, ByteArray.toList_eq])
theorem strOf_bytesOf (s : ByteArray) : strOfNums (bytesOf s) = s := by
  apply bytesOf_inj
  exact bytesOf_strOf _ (fun c hc => mem_bytesOf hc)
theorem bytesOf_extract (s : ByteArray) (i j : Nat) : bytesOf (s.extract i j) = ((bytesOf s).take j).drop i := by
  simp [bytesOf, List.map_take, List.map_drop, List.drop_take]

/-! words of the laws -/
def great (c : Int) : Bool := decide (65 ≤ c ∧ c ≤ 90)
def digit (c : Int) : Bool := decide (48 ≤ c ∧ c ≤ 57)
def nameCh (c : Int) : Bool := great c || digit c || c == 45
/-- A name, by its bytes. -/
def nameP : List Int → Bool
  | [] => false
  | c :: r => great c && r.all nameCh && decide (r.length ≤ 11)
def withinP (a b c : Int) : Bool := decide (b ≤ a ∧ a ≤ c)
/-- A byte that may be one of the four of a syntax. -/
def markP (c : Int) : Bool := decide (33 ≤ c ∧ c ≤ 126 ∧ c ≠ 45 ∧ ¬ (65 ≤ c ∧ c ≤ 90) ∧ ¬ (97 ≤ c ∧ c ≤ 122) ∧ ¬ (48 ≤ c ∧ c ≤ 57))
/-- A right syntax. -/
def synP (a b c d : Int) : Bool := markP a && markP b && markP c && markP d && decide (a ≠ b ∧ a ≠ c ∧ b ≠ c ∧ a ≠ d ∧ b ≠ d ∧ c ≠ d)
theorem markP_iff {c : Int} : markP c = true ↔ 33 ≤ c ∧ c ≤ 126 ∧ c ≠ 45 ∧ ¬ (65 ≤ c ∧ c ≤ 90) ∧ ¬ (97 ≤ c ∧ c ≤ 122) ∧ ¬ (48 ≤ c ∧ c ≤ 57) := by unfold markP; rw [decide_eq_true_iff]
theorem markP_not {c : Int} : markP c = false ↔ ¬ (33 ≤ c ∧ c ≤ 126 ∧ c ≠ 45 ∧ ¬ (65 ≤ c ∧ c ≤ 90) ∧ ¬ (97 ≤ c ∧ c ≤ 122) ∧ ¬ (48 ≤ c ∧ c ≤ 57)) := by unfold markP; rw [decide_eq_false_iff_not]
theorem synP_iff {a b c d : Int} : synP a b c d = true ↔ markP a = true ∧ markP b = true ∧ markP c = true ∧ markP d = true ∧ a ≠ b ∧ a ≠ c ∧ b ≠ c ∧ a ≠ d ∧ b ≠ d ∧ c ≠ d := by simp [synP, and_assoc]
end Go.Proofs.YtchoalagkcdbhaaW.Pl
