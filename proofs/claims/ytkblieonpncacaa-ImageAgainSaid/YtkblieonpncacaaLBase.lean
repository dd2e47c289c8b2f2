/- Plain lemmas on numbers, bits and lists that this seat's pure proofs use; nothing of the program is in them. -/
import Derived.Test.YtkblieonpncacaaWMine
set_option linter.unusedVariables false
set_option linter.unusedSimpArgs false
namespace Go.Proofs.Ytkblieonpncacaa.Pure
open Go.RowKit Go.Proofs.YtkblieonpncacaaW.PrintWords Go.Proofs.YtkblieonpncacaaW.PrintLast Go.Proofs.YtkblieonpncacaaW.PrintMore

theorem wrap64_id {n : Int} (h1 : -9223372036854775808 ≤ n) (h2 : n ≤ 9223372036854775807) : wrap64 n = n := by unfold wrap64; omega
theorem wf_u8 {x : Int} (h : (Lit.int .u8 x).wf = true) : 0 ≤ x ∧ x < 256 := by
  have hmin : IntKind.u8.min = 0 := rfl
  have hmax : IntKind.u8.max = 255 := rfl
  simp only [Lit.wf, Bool.and_eq_true, decide_eq_true_eq] at h; omega
theorem wf_u32 {x : Int} (h : (Lit.int .u32 x).wf = true) : 0 ≤ x ∧ x < 4294967296 := by
  have hmin : IntKind.u32.min = 0 := rfl
  have hmax : IntKind.u32.max = 4294967295 := rfl
  simp only [Lit.wf, Bool.and_eq_true, decide_eq_true_eq] at h; omega
theorem wf_u64 {x : Int} (h : (Lit.int .u64 x).wf = true) : 0 ≤ x ∧ x < 18446744073709551616 := by
  have hmin : IntKind.u64.min = 0 := rfl
  have hmax : IntKind.u64.max = 18446744073709551615 := rfl
  simp only [Lit.wf, Bool.and_eq_true, decide_eq_true_eq] at h; omega
theorem wf_i64 {x : Int} (h : (Lit.int .i64 x).wf = true) : -9223372036854775808 ≤ x ∧ x ≤ 9223372036854775807 := by
  have hmin : IntKind.i64.min = -9223372036854775808 := rfl
  have hmax : IntKind.i64.max = 9223372036854775807 := rfl
  simp only [Lit.wf, Bool.and_eq_true, decide_eq_true_eq] at h; omega

theorem _root_.Go.Proofs.YtkblieonpncacaaW.PrintWords.Ev.succ {α : Type} {g : Nat → Option α} {r : α} (h : Ev (fun k => g (k + 1)) r) : Ev g r := Ev.step (fun _ => rfl) h

/-! bits -/
theorem nat_or_add (n a b : Nat) (ha : a % 2 ^ n = 0) (hb : b < 2 ^ n) : a ||| b = a + b := by
  obtain ⟨c, rfl⟩ : ∃ c, a = c * 2 ^ n := ⟨a / 2 ^ n, by rw [Nat.mul_comm]; exact (Nat.mul_div_cancel' (Nat.dvd_of_mod_eq_zero ha)).symm⟩
  rw [← Nat.shiftLeft_eq, ← Nat.shiftLeft_add_eq_or_of_lt hb]
theorem or_u32_add (n : Nat) {a b : Int} (h0 : 0 ≤ a) (h1 : a < 4294967296) (h2 : a % 2 ^ n = 0) (h3 : 0 ≤ b) (h4 : b < 2 ^ n) (h5 : b < 4294967296) : Go.bits .or .u32 a b = a + b := by
  rw [u32_or a b h0 h1 h3 h5, nat_or_add n]
  · omega
  · have : ((a.toNat % 2 ^ n : Nat) : Int) = 0 := by rw [Int.natCast_emod, Int.toNat_of_nonneg h0, Int.natCast_pow]; exact_mod_cast h2
    exact_mod_cast this
  · have : (b.toNat : Int) < ((2 ^ n : Nat) : Int) := by rw [Int.toNat_of_nonneg h3, Int.natCast_pow]; exact_mod_cast h4
    exact_mod_cast this
theorem nat_and_mask (n a : Nat) : a &&& (2 ^ n - 1) = a % 2 ^ n := Nat.and_two_pow_sub_one_eq_mod a n
theorem and_u32_24 {a : Int} (h0 : 0 ≤ a) (h1 : a < 4294967296) : Go.bits .and .u32 a 16777215 = a % 16777216 := by
  rw [u32_and a 16777215 h0 h1 (by omega) (by omega)]
  have := nat_and_mask 24 a.toNat
  have h : (16777215 : Int).toNat = 2 ^ 24 - 1 := rfl
  rw [h, this]
  omega
theorem shl_i64_one {n : Int} (h0 : 0 ≤ n) (h1 : n ≤ 62) : shl .i64 1 n = 2 ^ n.toNat := by
  unfold shl
  have hb : IntKind.i64.bits = 64 := rfl
  rw [Nat.min_eq_left (by rw [hb]; omega), Int.one_mul]
  obtain ⟨m, rfl⟩ := Int.eq_ofNat_of_zero_le h0
  simp only [Int.toNat_natCast]
  have hm : m ≤ 62 := by omega
  have : ∀ m : Nat, m ≤ 62 → IntKind.wrap .i64 (2 ^ m) = 2 ^ m := by decide +kernel
  exact this m hm

/-! lists of bytes -/
def Bytes (l : List Int) : Prop := ∀ x ∈ l, 0 ≤ x ∧ x < 256
theorem Bytes.rd {l : List Int} (h : Bytes l) (i : Int) : 0 ≤ rd l i ∧ rd l i < 256 := by
  unfold Go.Proofs.YtkblieonpncacaaW.PrintWords.rd
  rw [List.getD_eq_getElem?_getD]
  cases hi : l[i.toNat]? with
  | none => simp
  | some x => exact h x (List.mem_of_getElem? hi)
theorem Bytes.of_wf {l : List Int} (h : ∀ x ∈ l, (Lit.int .u8 x).wf = true) : Bytes l := fun x hx => wf_u8 (h x hx)
def Words (l : List Int) : Prop := ∀ x ∈ l, 0 ≤ x ∧ x < 4294967296
theorem Words.rd {l : List Int} (h : Words l) (i : Int) : 0 ≤ rd l i ∧ rd l i < 4294967296 := by
  unfold Go.Proofs.YtkblieonpncacaaW.PrintWords.rd
  rw [List.getD_eq_getElem?_getD]
  cases hi : l[i.toNat]? with
  | none => simp
  | some x => exact h x (List.mem_of_getElem? hi)
end Go.Proofs.Ytkblieonpncacaa.Pure
