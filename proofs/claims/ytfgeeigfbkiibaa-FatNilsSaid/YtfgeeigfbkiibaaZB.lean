/- What the functions of the packages fat, extent, octet and parts compute, each function once: a walk and its plain law; the conditions stand in each theorem. -/
import Derived.Test.YtfgeeigfbkiibaaZA
import Derived.Test.YtfgeeigfbkiibaaZFatx6
import Derived.Test.YtfgeeigfbkiibaaZFatx11
import Derived.Test.YtfgeeigfbkiibaaZFatx13
import Derived.Outline
import Derived.Lib.SlBytesConst
import Derived.Test.YtfgeeigfbkiibaaZFatx9
import Derived.Test.YtfgeeigfbkiibaaZFatx2
import Derived.Test.YtfgeeigfbkiibaaZFatx5
import Derived.Laws.MathBits
import Derived.Deep.DeepCutAuto
import Derived.Deep.CutRange
import Derived.Shelf.SlSortCmp.NoneTotal
import Derived.Shelf.SlSortCmp.WholeK
import Derived.Ground.SlsfProg
import Derived.Test.YtfgeeigfbkiibaaProg
import Derived.Deep.QuietTactic
import Derived.BigQuiet
import Derived.StillTailTactics
import Derived.Test.YtfgeeigfbkiibaaZFatx0
namespace Go.Proofs.Ytfgeeigfbkiibaa.X
open Go.RowKit Go.Proofs.YtfgeeigfbkiibaaW.PrintWords Go.Proofs.YtfgeeigfbkiibaaW.PrintLast Go.Proofs.YtfgeeigfbkiibaaW.PrintMore
open Go.Proofs.Ytfgeeigfbkiibaa.XFat
set_option linter.unusedVariables false
set_option linter.unusedSimpArgs false

theorem w64 {i : Int} (h0 : -9223372036854775808 ≤ i) (h1 : i ≤ 9223372036854775807) : wrap64 i = i := by unfold wrap64; omega
theorem octet_in_yes (l : List Int) (a n : Nat) (h : a + n ≤ l.length) (hl : l.length ≤ 9223372036854775807) : octet_in.f l a n = some true := by
  unfold octet_in.f
  rw [if_pos (by omega), if_pos (by omega), if_pos (by omega), w64 (by omega) (by omega)]
  simp; omega
theorem octet_in_no (l : List Int) (a n : Int) (h : a < 0 ∨ n < 0 ∨ (l.length : Int) < a + n) (hl : l.length ≤ 9223372036854775807) : octet_in.f l a n = some false := by
  unfold octet_in.f
  by_cases h1 : a ≥ 0
  · rw [if_pos h1]
    by_cases h2 : n ≥ 0
    · rw [if_pos h2]
      by_cases h3 : a ≤ (l.length : Int)
      · rw [if_pos h3, w64 (by omega) (by omega)]
        simp; omega
      · rw [if_neg h3]
    · rw [if_neg h2]
  · rw [if_neg h1]


theorem put16_loop (a n : Nat) (hn : n ≤ 8) : ∀ (r k : Nat) (x : List Int) (v i : Int), i + r = n → 0 ≤ i → r < k → a + n ≤ x.length → x.length ≤ 9223372036854775807 →
    octet_put_uint16.l0 k x a v n i = some (true, spl x (a + i.toNat) (le r v)) := by
  intro r
  induction r with
  | zero =>
    intro k x v i hi h0 hk hx hl
    obtain ⟨k, rfl⟩ : ∃ m, k = m + 1 := ⟨k - 1, by omega⟩
    simp only [octet_put_uint16.l0, le, spl_nil]
    rw [if_neg (by omega)]
  | succ r ih =>
    intro k x v i hi h0 hk hx hl
    obtain ⟨k, rfl⟩ : ∃ m, k = m + 1 := ⟨k - 1, by omega⟩
    simp only [octet_put_uint16.l0, le]
    rw [w64 (i := (a : Int) + i) (by omega) (by omega), w64 (i := i + 1) (by omega) (by omega), if_pos (by omega), if_pos (by omega), if_pos (by omega)]
    rw [ih k _ (v / 256) (i + 1) (by omega) (by omega) (by omega) (by rw [List.length_set]; omega) (by rw [List.length_set]; omega)]
    rw [show ((a : Int) + i).toNat = a + i.toNat by omega, show a + (i + 1).toNat = (a + i.toNat) + 1 by omega, spl_set _ _ _ _ (by rw [le_length]; omega)]
theorem Put16_yes (k : Nat) (hk : 2 < k) (l : List Int) (a : Nat) (v : Int) (h : a + 2 ≤ l.length) (hl : l.length ≤ 9223372036854775807) :
    octet_Put16.f k l a v = some (true, spl l a (le 2 v)) := by
  unfold octet_Put16.f octet_put_uint16.f
  have h1 := octet_in_yes l a 2 h hl
  rw [show ((2 : Nat) : Int) = 2 from rfl] at h1
  rw [h1]
  simp only [Option.bind_some, if_true]
  have h2 := put16_loop a 2 (by decide) 2 k l v 0 (by decide) (by decide) hk h hl
  rw [show ((2 : Nat) : Int) = 2 from rfl] at h2
  rw [h2]
  rfl
theorem Put16_no (k : Nat) (l : List Int) (a : Int) (v : Int) (h : a < 0 ∨ (l.length : Int) < a + 2) (hl : l.length ≤ 9223372036854775807) :
    octet_Put16.f k l a v = some (false, l) := by
  unfold octet_Put16.f octet_put_uint16.f
  rw [octet_in_no l a 2 (by omega) hl]
  rfl
theorem or16 (x y : Int) (h0 : 0 ≤ x) (h1 : x * 256 < 65536) (h2 : 0 ≤ y) (h3 : y < 256) : Go.bits .or .u16 (x * 256) y = x * 256 + y :=
  bits_join .u16 16 (by decide) (fun n a b => by rw [IntKind.wrap_u16]; exact Int.emod_eq_of_lt a (by simpa using b)) 8 (x * 256) y (by omega) (by omega) (by omega) h2 (by omega) (by omega)
theorem little16_loop (l : List Int) (hb : IsB l) (a : Nat) (hl : l.length ≤ 9223372036854775807) : ∀ (r k : Nat) (acc : Int), r < k → a + r ≤ l.length → 0 ≤ acc → acc * 256 ^ r < 65536 → (r < 2 ∨ acc = 0) → r ≤ 2 → acc < 256 ^ (2 - r) →
    octet_little_uint16.l0 k l a acc ((r : Int) - 1) = some (acc * 256 ^ r + num (sub l a r), true) := by
  intro r
  induction r with
  | zero =>
    intro k acc hk hx h0 h1 _ _ _
    obtain ⟨k, rfl⟩ : ∃ m, k = m + 1 := ⟨k - 1, by omega⟩
    simp only [octet_little_uint16.l0]
    rw [if_neg (by omega)]
    simp [sub, num]
  | succ r ih =>
    intro k acc hk hx h0 h1 h2 h3 h4
    obtain ⟨k, rfl⟩ : ∃ m, k = m + 1 := ⟨k - 1, by omega⟩
    have hr := rd_isB hb ((a + r : Nat) : Int)
    have hp : (256 : Int) ^ (r + 1) = 256 ^ r * 256 := Int.pow_succ _ _
    have hp1 : (1 : Int) ≤ 256 ^ r := Int.pow_pos (by decide)
    have hm : acc * 256 < 65536 := by
      have : acc * 256 ≤ acc * 256 ^ (r + 1) := by
        rw [hp, Int.mul_comm (256 ^ r) 256, ← Int.mul_assoc]
        have h5 : acc * 256 * 1 ≤ acc * 256 * 256 ^ r := Int.mul_le_mul_of_nonneg_left hp1 (by omega)
        omega
      omega
    simp only [octet_little_uint16.l0]
    rw [w64 (i := (a : Int) + _) (by omega) (by omega), w64 (i := ((r + 1 : Nat) : Int) - 1 - 1) (by omega) (by omega), if_pos (by omega), if_pos (by omega), if_pos (by omega)]
    rw [show (a : Int) + (((r + 1 : Nat) : Int) - 1) = ((a + r : Nat) : Int) by omega, show ((r + 1 : Nat) : Int) - 1 - 1 = (r : Int) - 1 by omega]
    have e1 : IntKind.u16.wrap (acc * 256) = acc * 256 := by rw [IntKind.wrap_u16]; omega
    have e2 : IntKind.u16.wrap (rd l ((a + r : Nat) : Int)) = rd l ((a + r : Nat) : Int) := by rw [IntKind.wrap_u16]; omega
    rw [e1, e2, or16 acc _ h0 hm hr.1 hr.2]
    have hn2 : acc * 256 + rd l ((a + r : Nat) : Int) < 256 ^ (2 - r) := by
      rw [show 2 - r = (2 - (r + 1)) + 1 by omega, Int.pow_succ]
      omega
    rw [ih k _ (by omega) (by omega) (by omega) ?_ (by omega) (by omega) hn2, num_sub_succ l a r (by omega), hp]
    · congr 2
      rw [Int.add_mul, Int.mul_assoc, Int.mul_comm 256 (256 ^ r), Int.mul_comm (rd l _) (256 ^ r)]
      omega
    · have h6 : (acc * 256 + rd l ((a + r : Nat) : Int)) * 256 ^ r ≤ (256 ^ (2 - r) - 1) * 256 ^ r := Int.mul_le_mul_of_nonneg_right (by omega) (by omega)
      have h7 : (256 : Int) ^ (2 - r) * 256 ^ r = 256 ^ 2 := by rw [← Int.pow_add]; congr 1; omega
      rw [Int.sub_mul, h7] at h6
      have h8 : (256 : Int) ^ 2 = 65536 := by decide
      omega
theorem U16_yes (k : Nat) (hk : 2 < k) (l : List Int) (hb : IsB l) (a : Nat) (h : a + 2 ≤ l.length) (hl : l.length ≤ 9223372036854775807) :
    octet_U16.f k l a = some (num (sub l a 2), true) := by
  unfold octet_U16.f octet_little_uint16.f
  have h1 := octet_in_yes l a 2 h hl
  rw [show ((2 : Nat) : Int) = 2 from rfl] at h1
  rw [h1]
  simp only [Option.bind_some, if_true]
  have h2 := little16_loop l hb a hl 2 k 0 hk h (by decide) (by decide) (.inr rfl) (by decide) (by decide)
  rw [show ((2 : Nat) : Int) - 1 = 1 from rfl] at h2
  rw [show wrap64 (2 - 1) = 1 by rw [w64 (by decide) (by decide)]; rfl, h2]
  simp
theorem U16_no (k : Nat) (l : List Int) (a : Int) (h : a < 0 ∨ (l.length : Int) < a + 2) (hl : l.length ≤ 9223372036854775807) :
    octet_U16.f k l a = some (0, false) := by
  unfold octet_U16.f octet_little_uint16.f
  rw [octet_in_no l a 2 (by omega) hl]
  rfl


theorem put32_loop (a n : Nat) (hn : n ≤ 8) : ∀ (r k : Nat) (x : List Int) (v i : Int), i + r = n → 0 ≤ i → r < k → a + n ≤ x.length → x.length ≤ 9223372036854775807 →
    octet_put_uint32.l0 k x a v n i = some (true, spl x (a + i.toNat) (le r v)) := by
  intro r
  induction r with
  | zero =>
    intro k x v i hi h0 hk hx hl
    obtain ⟨k, rfl⟩ : ∃ m, k = m + 1 := ⟨k - 1, by omega⟩
    simp only [octet_put_uint32.l0, le, spl_nil]
    rw [if_neg (by omega)]
  | succ r ih =>
    intro k x v i hi h0 hk hx hl
    obtain ⟨k, rfl⟩ : ∃ m, k = m + 1 := ⟨k - 1, by omega⟩
    simp only [octet_put_uint32.l0, le]
    rw [w64 (i := (a : Int) + i) (by omega) (by omega), w64 (i := i + 1) (by omega) (by omega), if_pos (by omega), if_pos (by omega), if_pos (by omega)]
    rw [ih k _ (v / 256) (i + 1) (by omega) (by omega) (by omega) (by rw [List.length_set]; omega) (by rw [List.length_set]; omega)]
    rw [show ((a : Int) + i).toNat = a + i.toNat by omega, show a + (i + 1).toNat = (a + i.toNat) + 1 by omega, spl_set _ _ _ _ (by rw [le_length]; omega)]
theorem Put32_yes (k : Nat) (hk : 4 < k) (l : List Int) (a : Nat) (v : Int) (h : a + 4 ≤ l.length) (hl : l.length ≤ 9223372036854775807) :
    octet_Put32.f k l a v = some (true, spl l a (le 4 v)) := by
  unfold octet_Put32.f octet_put_uint32.f
  have h1 := octet_in_yes l a 4 h hl
  rw [show ((4 : Nat) : Int) = 4 from rfl] at h1
  rw [h1]
  simp only [Option.bind_some, if_true]
  have h2 := put32_loop a 4 (by decide) 4 k l v 0 (by decide) (by decide) hk h hl
  rw [show ((4 : Nat) : Int) = 4 from rfl] at h2
  rw [h2]
  rfl
theorem Put32_no (k : Nat) (l : List Int) (a : Int) (v : Int) (h : a < 0 ∨ (l.length : Int) < a + 4) (hl : l.length ≤ 9223372036854775807) :
    octet_Put32.f k l a v = some (false, l) := by
  unfold octet_Put32.f octet_put_uint32.f
  rw [octet_in_no l a 4 (by omega) hl]
  rfl
theorem or32 (x y : Int) (h0 : 0 ≤ x) (h1 : x * 256 < 4294967296) (h2 : 0 ≤ y) (h3 : y < 256) : Go.bits .or .u32 (x * 256) y = x * 256 + y :=
  bits_join .u32 32 (by decide) (fun n a b => by rw [IntKind.wrap_u32]; exact Int.emod_eq_of_lt a (by simpa using b)) 8 (x * 256) y (by omega) (by omega) (by omega) h2 (by omega) (by omega)
theorem little32_loop (l : List Int) (hb : IsB l) (a : Nat) (hl : l.length ≤ 9223372036854775807) : ∀ (r k : Nat) (acc : Int), r < k → a + r ≤ l.length → 0 ≤ acc → acc * 256 ^ r < 4294967296 → (r < 4 ∨ acc = 0) → r ≤ 4 → acc < 256 ^ (4 - r) →
    octet_little_uint32.l0 k l a acc ((r : Int) - 1) = some (acc * 256 ^ r + num (sub l a r), true) := by
  intro r
  induction r with
  | zero =>
    intro k acc hk hx h0 h1 _ _ _
    obtain ⟨k, rfl⟩ : ∃ m, k = m + 1 := ⟨k - 1, by omega⟩
    simp only [octet_little_uint32.l0]
    rw [if_neg (by omega)]
    simp [sub, num]
  | succ r ih =>
    intro k acc hk hx h0 h1 h2 h3 h4
    obtain ⟨k, rfl⟩ : ∃ m, k = m + 1 := ⟨k - 1, by omega⟩
    have hr := rd_isB hb ((a + r : Nat) : Int)
    have hp : (256 : Int) ^ (r + 1) = 256 ^ r * 256 := Int.pow_succ _ _
    have hp1 : (1 : Int) ≤ 256 ^ r := Int.pow_pos (by decide)
    have hm : acc * 256 < 4294967296 := by
      have : acc * 256 ≤ acc * 256 ^ (r + 1) := by
        rw [hp, Int.mul_comm (256 ^ r) 256, ← Int.mul_assoc]
        have h5 : acc * 256 * 1 ≤ acc * 256 * 256 ^ r := Int.mul_le_mul_of_nonneg_left hp1 (by omega)
        omega
      omega
    simp only [octet_little_uint32.l0]
    rw [w64 (i := (a : Int) + _) (by omega) (by omega), w64 (i := ((r + 1 : Nat) : Int) - 1 - 1) (by omega) (by omega), if_pos (by omega), if_pos (by omega), if_pos (by omega)]
    rw [show (a : Int) + (((r + 1 : Nat) : Int) - 1) = ((a + r : Nat) : Int) by omega, show ((r + 1 : Nat) : Int) - 1 - 1 = (r : Int) - 1 by omega]
    have e1 : acc * 256 % 4294967296 = acc * 256 := by omega
    have e2 : rd l ((a + r : Nat) : Int) % 4294967296 = rd l ((a + r : Nat) : Int) := by omega
    rw [e1, e2, or32 acc _ h0 hm hr.1 hr.2]
    have hn2 : acc * 256 + rd l ((a + r : Nat) : Int) < 256 ^ (4 - r) := by
      rw [show 4 - r = (4 - (r + 1)) + 1 by omega, Int.pow_succ]
      omega
    rw [ih k _ (by omega) (by omega) (by omega) ?_ (by omega) (by omega) hn2, num_sub_succ l a r (by omega), hp]
    · congr 2
      rw [Int.add_mul, Int.mul_assoc, Int.mul_comm 256 (256 ^ r), Int.mul_comm (rd l _) (256 ^ r)]
      omega
    · have h6 : (acc * 256 + rd l ((a + r : Nat) : Int)) * 256 ^ r ≤ (256 ^ (4 - r) - 1) * 256 ^ r := Int.mul_le_mul_of_nonneg_right (by omega) (by omega)
      have h7 : (256 : Int) ^ (4 - r) * 256 ^ r = 256 ^ 4 := by rw [← Int.pow_add]; congr 1; omega
      rw [Int.sub_mul, h7] at h6
      have h8 : (256 : Int) ^ 4 = 4294967296 := by decide
      omega
theorem U32_yes (k : Nat) (hk : 4 < k) (l : List Int) (hb : IsB l) (a : Nat) (h : a + 4 ≤ l.length) (hl : l.length ≤ 9223372036854775807) :
    octet_U32.f k l a = some (num (sub l a 4), true) := by
  unfold octet_U32.f octet_little_uint32.f
  have h1 := octet_in_yes l a 4 h hl
  rw [show ((4 : Nat) : Int) = 4 from rfl] at h1
  rw [h1]
  simp only [Option.bind_some, if_true]
  have h2 := little32_loop l hb a hl 4 k 0 hk h (by decide) (by decide) (.inr rfl) (by decide) (by decide)
  rw [show ((4 : Nat) : Int) - 1 = 3 from rfl] at h2
  rw [show wrap64 (4 - 1) = 3 by rw [w64 (by decide) (by decide)]; rfl, h2]
  simp
theorem U32_no (k : Nat) (l : List Int) (a : Int) (h : a < 0 ∨ (l.length : Int) < a + 4) (hl : l.length ≤ 9223372036854775807) :
    octet_U32.f k l a = some (0, false) := by
  unfold octet_U32.f octet_little_uint32.f
  rw [octet_in_no l a 4 (by omega) hl]
  rfl


theorem Bytes_loop (n : Nat) (hn : n ≤ 1000) : ∀ (r k : Nat) (v i : Int) (x : List Int), i + r = n → 0 ≤ i → r < k → x.length = i.toNat → 0 ≤ v → v < 18446744073709551616 →
    fettleref01_Bytes.l0 k v n x i = some (x ++ le r v) := by
  intro r
  induction r with
  | zero =>
    intro k v i x hi h0 hk hx hv hv2
    obtain ⟨k, rfl⟩ : ∃ m, k = m + 1 := ⟨k - 1, by omega⟩
    simp only [fettleref01_Bytes.l0, le, List.append_nil]
    rw [if_neg (by omega)]
  | succ r ih =>
    intro k v i x hi h0 hk hx hv hv2
    obtain ⟨k, rfl⟩ : ∃ m, k = m + 1 := ⟨k - 1, by omega⟩
    simp only [fettleref01_Bytes.l0, le]
    have e1 : Int.tdiv v 256 = v / 256 := Int.tdiv_eq_ediv_of_nonneg hv
    have e2 : Int.tmod v 256 = v % 256 := Int.tmod_eq_emod_of_nonneg hv
    rw [e1, e2, w64 (i := i + 1) (by omega) (by omega), if_pos (by omega), if_pos (by omega), IntKind.wrap_u64, show v / 256 % 18446744073709551616 = v / 256 by omega, show v % 256 % 256 = v % 256 by omega]
    rw [ih k _ _ _ (by omega) (by omega) (by omega) (by rw [List.length_append, List.length_singleton]; omega) (by omega) (by omega)]
    simp
theorem Bytes_yes (k n : Nat) (hn : n ≤ 1000) (hk : n < k) (v : Int) (hv : 0 ≤ v) (hv2 : v < 18446744073709551616) : fettleref01_Bytes.f k v n = some (le n v) := by
  unfold fettleref01_Bytes.f
  rw [Bytes_loop n hn n k v 0 [] (by omega) (by omega) hk rfl hv hv2, List.nil_append]
end Go.Proofs.Ytfgeeigfbkiibaa.X
namespace Go.Proofs.Ytfgeeigfbkiibaa.X
open Go.RowKit Go.Proofs.YtfgeeigfbkiibaaW.PrintWords Go.Proofs.YtfgeeigfbkiibaaW.PrintLast Go.Proofs.YtfgeeigfbkiibaaW.PrintMore
open Go.Proofs.Ytfgeeigfbkiibaa.XFat
set_option linter.unusedVariables false
set_option linter.unusedSimpArgs false

/-- What stands while a function writes into a row of bytes that it was handed: from w0 on, from the call's own world w on. -/
structure St (w0 w W : World) (P : Nat → Prop) (u : Value) (l : List Int) : Prop where
  b : Below w0.heap.size w0 W
  o : Kd.R (Kd.int .u8) 5 W w0.heap.size (fun k => (P k ∨ w.heap.size ≤ k)) u l
  k : Kept w W (fun k => P k)
theorem St.start {w0 w : World} {P : Nat → Prop} {u : Value} {l : List Int} (hB : Below w0.heap.size w0 w) (ho : Kd.R (Kd.int .u8) 5 w w0.heap.size P u l) : St w0 w w P u l :=
  ⟨hB, Kd.R_mono ho (fun k_ hk => (.inl hk)), Kept.refl w _⟩
theorem St.below {w0 w W W' : World} {P : Nat → Prop} {u : Value} {l : List Int} (h : St w0 w W P u l) (hb : Below W.heap.size W W') : St w0 w W' P u l :=
  ⟨below_step h.b hb, Kd.R_below h.o hb, h.k.below hb⟩
theorem St.alloc {w0 w W : World} {P : Nat → Prop} {u : Value} {l : List Int} (h : St w0 w W P u l) (o : Obj) : St w0 w (W.alloc o) P u l := h.below (below_alloc (Below.refl _ _) o)
theorem St.drew {w0 w W : World} {P : Nat → Prop} {u : Value} {l : List Int} (h : St w0 w W P u l) : St w0 w W.drew P u l := h.below (below_drew (Below.refl _ _))
theorem St.drewN {w0 w W : World} {P : Nat → Prop} {u : Value} {l : List Int} (h : St w0 w W P u l) (n : Nat) : St w0 w (W.drewN n) P u l := h.below (pw_below_drewN (Below.refl _ _) n)
theorem St.call {w0 w W W' : World} {P : Nat → Prop} {u : Value} {l l' : List Int} (h : St w0 w W P u l)
    (hy : Kd.R (Kd.int .u8) 5 W' w0.heap.size (fun k_ => (some k_ = u.ownBlock ∨ W.heap.size ≤ k_)) u l') (hb : Below w0.heap.size w0 W') (hk : Kept W W' (fun k_ => some k_ = u.ownBlock)) : St w0 w W' P u l' :=
  ⟨hb, Kd.R_reok rfl hy (fun k e => h.o.1 k e), Kept.then_ h.k hk (fun k e => h.o.1 k e.symm)⟩
theorem St.len {w0 w W : World} {P : Nat → Prop} {u : Value} {l : List Int} (h : St w0 w W P u l) : l.length ≤ 9223372036854775807 := by
  obtain ⟨A, c, rfl, _, hC⟩ := Kd.R_reads h.o
  exact hC.2.1
theorem St.n {w0 w W : World} {P : Nat → Prop} {A : Option Addr} {n c : Nat} {l : List Int} (h : St w0 w W P (.slice A n c) l) : l.length = n := (Kd.R_reads' h.o).1.symm
theorem St.set {w0 w W : World} {P : Nat → Prop} {g n cap : Nat} {l : List Int} (h : St w0 w W P (.slice (some ⟨g, 0, none⟩) n cap) l) (i : Nat) (x : Int) (hi : i < l.length) :
    St w0 w (W.setCell ⟨g, i, none⟩ (.int .u8 x)) P (.slice (some ⟨g, 0, none⟩) n cap) (spl l i [x]) := by
  obtain ⟨h1, h2⟩ := Kd.R_putg h.o (i : Int) x
  rw [Int.toNat_natCast] at h1 h2
  have hg := h.o.1 g rfl
  have hge : w0.heap.size ≤ g := by
    obtain ⟨inner, ho⟩ := Kd.R_own h.o
    exact own_base ho g rfl
  have hs : l.set i x = spl l i [x] := by rw [← spl_set l i x [] (by simp only [List.length_nil]; omega), spl_nil]
  rw [hs] at h1
  exact ⟨h.b.grown h2 h.b.size (fun k e => by cases e; exact hge), h1, Kept.of_grown h2 h.k (fun k e => by cases e; exact hg)⟩
theorem St.at_ {w0 w W : World} {P : Nat → Prop} {g n cap : Nat} {l : List Int} (h : St w0 w W P (.slice (some ⟨g, 0, none⟩) n cap) l) (i : Nat) (hi : i < l.length) :
    W.cell? ⟨g, i, none⟩ = some (.int .u8 (rd l i)) ∧ W.frozen? ⟨g, i, none⟩ = false := by
  obtain ⟨e1, _⟩ := Kd.R_reads' h.o
  have := Kd.R_celln (0 : Int) h.o (i : Int) (by omega) (by omega)
  rw [Int.toNat_natCast] at this
  exact this
/-- What lies in another block stays. -/
theorem box_kept {W W' : World} {u : Value} {g : Nat} {o : Obj} (h : W.heap[g]? = some o) (hk : Kept W W' (fun k_ => some k_ = u.ownBlock)) (hne : some g ≠ u.ownBlock) : W'.heap[g]? = some o := by
  rw [hk.2 g (Array.getElem?_eq_some_iff.1 h).1 hne, h]
theorem box_below {W W' : World} {g : Nat} {o : Obj} (h : W.heap[g]? = some o) (hb : Below W.heap.size W W') : W'.heap[g]? = some o := by
  rw [hb.block g (Array.getElem?_eq_some_iff.1 h).1, h]
theorem box_set {W : World} {g b i : Nat} {o : Obj} (h : W.heap[b]? = some o) (hne : b ≠ g) (v : Value) : (W.setCell ⟨g, i, none⟩ v).heap[b]? = some o := by
  rw [Below.heap_setCell _ _ _ _ hne, h]
theorem Put16_st (a : Nat) (v : Int) {w0 w W : World} {P : Nat → Prop} {u : Value} {l : List Int} (h : St w0 w W P u l) (ha : a + 2 ≤ l.length) :
    Calls Try.prog 39 #[u, .int .i64 a, .int .u16 v] W fun e w' => e = .returned (.bool true) ∧ St w0 w w' P u (spl l a (le 2 v)) ∧ Kept W w' (fun k_ => some k_ = u.ownBlock) :=
  (octet_Put16.calls 3 (fun k_ => some k_ = u.ownBlock) u l a v true _ w0 W h.b (Kd.R_tight rfl h.o) (Put16_yes 3 (by decide) l a v ha h.len)).mono fun e w' ⟨he, hy, hb, hk⟩ => ⟨he, h.call hy hb hk, hk⟩
theorem Put32_st (a : Nat) (v : Int) {w0 w W : World} {P : Nat → Prop} {u : Value} {l : List Int} (h : St w0 w W P u l) (ha : a + 4 ≤ l.length) :
    Calls Try.prog 40 #[u, .int .i64 a, .int .u32 v] W fun e w' => e = .returned (.bool true) ∧ St w0 w w' P u (spl l a (le 4 v)) ∧ Kept W w' (fun k_ => some k_ = u.ownBlock) :=
  (octet_Put32.calls 5 (fun k_ => some k_ = u.ownBlock) u l a v true _ w0 W h.b (Kd.R_tight rfl h.o) (Put32_yes 5 (by decide) l a v ha h.len)).mono fun e w' ⟨he, hy, hb, hk⟩ => ⟨he, h.call hy hb hk, hk⟩
end Go.Proofs.Ytfgeeigfbkiibaa.X
namespace Go.Proofs.Ytfgeeigfbkiibaa.X
open Go.RowKit Go.Proofs.YtfgeeigfbkiibaaW.PrintWords Go.Proofs.YtfgeeigfbkiibaaW.PrintLast Go.Proofs.YtfgeeigfbkiibaaW.PrintMore
open Go.Proofs.Ytfgeeigfbkiibaa.XFat
set_option linter.unusedVariables false
set_option linter.unusedSimpArgs false

/-- 'u[a:]' of a row of the call's own. -/
theorem cutOwn {P : Program} (t e : TypeId) (ht : P.underlying t = some (.slice e)) (hinfo : (P.info? e).map (fun i => (i.zero, i.size, i.bytes)) = some (some (.int .u8 0), 1, 1)) (g n cap a : Nat) (ha : a ≤ n) (hc : n ≤ cap) :
    ∃ (A' : Option Addr) (m c' : Nat), (∀ W : World, (Instr.slice t (.slice (some ⟨g, 0, none⟩) n cap) (some (.int .i64 (a : Int))) none none).run P W = .ok (.slice A' m c') W) ∧ m = n - a ∧ (0 < n - a → A' = some ⟨g, a, none⟩) := by
  obtain ⟨i0, hi, hzz⟩ := Option.map_eq_some_iff.1 hinfo
  simp only [Prod.mk.injEq] at hzz
  refine ⟨if cap = a then some ⟨g, 0, none⟩ else some ⟨g, a, none⟩, n - a, cap - a, fun W => ?_, rfl, fun h => by rw [if_neg (by omega)]⟩
  have hel : P.elem t = e := by simp [Program.elem, ht]
  have hu : P.underlying t = some (.slice (P.elem t)) := by rw [hel]; exact ht
  rw [run_slice_l W t _ n cap hu .i64 (a : Int) (Int.natCast_nonneg _) (by omega), hel]
  by_cases h0 : a = 0 <;> simp [sizeOf, typeInfo, hi, hzz.2.1, sliced, Result.andThen, Addr.add, h0]
theorem St.setRow {w0 w W : World} {P : Nat → Prop} {g n cap : Nat} {l : List Int} (h : St w0 w W P (.slice (some ⟨g, 0, none⟩) n cap) l) (a : Nat) (bs : List Int) (ha : a + bs.length ≤ l.length) :
    ∃ cur : Array Value, W.heap[g]? = some (.cells cur 5 (0, 0)) ∧ a + bs.length ≤ cur.size ∧
      ∀ W', W'.heap[g]? = some (.cells (cur.toList.take a ++ (bs.map (Value.int .u8) ++ cur.toList.drop (a + bs.length))).toArray 5 (0, 0)) → W.grownBy W' (some g) →
        St w0 w W' P (.slice (some ⟨g, 0, none⟩) n cap) (spl l a bs) ∧ Kept W W' (fun k_ => some k_ = (.slice (some ⟨g, 0, none⟩) n cap : Value).ownBlock) := by
  have ho : W.ownsRow w0.heap.size 5 1 (.slice (some ⟨g, 0, none⟩) n cap) l.length (encs (Value.int .u8) l) := Kd.own_of_R h.o
  have hge := own_base ho g rfl
  have hP := h.o.1 g rfl
  have hn := h.n
  obtain ⟨hl, ⟨hv, _⟩ | ⟨g', cap', cur, hv, hg1, hg2, hc1, hc2, hc3, hc4⟩⟩ := ho
  · cases hv
  · injection hv with e1 e2 e3
    injection e1 with e1
    injection e1 with e1
    subst e1 e3
    rw [Nat.mul_one] at hc3 hc4
    refine ⟨cur, hg2, by omega, fun W' hW' hgr => ⟨⟨h.b.grown hgr h.b.size (fun k e => by cases e; exact hge), ?_, Kept.of_grown hgr h.k (fun k e => by cases e; exact hP)⟩, Kept.of_grown hgr (Kept.refl W _) (fun k e => .inl (by cases e; rfl))⟩⟩
    have hs := spl_length l a bs ha
    refine Kd.R_of_own (ok := fun k => P k ∨ w.heap.size ≤ k) ?_ (fun k hk => by have : g = k := by simpa [Value.ownBlock] using hk
                                                                                 subst this; exact hP)
    refine ⟨by simp [encs, hs], .inr ⟨g, cap, _, by rw [hs, hn], hge, hW', by omega, hc2, ?_, ?_⟩⟩
    · simp only [List.size_toArray, List.length_append, List.length_take, List.length_drop, List.length_map, Array.length_toList]; omega
    · have hsl : (spl l a bs).length * 1 = l.length := by omega
      rw [hsl]
      unfold encs spl
      apply List.ext_getElem?
      intro i
      have hci : ∀ j, j < l.length → cur.toList[j]? = (l[j]?).map (Value.int .u8) := by
        intro j hj
        have h2 : (cur.toList.take l.length)[j]? = (encs (Value.int .u8) l)[j]? := by rw [hc4]
        rw [List.getElem?_take_of_lt hj] at h2
        rw [h2, encs, List.getElem?_map]
      have hct : (cur.toList.take a).length = a := by rw [List.length_take, Array.length_toList]; omega
      have hlt : (l.take a).length = a := by rw [List.length_take]; omega
      by_cases hi : i < l.length
      · rw [List.getElem?_take_of_lt hi, List.getElem?_map]
        by_cases h1 : i < a
        · rw [List.append_assoc, List.getElem?_append_left (by omega), List.getElem?_append_left (by omega), List.getElem?_take_of_lt h1, List.getElem?_take_of_lt h1, hci i hi]
        · by_cases h2 : i < a + bs.length
          · have e1 : (cur.toList.take a ++ (bs.map (Value.int .u8) ++ cur.toList.drop (a + bs.length)))[i]? = (bs.map (Value.int .u8))[i - a]? := by
              rw [List.getElem?_append_right (by omega), hct, List.getElem?_append_left (by rw [List.length_map]; omega)]
            have e2 : (l.take a ++ bs ++ l.drop (a + bs.length))[i]? = bs[i - a]? := by
              rw [List.append_assoc, List.getElem?_append_right (by omega), hlt, List.getElem?_append_left (by omega)]
            rw [e1, e2, List.getElem?_map]
          · have e1 : (cur.toList.take a ++ (bs.map (Value.int .u8) ++ cur.toList.drop (a + bs.length)))[i]? = cur.toList[i]? := by
              rw [List.getElem?_append_right (by omega), hct, List.getElem?_append_right (by rw [List.length_map]; omega), List.length_map, List.getElem?_drop]
              congr 1; omega
            have e2 : (l.take a ++ bs ++ l.drop (a + bs.length))[i]? = l[i]? := by
              rw [List.append_assoc, List.getElem?_append_right (by omega), hlt, List.getElem?_append_right (by omega), List.getElem?_drop]
              congr 1; omega
            rw [e1, e2, hci i hi]
      · rw [List.getElem?_take_eq_none (by omega), List.getElem?_map]
        have : (l.take a ++ bs ++ l.drop (a + bs.length)).length = l.length := hs
        rw [List.getElem?_eq_none (by omega)]
        rfl
/-- 'copy(u[a:], bs)'. -/
theorem copy_st {P : Program} {ops : Array Oper} {rest : List Oper} {o : Oper} {act : Act} {Q : Exit → Act → World → Prop} {w0 w W : World} {PP : Nat → Prop} {g n cap : Nat} {l : List Int} (a : Nat) (bs : List Int) (d s : Operand) (dT sT : TypeId)
    (hgd : o.guard = none) (ho : o.op = .call { callee := .builtin .copy, args := #[d, s], argTypes := #[dT, sT] }) (hu : P.underlying dT = some (.slice 5)) (hinfo : (P.info? 5).map (fun i => (i.zero, i.size, i.bytes)) = some (some (.int .u8 0), 1, 1))
    (A' A2 : Option Addr) (m c' c2 : Nat) (hd : act.eval d = .slice A' m c') (hs : act.eval s = .slice A2 bs.length c2)
    (h : St w0 w W PP (.slice (some ⟨g, 0, none⟩) n cap) l) (hC : Kd.C (Kd.int .u8) W A2 bs.length bs) (ha : a + bs.length ≤ l.length) (hm : bs.length ≤ m) (hA : 0 < m → A' = some ⟨g, a, none⟩)
    (hk : ∀ W', St w0 w W' PP (.slice (some ⟨g, 0, none⟩) n cap) (spl l a bs) → Kept W W' (fun k_ => some k_ = (.slice (some ⟨g, 0, none⟩) n cap : Value).ownBlock) → wpList P ops Q rest (act.put o.dst (goInt bs.length)) W') :
    wpList P ops Q (o :: rest) act W := by
  have hsz : (P.info? 5).map (·.size) = some 1 := by
    obtain ⟨i0, hi, hzz⟩ := Option.map_eq_some_iff.1 hinfo
    simp only [Prod.mk.injEq] at hzz
    rw [hi]; simp [hzz.2.1]
  have hmin : Nat.min bs.length m = bs.length := Nat.min_eq_left hm
  by_cases hb : bs.length = 0
  · obtain rfl : bs = [] := List.eq_nil_of_length_eq_zero hb
    refine wpList_copy_nothing hgd d s dT sT ho 5 hu hsz A' A2 m c' _ c2 hd hs hmin ?_
    exact hk W (by rw [spl_nil]; exact h) (Kept.refl _ _)
  · obtain rfl := hA (by omega)
    obtain ⟨_, _, hrd⟩ := Kd.reads_of_C (d := (0 : Int)) hC
    obtain ⟨ad, rfl, hcell⟩ := hrd (by omega)
    obtain ⟨cur, hg, hfit, hend⟩ := h.setRow a bs ha
    refine wpList_copy_own hgd d s dT sT ho 5 hu hsz g a m c' ad bs.length c2 hd hs cur 5 hg (bs.map (Value.int .u8)) (by rw [List.length_map, hmin]) ?_ (by rw [List.length_map]; exact hfit) ?_ ?_
    · intro j v hj
      rw [List.getElem?_map] at hj
      obtain ⟨x, hx, rfl⟩ := Option.map_eq_some_iff.1 hj
      have hjl : j < bs.length := (List.getElem?_eq_some_iff.1 hx).1
      have := hcell j hjl
      rw [List.getD_eq_getElem?_getD, hx] at this
      exact this
    · intro v hv
      obtain ⟨x, _, rfl⟩ := List.mem_map.1 hv
      rfl
    · rw [List.length_map]
      have hgr : W.grownBy (W.setRow g (cur.toList.take a ++ (bs.map (Value.int .u8) ++ cur.toList.drop (a + bs.length))).toArray) (some g) :=
        ⟨rfl, rfl, rfl, by simp [World.setRow], fun k hk hne => setRow_other W g k _ (fun e => hne (by rw [e]))⟩
      obtain ⟨h1, h2⟩ := hend _ (setRow_heap W g _ _ _ _ hg) hgr
      exact hk _ h1 h2
set_option maxHeartbeats 1000000 in
set_option maxRecDepth 100000 in
theorem Patch_st (a : Nat) (bs : List Int) {A2 : Option Addr} {c2 : Nat} {w0 w W : World} {P : Nat → Prop} {u : Value} {l : List Int} (h : St w0 w W P u l) (hC : Kd.C (Kd.int .u8) W A2 bs.length bs) (hc2 : bs.length ≤ c2) (ha : a + bs.length ≤ l.length) (hp : 0 < l.length) :
    Calls Try.prog 41 #[u, .int .i64 a, .slice A2 bs.length c2] W fun e w' => e = .returned (.bool true) ∧ St w0 w w' P u (spl l a bs) ∧ Kept W w' (fun k_ => some k_ = u.ownBlock) := by
  have hlen := h.len
  obtain ⟨g, cap, rfl, hg1, hg2, _⟩ := Kd.R_form h.o hp
  obtain ⟨_, hcap, _⟩ := Kd.R_reads' h.o
  obtain ⟨A', m, c', hs1, hm, hA'⟩ := cutOwn (P := Try.prog) 24 5 Try.underlying24 info5 g l.length cap a (by omega) hcap
  have hin := octet_in_yes l a bs.length ha hlen
  have HS := Aside0.mk h
  have HC := Aside0.mk hC
  have HM := Aside0.mk hm
  have HA := Aside0.mk hA'
  have HI := Aside0.mk hin
  have HG := Aside0.mk hg1
  have H1 := Aside0.mk ha
  clear h hC hm hA' hin
  go_enter Try.func41, Try.ntmps41
  go_wp2_with fail
  refine (octet_in.calls _ _ l a bs.length true _ (Kd.R_reads' HS.out.o).2.2 hcap HI.out).mono ?_
  rintro e w' ⟨rfl, ⟨nd, rfl⟩⟩
  have HS2 := Aside0.mk (HS.out.drewN nd)
  have HC2 := Aside0.mk (Kd.C_below HC.out (pw_below_drewN (Below.refl _ _) nd))
  go_wp2_with ((with_reducible refine gate_builtin (b := .copy) (xs := #[.tmp 15, .tmp 16]) rfl ?_); refine copy_st a bs (.tmp 15) (.tmp 16) 24 24 rfl rfl Try.underlying24 info5 A' A2 m c' c2 rfl rfl HS2.out HC2.out H1.out (by have := HM.out; have := H1.out; omega) (fun h => HA.out (by have := HM.out; omega)) ?_; intro w2 hs2 hk2)
  go_ret
  exact ⟨rfl, hs2, Kept.then_ (Kept.of_below (pw_below_drewN (Below.refl _ _) nd) _) hk2 (fun k e => .inl e)⟩
end Go.Proofs.Ytfgeeigfbkiibaa.X
namespace Go.Proofs.Ytfgeeigfbkiibaa.X
open Go.RowKit Go.Proofs.YtfgeeigfbkiibaaW.PrintWords Go.Proofs.YtfgeeigfbkiibaaW.PrintLast Go.Proofs.YtfgeeigfbkiibaaW.PrintMore
open Go.Proofs.Ytfgeeigfbkiibaa.XFat
set_option linter.unusedVariables false
set_option linter.unusedSimpArgs false
def zeros (n : Nat) : List Int := List.replicate n 0
/-- A row of bytes of the call's own. -/
def Own (W : World) (base : Nat) (u : Value) (l : List Int) : Prop := Kd.R (Kd.int .u8) 5 W base (fun k => some k = u.ownBlock) u l
theorem Own.of {W : World} {base : Nat} {ok : Nat → Prop} {u : Value} {l : List Int} (h : Kd.R (Kd.int .u8) 5 W base ok u l) : Own W base u l := Kd.R_tight rfl h
theorem Own.below {W W' : World} {base : Nat} {u : Value} {l : List Int} (h : Own W base u l) (hb : Below W.heap.size W W') : Own W' base u l := Kd.R_below h hb
theorem Own.kept {W W' : World} {base : Nat} {u u' : Value} {l : List Int} (h : Own W base u l) (hk : Kept W W' (fun k_ => some k_ = u'.ownBlock)) (hne : u.ownBlock ≠ u'.ownBlock) : Own W' base u l :=
  Kd.R_kept h hk (fun k h1 h2 => hne (h1.symm.trans h2))
theorem Own.st {w W : World} {u : Value} {l : List Int} (h : Own W w.heap.size u l) (hb : Below w.heap.size w W) : St w W W (fun k => some k = u.ownBlock) u l := St.start hb h
theorem St.own {w W0 W : World} {P : Nat → Prop} {u : Value} {l : List Int} (h : St w W0 W P u l) : Own W w.heap.size u l := Kd.R_tight rfl h.o
theorem Own.n {W : World} {base : Nat} {A : Option Addr} {n c : Nat} {l : List Int} (h : Own W base (.slice A n c) l) : l.length = n := (Kd.R_reads' h).1.symm
theorem Own.cap {W : World} {base : Nat} {A : Option Addr} {n c : Nat} {l : List Int} (h : Own W base (.slice A n c) l) : l.length ≤ c := by
  have := (Kd.R_reads' h).2.1
  rw [h.n]; exact this
theorem Own.reads {W : World} {base : Nat} {A : Option Addr} {n c : Nat} {l : List Int} (h : Own W base (.slice A n c) l) : Kd.C (Kd.int .u8) W A l.length l := (Kd.R_reads' h).2.2
theorem Own.slice {W : World} {base : Nat} {u : Value} {l : List Int} (h : Own W base u l) : ∃ A c, u = .slice A l.length c := Kd.R_slice h
theorem Own.at_ {W : World} {base : Nat} {g n cap : Nat} {l : List Int} (h : Own W base (.slice (some ⟨g, 0, none⟩) n cap) l) (i : Nat) (hi : i < l.length) :
    W.cell? ⟨g, i, none⟩ = some (.int .u8 (rd l i)) ∧ W.frozen? ⟨g, i, none⟩ = false := by
  have hn := h.n
  have := Kd.R_celln (0 : Int) h (i : Int) (by omega) (by omega)
  rw [Int.toNat_natCast] at this
  exact this
theorem Own.ge {W : World} {base : Nat} {u : Value} {l : List Int} (h : Own W base u l) (k : Nat) (hk : u.ownBlock = some k) : base ≤ k ∧ k < W.heap.size := by
  obtain ⟨inner, ho⟩ := Kd.R_own h
  exact ⟨own_base ho k hk, own_lt ho k hk⟩
/-- What was made at an elder world is no row of a younger one. -/
theorem Own.ne_of_lt {W W' : World} {base base' : Nat} {u u' : Value} {l l' : List Int} (h : Own W base u l) (h' : Own W' base' u' l') (hlt : W.heap.size ≤ base') (hp : 0 < l'.length) : u.ownBlock ≠ u'.ownBlock := by
  intro e
  obtain ⟨g, cap, rfl, hb, _⟩ := Kd.R_form h' hp
  have := (h.ge g (by rw [e]; rfl)).2
  omega
theorem made_own (W : World) (base n : Nat) (hb : base ≤ W.heap.size) (hn : n ≤ 9223372036854775807) :
    Own (W.alloc (.cells (madeCells #[.int .u8 0] n) 5)) base (.slice (some ⟨W.heap.size, 0, none⟩) n n) (zeros n) := by
  have h := own_made W base 5 .u8 n hb hn
  refine Kd.R_of_own ?_ (fun k hk => hk.symm)
  have hl : (zeros n).length = n := by simp [zeros]
  rw [hl]
  exact h
theorem Put16_own (a : Nat) (v : Int) {w W : World} {u : Value} {l : List Int} (hb : Below w.heap.size w W) (h : Own W w.heap.size u l) (ha : a + 2 ≤ l.length) :
    Calls Try.prog 39 #[u, .int .i64 a, .int .u16 v] W fun e w' => e = .returned (.bool true) ∧ Below w.heap.size w w' ∧ Own w' w.heap.size u (spl l a (le 2 v)) ∧ Kept W w' (fun k_ => some k_ = u.ownBlock) :=
  (Put16_st a v (h.st hb) ha).mono fun e w' ⟨he, hs, hk⟩ => ⟨he, hs.b, hs.own, hk⟩
theorem Put32_own (a : Nat) (v : Int) {w W : World} {u : Value} {l : List Int} (hb : Below w.heap.size w W) (h : Own W w.heap.size u l) (ha : a + 4 ≤ l.length) :
    Calls Try.prog 40 #[u, .int .i64 a, .int .u32 v] W fun e w' => e = .returned (.bool true) ∧ Below w.heap.size w w' ∧ Own w' w.heap.size u (spl l a (le 4 v)) ∧ Kept W w' (fun k_ => some k_ = u.ownBlock) :=
  (Put32_st a v (h.st hb) ha).mono fun e w' ⟨he, hs, hk⟩ => ⟨he, hs.b, hs.own, hk⟩
theorem Put32_ownI (a : Nat) (ai v : Int) {w W : World} {u : Value} {l : List Int} (hi : ai = a) (hb : Below w.heap.size w W) (h : Own W w.heap.size u l) (ha : a + 4 ≤ l.length) :
    Calls Try.prog 40 #[u, .int .i64 ai, .int .u32 v] W fun e w' => e = .returned (.bool true) ∧ Below w.heap.size w w' ∧ Own w' w.heap.size u (spl l a (le 4 v)) ∧ Kept W w' (fun k_ => some k_ = u.ownBlock) := by
  subst hi
  exact Put32_own a v hb h ha
theorem Patch_own (a : Nat) (bs : List Int) {A2 : Option Addr} {c2 : Nat} {w W : World} {u : Value} {l : List Int} (hb : Below w.heap.size w W) (h : Own W w.heap.size u l) (hC : Kd.C (Kd.int .u8) W A2 bs.length bs) (hc2 : bs.length ≤ c2) (ha : a + bs.length ≤ l.length) (hp : 0 < l.length) :
    Calls Try.prog 41 #[u, .int .i64 a, .slice A2 bs.length c2] W fun e w' => e = .returned (.bool true) ∧ Below w.heap.size w w' ∧ Own w' w.heap.size u (spl l a bs) ∧ Kept W w' (fun k_ => some k_ = u.ownBlock) :=
  (Patch_st a bs (h.st hb) hC hc2 ha hp).mono fun e w' ⟨he, hs, hk⟩ => ⟨he, hs.b, hs.own, hk⟩
theorem Patch_own2 (a : Nat) (bs : List Int) (m : Nat) {A2 : Option Addr} {c2 : Nat} {w W : World} {u : Value} {l : List Int} {base2 : Nat} (hb : Below w.heap.size w W) (h : Own W w.heap.size u l) (hC : Own W base2 (.slice A2 m c2) bs) (ha : a + m ≤ l.length) (hp : 0 < l.length) :
    Calls Try.prog 41 #[u, .int .i64 a, .slice A2 m c2] W fun e w' => e = .returned (.bool true) ∧ Below w.heap.size w w' ∧ Own w' w.heap.size u (spl l a bs) ∧ Kept W w' (fun k_ => some k_ = u.ownBlock) := by
  have hm := hC.n
  subst hm
  exact Patch_own a bs hb h hC.reads hC.cap ha hp
end Go.Proofs.Ytfgeeigfbkiibaa.X
namespace Go.Proofs.Ytfgeeigfbkiibaa.X
open Go.RowKit Go.Proofs.YtfgeeigfbkiibaaW.PrintWords Go.Proofs.YtfgeeigfbkiibaaW.PrintLast Go.Proofs.YtfgeeigfbkiibaaW.PrintMore
open Go.Proofs.Ytfgeeigfbkiibaa.XFat
set_option linter.unusedVariables false
set_option linter.unusedSimpArgs false
theorem lit8 (W : World) : Kd.C (Kd.int .u8) (W.alloc (.cells #[.int .u8 70, .int .u8 65, .int .u8 84, .int .u8 51, .int .u8 50, .int .u8 32, .int .u8 32, .int .u8 32] 5 (8, 8 + 1))) (some ⟨W.heap.size, 0, none⟩) 8 [70, 65, 84, 51, 50, 32, 32, 32] := by
  refine Kd.C_of_reads (d := (0 : Int)) ⟨rfl, by decide, fun _ => ⟨_, rfl, fun j hj => ?_⟩⟩
  have : j = 0 ∨ j = 1 ∨ j = 2 ∨ j = 3 ∨ j = 4 ∨ j = 5 ∨ j = 6 ∨ j = 7 := by omega
  rw [add_plain]
  have hb := blk_new W (.cells #[.int .u8 70, .int .u8 65, .int .u8 84, .int .u8 51, .int .u8 50, .int .u8 32, .int .u8 32, .int .u8 32] 5 (8, 8 + 1))
  rcases this with rfl | rfl | rfl | rfl | rfl | rfl | rfl | rfl <;> (unfold World.cell?; rw [hb]; rfl)
theorem le_wrap16 (v : Int) : le 2 (IntKind.u16.wrap v) = le 2 v := by
  rw [IntKind.wrap_u16]; simp only [le]; rw [show v % 65536 % 256 = v % 256 by omega, show v % 65536 / 256 % 256 = v / 256 % 256 by omega]
theorem le_wrap32 (v : Int) : le 4 (v % 4294967296) = le 4 v := by
  simp only [le]; rw [show v % 4294967296 % 256 = v % 256 by omega, show v % 4294967296 / 256 % 256 = v / 256 % 256 by omega, show v % 4294967296 / 256 / 256 % 256 = v / 256 / 256 % 256 by omega, show v % 4294967296 / 256 / 256 / 256 % 256 = v / 256 / 256 / 256 % 256 by omega]
def bootBytes (b0 b1 b2 b3 b4 b5 b6 b7 : Int) (l : List Int) : List Int :=
  spl (spl (spl (spl (spl (spl (spl (spl (spl (spl (spl (spl (spl (spl (spl (spl l 11 (le 2 512)) 13 [b0 % 256]) 16 [b2 % 256]) 14 (le 2 b1)) 17 (le 2 0)) 19 (le 2 0)) 22 (le 2 0)) 32 (le 4 b3)) 36 (le 4 b4)) 40 (le 4 0)) 44 (le 4 b5)) 48 (le 2 b6)) 50 (le 2 b7)) 82 [70, 65, 84, 51, 50, 32, 32, 32]) 510 [85]) 511 [170]
set_option maxHeartbeats 4000000 in
set_option maxRecDepth 100000 in
theorem put_yes (a0_0 : Int) (a0_1 : Int) (a0_2 : Int) (a0_3 : Int) (a0_4 : Int) (a0_5 : Int) (a0_6 : Int) (a0_7 : Int) (P1_ : Nat → Prop) (u9000_ : Value) (l1 : List Int) (w0 w : World) (hB : Below w0.heap.size w0 w) (ho1 : Kd.R (Kd.int .u8) 5 w w0.heap.size P1_ u9000_ l1) (hlen : l1.length = 512)
   (hck : ∀ w, Calls Try.prog 38 #[.agg #[.int .i64 a0_0, .int .i64 a0_1, .int .i64 a0_2, .int .i64 a0_3, .int .i64 a0_4, .int .i64 a0_5, .int .i64 a0_6, .int .i64 a0_7]] w fun e w' => e = .returned (.int .i64 0) ∧ Below w.heap.size w w') :
    Calls Try.prog 11 #[.agg #[.int .i64 a0_0, .int .i64 a0_1, .int .i64 a0_2, .int .i64 a0_3, .int .i64 a0_4, .int .i64 a0_5, .int .i64 a0_6, .int .i64 a0_7], u9000_] w fun e w' => e = .returned (.int .i64 0) ∧ St w0 w w' P1_ u9000_ (bootBytes a0_0 a0_1 a0_2 a0_3 a0_4 a0_5 a0_6 a0_7 l1) := by
  have HL := Aside0.mk hlen
  have HC := Aside0.mk hck
  have hs0 := St.start hB ho1
  obtain ⟨g, cap, rfl, hg1, hg2, _⟩ := Kd.R_form ho1 (by omega)
  rw [hlen] at hs0 ⊢
  have hne : g ≠ w.heap.size := by omega
  have hne2 : w.heap.size ≠ g := by omega
  have HNE : Aside0 (some w.heap.size ≠ (.slice (some ⟨g, 0, none⟩) 512 cap : Value).ownBlock) := ⟨by simp only [Value.ownBlock]; intro h; injection h with h; exact hne h.symm⟩
  have HS := Aside0.mk hs0
  clear hck hlen hs0 ho1 hB hg1 hg2
  go_enter Try.func11, Try.ntmps11
  go_wp2_with fail
  refine (HC.out _).mono ?_
  rintro e w1 ⟨rfl, hb⟩
  have HX : Aside0 (w1.heap[w.heap.size]? = some (.cells #[.int .i64 a0_0, .int .i64 a0_1, .int .i64 a0_2, .int .i64 a0_3, .int .i64 a0_4, .int .i64 a0_5, .int .i64 a0_6, .int .i64 a0_7] 23 (0, 0))) := ⟨box_below (blk_new w _) hb⟩
  have HS1 := Aside0.mk ((HS.out.alloc (.cells #[.int .i64 a0_0, .int .i64 a0_1, .int .i64 a0_2, .int .i64 a0_3, .int .i64 a0_4, .int .i64 a0_5, .int .i64 a0_6, .int .i64 a0_7] 23)).below hb)
  clear HS hb
  go_wp2_with fail
  refine (Put16_st 11 _ (HS1.out) (by rw [HS1.out.n]; decide)).mono ?_
  rintro e w2 ⟨rfl, hs, hk⟩
  have HS2 := Aside0.mk hs
  replace HX := Aside0.mk (box_kept HX.out hk HNE.out)
  clear HS1 hs hk
  obtain ⟨c13, f13⟩ := HS2.out.at_ 13 (by rw [HS2.out.n]; decide)
  obtain ⟨c16, f16⟩ := HS2.out.at_ 16 (by rw [HS2.out.n]; decide)
  have d0 : w2.cell? ⟨w.heap.size, 0, none⟩ = some (.int .i64 a0_0) := (blk_cell HX.out 0).trans rfl
  have d1 : w2.cell? ⟨w.heap.size, 1, none⟩ = some (.int .i64 a0_1) := (blk_cell HX.out 1).trans rfl
  have d2 : w2.cell? ⟨w.heap.size, 2, none⟩ = some (.int .i64 a0_2) := (blk_cell HX.out 2).trans rfl
  go_wp2_with fail
  go_region_held3 (fun w' => w'.cell? ⟨w.heap.size, 0, none⟩ = some (.int .i64 a0_0) ∧ w'.cell? ⟨w.heap.size, 2, none⟩ = some (.int .i64 a0_2)) (go_keep) (fail)
  have HT := Aside0.mk ((HS2.out.set 13 (a0_0 % 256) (by rw [HS2.out.n]; decide)))
  have HS2' := Aside0.mk (HT.out.set 16 (a0_2 % 256) (by rw [HT.out.n]; decide)).drew
  go_wp2_with fail
  refine (Put16_st 14 _ (HS2'.out) (by rw [HS2'.out.n]; decide)).mono ?_
  rintro e w3 ⟨rfl, hs, hk⟩
  have HS3 := Aside0.mk hs
  replace HX := Aside0.mk (box_kept (show _ from box_set (box_set HX.out hne2 _) hne2 _) hk HNE.out)
  clear HS2 hs hk
  go_wp2_with fail
  refine (Put16_st 17 _ (HS3.out) (by rw [HS3.out.n]; decide)).mono ?_
  rintro e w4 ⟨rfl, hs, hk⟩
  have HS4 := Aside0.mk hs
  replace HX := Aside0.mk (box_kept HX.out hk HNE.out)
  clear HS3 hs hk
  go_wp2_with fail
  refine (Put16_st 19 _ (HS4.out) (by rw [HS4.out.n]; decide)).mono ?_
  rintro e w5 ⟨rfl, hs, hk⟩
  have HS5 := Aside0.mk hs
  replace HX := Aside0.mk (box_kept HX.out hk HNE.out)
  clear HS4 hs hk
  go_wp2_with fail
  refine (Put16_st 22 _ (HS5.out) (by rw [HS5.out.n]; decide)).mono ?_
  rintro e w6 ⟨rfl, hs, hk⟩
  have HS6 := Aside0.mk hs
  replace HX := Aside0.mk (box_kept HX.out hk HNE.out)
  clear HS5 hs hk
  have d3 : w6.cell? ⟨w.heap.size, 3, none⟩ = some (.int .i64 a0_3) := (blk_cell HX.out 3).trans rfl
  go_wp2_with fail
  refine (Put32_st 32 _ (HS6.out) (by rw [HS6.out.n]; decide)).mono ?_
  rintro e w7 ⟨rfl, hs, hk⟩
  have HS7 := Aside0.mk hs
  replace HX := Aside0.mk (box_kept HX.out hk HNE.out)
  clear HS6 hs hk
  have d4 : w7.cell? ⟨w.heap.size, 4, none⟩ = some (.int .i64 a0_4) := (blk_cell HX.out 4).trans rfl
  go_wp2_with fail
  refine (Put32_st 36 _ (HS7.out) (by rw [HS7.out.n]; decide)).mono ?_
  rintro e w8 ⟨rfl, hs, hk⟩
  have HS8 := Aside0.mk hs
  replace HX := Aside0.mk (box_kept HX.out hk HNE.out)
  clear HS7 hs hk
  go_wp2_with fail
  refine (Put32_st 40 _ (HS8.out) (by rw [HS8.out.n]; decide)).mono ?_
  rintro e w9 ⟨rfl, hs, hk⟩
  have HS9 := Aside0.mk hs
  replace HX := Aside0.mk (box_kept HX.out hk HNE.out)
  clear HS8 hs hk
  have d5 : w9.cell? ⟨w.heap.size, 5, none⟩ = some (.int .i64 a0_5) := (blk_cell HX.out 5).trans rfl
  go_wp2_with fail
  refine (Put32_st 44 _ (HS9.out) (by rw [HS9.out.n]; decide)).mono ?_
  rintro e w10 ⟨rfl, hs, hk⟩
  have HS10 := Aside0.mk hs
  replace HX := Aside0.mk (box_kept HX.out hk HNE.out)
  clear HS9 hs hk
  have d6 : w10.cell? ⟨w.heap.size, 6, none⟩ = some (.int .i64 a0_6) := (blk_cell HX.out 6).trans rfl
  go_wp2_with fail
  refine (Put16_st 48 _ (HS10.out) (by rw [HS10.out.n]; decide)).mono ?_
  rintro e w11 ⟨rfl, hs, hk⟩
  have HS11 := Aside0.mk hs
  replace HX := Aside0.mk (box_kept HX.out hk HNE.out)
  clear HS10 hs hk
  have d7 : w11.cell? ⟨w.heap.size, 7, none⟩ = some (.int .i64 a0_7) := (blk_cell HX.out 7).trans rfl
  go_wp2_with fail
  refine (Put16_st 50 _ (HS11.out) (by rw [HS11.out.n]; decide)).mono ?_
  rintro e w12 ⟨rfl, hs, hk⟩
  have HS12 := Aside0.mk hs
  replace HX := Aside0.mk (box_kept HX.out hk HNE.out)
  clear HS11 hs hk
  have kc := fun (w : World) (C : Array Value) (n c : Nat) => Lib.run_convert_bytes_const (P := Try.prog) w 24 5 C n c Try.underlying24 Try.underlying5
  go_wp2_with fail
  have hb2 : Below w12.heap.size w12 (w12.alloc (.cells #[.int .u8 70, .int .u8 65, .int .u8 84, .int .u8 51, .int .u8 50, .int .u8 32, .int .u8 32, .int .u8 32] 5 (8, 8 + 1))) := below_alloc (Below.refl _ _) _
  refine (Patch_st 82 [70, 65, 84, 51, 50, 32, 32, 32] (A2 := some ⟨w12.heap.size, 0, none⟩) (c2 := 8) (HS12.out.below hb2) (lit8 w12) (by decide) (by rw [HS12.out.n]; decide) (by rw [HS12.out.n]; decide)).mono ?_
  rintro e w13 ⟨rfl, hs, hk⟩
  have HS13 := Aside0.mk hs
  clear HS12 hs hk kc hb2
  obtain ⟨c510, f510⟩ := HS13.out.at_ 510 (by rw [HS13.out.n]; decide)
  obtain ⟨c511, f511⟩ := HS13.out.at_ 511 (by rw [HS13.out.n]; decide)
  go_wp2_with fail
  go_ret
  exact ⟨rfl, by
    have h1 := HS13.out.set 510 85 (by rw [HS13.out.n]; decide)
    have h := h1.set 511 170 (by rw [h1.n]; decide)
    simp only [le_wrap16, le_wrap32] at h
    exact h⟩
end Go.Proofs.Ytfgeeigfbkiibaa.X
namespace Go.Proofs.Ytfgeeigfbkiibaa.X
open Go.RowKit Go.Proofs.YtfgeeigfbkiibaaW.PrintWords Go.Proofs.YtfgeeigfbkiibaaW.PrintLast Go.Proofs.YtfgeeigfbkiibaaW.PrintMore
open Go.Proofs.Ytfgeeigfbkiibaa.XFat
set_option linter.unusedVariables false
set_option linter.unusedSimpArgs false
def countBytes (free next : Int) : List Int := spl (spl (spl (spl (spl (zeros 512) 0 (le 4 1096897106)) 484 (le 4 1631679090)) 488 (le 4 free)) 492 (le 4 next)) 508 (le 4 2857697280)
theorem Put_own (b0 b1 b2 b3 b4 b5 b6 b7 : Int) {w W : World} {u : Value} {l : List Int} (hb : Below w.heap.size w W) (h : Own W w.heap.size u l) (hl : l.length = 512)
    (hck : ∀ w, Calls Try.prog 38 #[.agg #[.int .i64 b0, .int .i64 b1, .int .i64 b2, .int .i64 b3, .int .i64 b4, .int .i64 b5, .int .i64 b6, .int .i64 b7]] w fun e w' => e = .returned (.int .i64 0) ∧ Below w.heap.size w w') :
    Calls Try.prog 11 #[.agg #[.int .i64 b0, .int .i64 b1, .int .i64 b2, .int .i64 b3, .int .i64 b4, .int .i64 b5, .int .i64 b6, .int .i64 b7], u] W fun e w' => e = .returned (.int .i64 0) ∧ Below w.heap.size w w' ∧ Own w' w.heap.size u (bootBytes b0 b1 b2 b3 b4 b5 b6 b7 l) ∧ Kept W w' (fun k_ => some k_ = u.ownBlock) :=
  (put_yes b0 b1 b2 b3 b4 b5 b6 b7 _ u l w W hb h hl hck).mono fun e w' ⟨he, hs⟩ => ⟨he, hs.b, hs.own, hs.k⟩
theorem bootBytes_length (b0 b1 b2 b3 b4 b5 b6 b7 : Int) (l : List Int) (h : l.length = 512) : (bootBytes b0 b1 b2 b3 b4 b5 b6 b7 l).length = 512 := by
  unfold bootBytes
  repeat' (first | (with_reducible exact h) | refine spl_len ?_ (by simp only [le_length, List.length_cons, List.length_nil]; omega))
theorem countBytes_length (a b : Int) : (countBytes a b).length = 512 := by
  unfold countBytes
  have hz : (zeros 512).length = 512 := List.length_replicate
  repeat' (first | (with_reducible exact hz) | refine spl_len ?_ (by simp only [le_length, List.length_cons, List.length_nil]; omega))
theorem PutCounts_yes (free next : Int) (g0 : 0 ≤ free) (g1 : free ≤ 4294967295) (g2 : 0 ≤ next) (g3 : next ≤ 4294967295) : fat_PutCounts.f 7 free next = some (countBytes free next, 0) := by
  have p (l : List Int) (a : Nat) (v : Int) (h : l.length = 512) (ha : a + 4 ≤ 512) : octet_Put32.f 6 l a v = some (true, spl l a (le 4 v)) := Put32_yes 6 (by decide) l a v (by omega) (by omega)
  have hz : (zeros 512).length = 512 := List.length_replicate
  have h1 : ((spl (zeros 512) 0 (le 4 1096897106))).length = 512 := spl_len hz (by rw [le_length]; omega)
  have h2 := spl_len (a := 484) (bs := le 4 1631679090) h1 (by rw [le_length]; omega)
  have h3 := spl_len (a := 488) (bs := le 4 free) h2 (by rw [le_length]; omega)
  have h4 := spl_len (a := 492) (bs := le 4 next) h3 (by rw [le_length]; omega)
  have q (l : List Int) (a : Nat) (ai v : Int) (hi : ai = a) (h : l.length = 512) (ha : a + 4 ≤ 512) : octet_Put32.f 6 l ai v = some (true, spl l a (le 4 v)) := by rw [hi]; exact p l a v h ha
  have hj : fat_PutCounts.j0 7 (decide (next > 4294967295)) free next = some (countBytes free next, 0) := by
    have hd : decide (next > 4294967295) = false := decide_eq_false (by omega)
    rw [hd]
    simp only [fat_PutCounts.j0]
    rw [if_neg (by decide), if_pos (by decide)]
    have e0 : octet_Put32.f 6 (List.replicate 512 0) 0 1096897106 = some (true, spl (zeros 512) 0 (le 4 1096897106)) := q (zeros 512) 0 0 _ rfl hz (by decide)
    rw [e0]
    simp only [Option.bind_some]
    rw [q _ 484 484 _ rfl h1 (by decide)]
    simp only [Option.bind_some]
    rw [q _ 488 488 _ rfl h2 (by decide)]
    simp only [Option.bind_some]
    rw [le_wrap32, q _ 492 492 _ rfl h3 (by decide)]
    simp only [Option.bind_some]
    rw [le_wrap32, q _ 508 508 _ rfl h4 (by decide)]
    rfl
  unfold fat_PutCounts.f
  rw [if_neg (by omega), if_neg (by omega), if_neg (by omega)]
  exact hj
def tabs (L : Nat) (l : List Int) : Nat → List Int
  | 0 => l
  | t + 1 => spl (spl (spl (tabs L l t) ((4 + t * L) * 512) (le 4 268435448)) ((4 + t * L) * 512 + 4) (le 4 268435455)) ((4 + t * L) * 512 + 8) (le 4 268435455)
set_option maxHeartbeats 4000000 in
set_option maxRecDepth 100000 in
theorem make_yes (s e L : Nat) (cl : Int) (w : World) (h1 : 16 ≤ s) (h2 : s ≤ 32768) (h3 : 1 ≤ e) (h4 : e ≤ 8) (hc1 : 1 ≤ cl) (hc2 : cl ≤ 32768) (hl : L = (s / e + 129) / 128) (hD : 4 + 2 * L < s)
   (hck : ∀ w, Calls Try.prog 38 #[.agg #[.int .i64 e, .int .i64 4, .int .i64 2, .int .i64 s, .int .i64 L, .int .i64 2, .int .i64 1, .int .i64 2]] w fun e w' => e = .returned (.int .i64 0) ∧ Below w.heap.size w w')
   (hcl : ∀ w, Calls Try.prog 25 #[.agg #[.int .i64 e, .int .i64 4, .int .i64 2, .int .i64 s, .int .i64 L, .int .i64 2, .int .i64 1, .int .i64 2]] w fun e w' => e = .returned (.int .i64 cl) ∧ Below w.heap.size w w') :
    Calls Try.prog 20 #[.int .i64 s, .int .i64 e] w fun en w' => ∃ v0_ : Value, en = .returned (.tuple #[v0_, .int .i64 0]) ∧ Own w' w.heap.size v0_ (tabs L (spl (spl (spl (zeros (s * 512)) 0 (bootBytes e 4 2 s L 2 1 2 (zeros 512))) 512 (countBytes (cl - 1) 3)) 1024 (bootBytes e 4 2 s L 2 1 2 (zeros 512))) 2) ∧ Below w.heap.size w w' := by
  obtain ⟨n, hn⟩ : ∃ n : Nat, n = s * 512 := ⟨_, rfl⟩
  have hmk := print_make (P := Try.prog) 24 5 .u8 1 Try.underlying24 info5 (by decide) n (by omega)
  have hni : (n : Int) = (s : Int) * 512 := by omega
  rw [hni] at hmk
  have hmk2 := print_make (P := Try.prog) 24 5 .u8 1 Try.underlying24 info5 (by decide) 512 (by omega)
  rw [show ((512 : Nat) : Int) = 512 from rfl] at hmk2
  have HN := Aside0.mk hn
  have HL := Aside0.mk hl
  have hdiv : 0 ≤ (s : Int) / e ∧ (s : Int) / e ≤ s := ⟨Int.ediv_nonneg (by omega) (by omega), Int.ediv_le_self _ (by omega)⟩
  obtain ⟨q, hq⟩ : ∃ q : Int, q = (s : Int) / e := ⟨_, rfl⟩
  obtain ⟨hd1, hd2⟩ := hdiv
  have he0 : ¬ (e : Int) = 0 := by omega
  have he1 : ((e : Int) == 0) = false := by simp; omega
  have HC := Aside0.mk hck
  have HD := Aside0.mk hcl
  have hlong : ((s : Int) / e + 2 + 128 - 1) / 128 = (L : Int) := by rw [hl]; omega
  clear hn hni hck hcl hq hl
  have HV : Aside0 (fat_PutCounts.f 7 (cl - 1) 3 = some (countBytes (cl - 1) 3, 0)) := ⟨PutCounts_yes _ _ (by omega) (by omega) (by omega) (by omega)⟩
  have hb1 : ∀ o : Obj, Below w.heap.size w (w.alloc o) := fun o => below_alloc (Below.refl _ _) _
  have hz1 : ∀ o : Obj, (w.alloc o).heap.size = w.heap.size + 1 := fun o => by simp
  have hz2 : ∀ o o' : Obj, ((w.alloc o).alloc o').heap.size = w.heap.size + 1 + 1 := fun o o' => by simp
  have O0 : Aside0 (∀ o o', Own (((w.alloc o).alloc (.cells (madeCells #[.int .u8 0] n) 5)).alloc o') w.heap.size (.slice (some ⟨w.heap.size + 1, 0, none⟩) n n) (zeros n)) := ⟨fun o o' => by
    have := made_own (w.alloc o) w.heap.size n (by rw [hz1]; omega) (by have := HN.out; omega)
    rw [hz1] at this
    exact this.below (below_alloc (Below.refl _ _) _)⟩
  have O1 : Aside0 (∀ o o', Own (((w.alloc o).alloc o').alloc (.cells (madeCells #[.int .u8 0] 512) 5)) w.heap.size (.slice (some ⟨w.heap.size + 1 + 1, 0, none⟩) 512 512) (zeros 512)) := ⟨fun o o' => by
    have := made_own ((w.alloc o).alloc o') w.heap.size 512 (by rw [hz2]; omega) (by omega)
    rw [hz2] at this
    exact this⟩
  have HX0 : Aside0 (∀ o o' o'', (((w.alloc o).alloc o').alloc o'').heap[w.heap.size]? = some o) := ⟨fun o o' o'' => box_below (box_below (blk_new w o) (below_alloc (Below.refl _ _) _)) (below_alloc (Below.refl _ _) _)⟩
  have HB0 : Aside0 (∀ o o' o'', Below w.heap.size w (((w.alloc o).alloc o').alloc o'')) := ⟨fun o o' o'' => below_alloc (below_alloc (below_alloc (Below.refl _ _) _) _) _⟩
  have N01 : Aside0 ((.slice (some ⟨w.heap.size + 1, 0, none⟩) n n : Value).ownBlock ≠ (.slice (some ⟨w.heap.size + 1 + 1, 0, none⟩) 512 512 : Value).ownBlock) := ⟨by simp only [Value.ownBlock]; intro h; injection h with h; omega⟩
  have NX0 : Aside0 (some w.heap.size ≠ (.slice (some ⟨w.heap.size + 1, 0, none⟩) n n : Value).ownBlock) := ⟨by simp only [Value.ownBlock]; intro h; injection h with h; omega⟩
  have NX1 : Aside0 (some w.heap.size ≠ (.slice (some ⟨w.heap.size + 1 + 1, 0, none⟩) 512 512 : Value).ownBlock) := ⟨by simp only [Value.ownBlock]; intro h; injection h with h; omega⟩
  clear hb1 hz1 hz2
  go_enter Try.func20, Try.ntmps20
  go_wp2_with fail
  refine (Put_own _ _ _ _ _ _ _ _ (HB0.out _ _ _) (O1.out _ _) (by simp [zeros]) HC.out).mono ?_
  rintro e w4 ⟨rfl, hb, ho, hk⟩
  replace O1 := Aside0.mk ho
  replace O0 := Aside0.mk ((O0.out _ _).kept hk N01.out)
  have HX := Aside0.mk (box_kept (HX0.out _ _ _) hk NX1.out)
  have HB := Aside0.mk hb
  clear hb ho hk HB0 HX0
  have d0 : w4.cell? ⟨w.heap.size, 0, none⟩ = some (.int .i64 e) := (blk_cell HX.out 0).trans rfl
  have d1 : w4.cell? ⟨w.heap.size, 1, none⟩ = some (.int .i64 4) := (blk_cell HX.out 1).trans rfl
  have d2 : w4.cell? ⟨w.heap.size, 2, none⟩ = some (.int .i64 2) := (blk_cell HX.out 2).trans rfl
  have d3 : w4.cell? ⟨w.heap.size, 3, none⟩ = some (.int .i64 s) := (blk_cell HX.out 3).trans rfl
  have d4 : w4.cell? ⟨w.heap.size, 4, none⟩ = some (.int .i64 L) := (blk_cell HX.out 4).trans rfl
  have d5 : w4.cell? ⟨w.heap.size, 5, none⟩ = some (.int .i64 2) := (blk_cell HX.out 5).trans rfl
  have d6 : w4.cell? ⟨w.heap.size, 6, none⟩ = some (.int .i64 1) := (blk_cell HX.out 6).trans rfl
  have d7 : w4.cell? ⟨w.heap.size, 7, none⟩ = some (.int .i64 2) := (blk_cell HX.out 7).trans rfl
  go_wp2_with fail
  refine (HD.out _).mono ?_
  rintro e' w5 ⟨rfl, hb⟩
  replace O1 := Aside0.mk (O1.out.below hb)
  replace O0 := Aside0.mk (O0.out.below hb)
  replace HX := Aside0.mk (box_below HX.out hb)
  replace HB := Aside0.mk (below_step HB.out hb)
  clear hb d0 d1 d2 d3 d4 d5 d6 d7
  go_wp2_with fail
  refine (fat_PutCounts.calls 7 _ _ _ _ _ HV.out).mono ?_
  rintro e' w6 ⟨v2, rfl, ho2, hb⟩
  have ho2' := Own.of ho2
  obtain ⟨A2, c2, hv2⟩ := ho2'.slice
  rw [countBytes_length] at hv2
  subst hv2
  have N02 := Aside0.mk (O0.out.ne_of_lt ho2' (Nat.le_refl _) (by rw [countBytes_length]; decide))
  have O2 := Aside0.mk ho2'
  replace O1 := Aside0.mk (O1.out.below hb)
  replace O0 := Aside0.mk (O0.out.below hb)
  replace HX := Aside0.mk (box_below HX.out hb)
  replace HB := Aside0.mk (below_step HB.out hb)
  clear hb ho2 ho2'
  go_wp2_with fail
  refine (Patch_own2 0 _ 512 HB.out O0.out O1.out (by rw [O0.out.n]; have := HN.out; omega) (by rw [O0.out.n]; have := HN.out; omega)).mono ?_
  rintro e' w7 ⟨rfl, hb, ho, hk⟩
  replace O2 := Aside0.mk (O2.out.kept hk N02.out.symm)
  replace O1 := Aside0.mk (O1.out.kept hk N01.out.symm)
  replace O0 := Aside0.mk ho
  replace HX := Aside0.mk (box_kept HX.out hk NX0.out)
  replace HB := Aside0.mk hb
  clear hb ho hk
  go_wp2_with fail
  refine (Patch_own2 512 _ 512 HB.out O0.out O2.out (by rw [O0.out.n]; have := HN.out; omega) (by rw [O0.out.n]; have := HN.out; omega)).mono ?_
  rintro e' w8 ⟨rfl, hb, ho, hk⟩
  replace O1 := Aside0.mk (O1.out.kept hk N01.out.symm)
  replace O0 := Aside0.mk ho
  replace HX := Aside0.mk (box_kept HX.out hk NX0.out)
  replace HB := Aside0.mk hb
  clear hb ho hk O2
  go_wp2_with fail
  refine (Patch_own2 1024 _ 512 HB.out O0.out O1.out (by rw [O0.out.n]; have := HN.out; omega) (by rw [O0.out.n]; have := HN.out; omega)).mono ?_
  rintro e' w9 ⟨rfl, hb, ho, hk⟩
  replace O0 := Aside0.mk ho
  replace HX := Aside0.mk (box_kept HX.out hk NX0.out)
  replace HB := Aside0.mk hb
  clear hb ho hk O1
  obtain ⟨l9, hl9⟩ : ∃ l, l = spl (spl (spl (zeros n) 0 (bootBytes e 4 2 s L 2 1 2 (zeros 512))) 512 (countBytes (cl - 1) 3)) 1024 (bootBytes e 4 2 s L 2 1 2 (zeros 512)) := ⟨_, rfl⟩
  rw [← hl9] at O0
  have HL9 := Aside0.mk hl9
  clear hl9
  have DD := Aside0.mk hD
  have d2 : w9.cell? ⟨w.heap.size, 2, none⟩ = some (.int .i64 2) := (blk_cell HX.out 2).trans rfl
  go_wp2_with fail
  go_loopw [71] (fun v wr => ∃ t : Nat, v = .int .i64 t ∧ t ≤ 2 ∧ Aside0 (Own wr w.heap.size (.slice (some ⟨w.heap.size + 1, 0, none⟩) n n) (tabs L l9 t)) ∧ Aside0 (wr.heap[w.heap.size]? = some (.cells #[.int .i64 e, .int .i64 4, .int .i64 2, .int .i64 s, .int .i64 L, .int .i64 2, .int .i64 1, .int .i64 2] 23 (0, 0))) ∧ Aside0 (Below w.heap.size w wr)) (fun v _ => 2 - (intOf v).toNat)
  case atStart => exact ⟨0, rfl, by omega, O0, HX, HB⟩
  case round =>
    clear O0 HX HB d2
    obtain ⟨t, rfl, ht, O0, HX, HB⟩ := hrel
    by_cases hlt : t < 2
    · have d1 : wr.cell? ⟨w.heap.size, 1, none⟩ = some (.int .i64 4) := (blk_cell HX.out 1).trans rfl
      have d4 : wr.cell? ⟨w.heap.size, 4, none⟩ = some (.int .i64 L) := (blk_cell HX.out 4).trans rfl
      have htL : t * L ≤ L := by
        rcases (show t = 0 ∨ t = 1 by omega) with rfl | rfl <;> omega
      obtain ⟨tl, htl⟩ : ∃ tl : Nat, tl = t * L := ⟨_, rfl⟩
      have hmul : (t : Int) * (L : Int) = (tl : Int) := by rw [htl]; exact (Int.natCast_mul t L).symm
      rw [← htl] at htL
      have TL := Aside0.mk htl
      clear htl
      go_wp2_with fail
      refine (Put32_ownI ((4 + tl) * 512) _ _ (by omega) HB.out O0.out (by rw [O0.out.n]; have := HN.out; have := DD.out; omega)).mono ?_
      rintro e' w10 ⟨rfl, hb, ho, hk⟩
      replace O0 := Aside0.mk ho
      replace HX := Aside0.mk (box_kept HX.out hk NX0.out)
      replace HB := Aside0.mk hb
      clear hb ho hk
      go_wp2_with fail
      refine (Put32_ownI ((4 + tl) * 512 + 4) _ _ (by omega) HB.out O0.out (by rw [O0.out.n]; have := HN.out; have := DD.out; omega)).mono ?_
      rintro e' w11 ⟨rfl, hb, ho, hk⟩
      replace O0 := Aside0.mk ho
      replace HX := Aside0.mk (box_kept HX.out hk NX0.out)
      replace HB := Aside0.mk hb
      clear hb ho hk
      go_wp2_with fail
      refine (Put32_ownI ((4 + tl) * 512 + 8) _ _ (by omega) HB.out O0.out (by rw [O0.out.n]; have := HN.out; have := DD.out; omega)).mono ?_
      rintro e' w12 ⟨rfl, hb, ho, hk⟩
      replace O0 := Aside0.mk ho
      replace HX := Aside0.mk (box_kept HX.out hk NX0.out)
      replace HB := Aside0.mk hb
      clear hb ho hk
      go_wp2_with fail
      go_roundw
      case rel => exact ⟨t + 1, by go_num, by omega, ⟨by have h := O0.out; rw [TL.out] at h; exact h⟩, HX, HB⟩
      case measure => simp [intOf]; omega
    · obtain rfl : t = 2 := by omega
      go_wp2_with fail
      go_ret2
      refine ⟨_, rfl, ?_, HB.out⟩
      have h := O0.out
      rw [HL9.out] at h
      rw [show zeros (s * 512) = zeros n by rw [HN.out]]
      exact h
end Go.Proofs.Ytfgeeigfbkiibaa.X
namespace Go.Proofs.Ytfgeeigfbkiibaa.X
open Go.RowKit Go.Proofs.YtfgeeigfbkiibaaW.PrintWords Go.Proofs.YtfgeeigfbkiibaaW.PrintLast Go.Proofs.YtfgeeigfbkiibaaW.PrintMore
open Go.Proofs.Ytfgeeigfbkiibaa.XFat
set_option linter.unusedVariables false
set_option linter.unusedSimpArgs false
theorem sub_take_drop (l : List Int) (a n : Nat) : (l.take (a + n)).drop a = sub l a n := by
  unfold sub
  rw [List.drop_take, Nat.add_sub_cancel_left]
theorem Size_calls (A0 : Option Addr) (c0 n : Nat) (w : World) : Calls Try.prog 105 #[.slice A0 n c0] w fun e w' => e = .returned (.int .i64 n) ∧ w = w' := by
  go_enter Try.func105, Try.ntmps105
  go_wp2
  go_ret
  exact ⟨rfl, rfl⟩
set_option maxHeartbeats 1000000 in
set_option maxRecDepth 100000 in
theorem Read_yes (A0 : Option Addr) (c0 : Nat) (l : List Int) (a n : Nat) (w : World) (hr0 : Kd.C (Kd.int .u8) w A0 l.length l) (hc0 : l.length ≤ c0) (hl : l.length < 140737488355328) (h : a + n ≤ l.length) :
    Calls Try.prog 104 #[.slice A0 l.length c0, .int .i64 a, .int .i64 n] w fun e w' => ∃ v0_ : Value, e = .returned (.tuple #[v0_, .int .i64 0]) ∧ Own w' w.heap.size v0_ (sub l a n) ∧ Below w.heap.size w w' := by
  obtain ⟨A3, l3, c3, hs1, C1⟩ := mid (P := Try.prog) 51 5 Try.underlying51 info5 A0 c0 l (a : Int) ((a : Int) + n) (by omega) (by omega) (by omega) hc0
  have R0 := Aside0.mk hr0
  have L := Aside0.mk hl
  have N1 : Aside0 ((l3.length : Int) = n) := ⟨by rw [C1.is, List.length_drop, List.length_take]; omega⟩
  have hlow : (a : Int) + n ≤ 9223372036854775807 := by omega
  have h1 : (a : Int) + n ≤ (l.length : Int) := by omega
  have h2 : (l.length : Int) ≤ 9223372036854775807 := by omega
  clear hr0 hl
  go_enter Try.func104, Try.ntmps104
  go_wp2_with (first | (go_at_call 105; refine (Size_calls _ _ _ _).mono ?_; rintro e w' ⟨rfl, rfl⟩) | ((with_reducible refine gate_builtin (b := .append) (xs := #[.const (.slice none 0 0), .tmp 33]) rfl ?_); refine append_bytes (w0 := w) w.heap.size (.const (.slice none 0 0)) (.tmp 33) 24 51 5 5 rfl rfl Try.underlying24 Try.underlying51 info5 (.slice none 0 0) [] _ _ _ _ (fun _ => True) rfl rfl (fun _ _ => trivial) (Kd.R_nil _ _ _ _ _) (C1.reads _ R0.out) (Below.refl _ _) (Nat.le_refl _) ?aL ?_; (case aL => have := N1.out; have := L.out; simp only [List.length_nil]; omega); intro v1 w1 ho1 hb1 hg1 _; have O1 := Aside0.mk ho1; have B1 := Aside0.mk hb1; clear ho1 hb1 hg1))
  go_ret2
  refine ⟨v1, rfl, ?_, B1.out⟩
  have := O1.out
  rw [C1.is, List.nil_append, show ((a : Int) + n).toNat = a + n by omega, Int.toNat_natCast, sub_take_drop] at this
  exact Own.of this
end Go.Proofs.Ytfgeeigfbkiibaa.X
namespace Go.Proofs.Ytfgeeigfbkiibaa.X
open Go.RowKit Go.Proofs.YtfgeeigfbkiibaaW.PrintWords Go.Proofs.YtfgeeigfbkiibaaW.PrintLast Go.Proofs.YtfgeeigfbkiibaaW.PrintMore
open Go.Proofs.Ytfgeeigfbkiibaa.XFat
set_option linter.unusedVariables false
set_option linter.unusedSimpArgs false
theorem blk_store8 {W : World} {g t : Nat} {a0 a1 a2 a3 a4 a5 a6 a7 b0 b1 b2 b3 b4 b5 b6 b7 : Value} (h : W.heap[g]? = some (.cells #[a0, a1, a2, a3, a4, a5, a6, a7] t (0, 0))) :
    ((((((((W.setCell ⟨g, 0, none⟩ b0).setCell ⟨g, 1, none⟩ b1).setCell ⟨g, 2, none⟩ b2).setCell ⟨g, 3, none⟩ b3).setCell ⟨g, 4, none⟩ b4).setCell ⟨g, 5, none⟩ b5).setCell ⟨g, 6, none⟩ b6).setCell ⟨g, 7, none⟩ b7).heap[g]? = some (.cells #[b0, b1, b2, b3, b4, b5, b6, b7] t (0, 0)) := by
  have h0 := blk_put (cs' := #[b0, a1, a2, a3, a4, a5, a6, a7]) h 0 b0 rfl
  have h1 := blk_put (cs' := #[b0, b1, a2, a3, a4, a5, a6, a7]) h0 1 b1 rfl
  have h2 := blk_put (cs' := #[b0, b1, b2, a3, a4, a5, a6, a7]) h1 2 b2 rfl
  have h3 := blk_put (cs' := #[b0, b1, b2, b3, a4, a5, a6, a7]) h2 3 b3 rfl
  have h4 := blk_put (cs' := #[b0, b1, b2, b3, b4, a5, a6, a7]) h3 4 b4 rfl
  have h5 := blk_put (cs' := #[b0, b1, b2, b3, b4, b5, a6, a7]) h4 5 b5 rfl
  have h6 := blk_put (cs' := #[b0, b1, b2, b3, b4, b5, b6, a7]) h5 6 b6 rfl
  have h7 := blk_put (cs' := #[b0, b1, b2, b3, b4, b5, b6, b7]) h6 7 b7 rfl
  exact h7
theorem drawn_below {W W' : World} (h : Drawn0 W W') : Below W.heap.size W W' := h.below
theorem U16_calls (a : Nat) {W : World} {base : Nat} {A : Option Addr} {n c : Nat} {l : List Int} (h : Own W base (.slice A n c) l) (hb : IsB l) (ha : a + 2 ≤ l.length) :
    Calls Try.prog 44 #[.slice A n c, .int .i64 a] W fun e w' => e = .returned (.tuple #[.int .u16 (num (sub l a 2)), .bool true]) ∧ Below W.heap.size W w' := by
  have hn := h.n
  subst hn
  exact (octet_U16.calls 3 A c l a _ true W h.reads h.cap (U16_yes 3 (by decide) l hb a ha h.reads.2.1)).mono fun e w' ⟨h1, h2⟩ => ⟨h1, drawn_below h2⟩
theorem U32_calls (a : Nat) {W : World} {base : Nat} {A : Option Addr} {n c : Nat} {l : List Int} (h : Own W base (.slice A n c) l) (hb : IsB l) (ha : a + 4 ≤ l.length) :
    Calls Try.prog 45 #[.slice A n c, .int .i64 a] W fun e w' => e = .returned (.tuple #[.int .u32 (num (sub l a 4)), .bool true]) ∧ Below W.heap.size W w' := by
  have hn := h.n
  subst hn
  exact (octet_U32.calls 5 A c l a _ true W h.reads h.cap (U32_yes 5 (by decide) l hb a ha h.reads.2.1)).mono fun e w' ⟨h1, h2⟩ => ⟨h1, drawn_below h2⟩
def fatMagic : List Int := [70, 65, 84, 51, 50, 32, 32, 32]
structure Boot where
  (b0 b1 b2 b3 b4 b5 b6 b7 : Int)
def Boot.val (b : Boot) : Value := .agg #[.int .i64 b.b0, .int .i64 b.b1, .int .i64 b.b2, .int .i64 b.b3, .int .i64 b.b4, .int .i64 b.b5, .int .i64 b.b6, .int .i64 b.b7]
def Boot.zero : Boot := ⟨0, 0, 0, 0, 0, 0, 0, 0⟩
def bootOf (l : List Int) : Boot := ⟨rd l 13, num (sub l 14 2), rd l 16, num (sub l 32 4), num (sub l 36 4), num (sub l 44 4), num (sub l 48 2), num (sub l 50 2)⟩
def magicOk (l : List Int) : Bool := rd l 510 == 85 && rd l 511 == 170 && sub l 82 8 == fatMagic
def formOk (l : List Int) : Bool := num (sub l 11 2) == 512 && num (sub l 17 2) == 0 && num (sub l 19 2) == 0 && num (sub l 22 2) == 0 && num (sub l 40 4) == 0
/-- Parse's answer for a sector of 512 bytes, what Check says being c. -/
def parseS (l : List Int) (c : Int) : Boot × Int :=
  if magicOk l = false then (.zero, 10) else if formOk l = false then (.zero, 11) else if c = 0 then (bootOf l, 0) else (.zero, c)
theorem str_magic (l : List Int) (hb : IsB l) : ((strOfNums l).toList == ([70, 65, 84, 51, 50, 32, 32, 32] : List UInt8)) = (l == fatMagic) := by
  have h : (strOfNums fatMagic).toList = ([70, 65, 84, 51, 50, 32, 32, 32] : List UInt8) := by rw [ByteArray.toList_eq, strOfNums_data]; rfl
  rw [← h, str_eq l fatMagic hb (by intro x hx; simp only [fatMagic, List.mem_cons, List.not_mem_nil, or_false] at hx; omega)]
theorem wrap_num (l : List Int) (hb : IsB l) (a n : Nat) (hn : n ≤ 4) : wrap64 (num (sub l a n)) = num (sub l a n) := by
  have h := num_bound (sub l a n) (sub_isB hb a n)
  have h1 : (sub l a n).length ≤ 4 := by simp only [sub, List.length_take]; omega
  have h2 := pow256_le h1
  have h3 : (256 : Int) ^ 4 = 4294967296 := by decide
  exact w64 (by omega) (by omega)
set_option maxHeartbeats 4000000 in
set_option maxRecDepth 100000 in
theorem parse_len (A : Option Addr) (n c : Nat) (w : World) (h : n ≠ 512) :
    Calls Try.prog 15 #[.slice A n c] w fun e w' => e = .returned (.tuple #[Boot.zero.val, .int .i64 4]) ∧ Below w.heap.size w w' := by
  have h1 : ((n : Int) == 512) = false := by simp; omega
  have h2 : ((n : Int) != 512) = true := by simp; omega
  go_enter Try.func15, Try.ntmps15
  go_wp2
  exact bodyPost_ret (v := .tuple #[.agg #[.int .i64 0, .int .i64 0, .int .i64 0, .int .i64 0, .int .i64 0, .int .i64 0, .int .i64 0, .int .i64 0], .int .i64 4]) (by simp [results, Try.results15, go_sem]) rfl ⟨rfl, below_alloc (Below.refl _ _) _⟩
set_option maxHeartbeats 4000000 in
set_option maxRecDepth 100000 in
theorem parse_go (g cap base : Nat) (l : List Int) (c : Int) (w : World) (ho : Own w base (.slice (some ⟨g, 0, none⟩) 512 cap) l) (hb : IsB l)
   (hck : magicOk l = true → formOk l = true → ∀ w, Calls Try.prog 38 #[(bootOf l).val] w fun e w' => e = .returned (.int .i64 c) ∧ Below w.heap.size w w') :
    Calls Try.prog 15 #[.slice (some ⟨g, 0, none⟩) 512 cap] w fun e w' => e = .returned (.tuple #[(parseS l c).1.val, .int .i64 (parseS l c).2]) ∧ Below w.heap.size w w' := by
  have hn := ho.n
  have hcap := ho.cap
  obtain ⟨c510, _⟩ := ho.at_ 510 (by omega)
  obtain ⟨c511, _⟩ := ho.at_ 511 (by omega)
  have hlt := (ho.ge g rfl).2
  obtain ⟨b510, hb510⟩ : ∃ b, b = rd l 510 := ⟨_, rfl⟩
  obtain ⟨b511, hb511⟩ : ∃ b, b = rd l 511 := ⟨_, rfl⟩
  rw [show rd l ((510 : Nat) : Int) = b510 from hb510.symm] at c510
  rw [show rd l ((511 : Nat) : Int) = b511 from hb511.symm] at c511
  have HO := Aside0.mk ho
  have HC := Aside0.mk hck
  have HI := Aside0.mk hb
  obtain ⟨A3, l3, c3, hs1, C1⟩ := mid (P := Try.prog) 24 5 Try.underlying24 info5 (some ⟨g, 0, none⟩) cap l (82 : Int) 90 (by omega) (by omega) (by omega) (by omega)
  rw [hn] at hs1
  have hl3 : l3 = sub l 82 8 := by rw [C1.is]; exact sub_take_drop l 82 8
  have hcv : ∀ o, (convert 24 9 (.slice A3 l3.length c3)).run Try.prog (w.alloc o) = .ok (.string (strOfNums l3)) (w.alloc o) := fun o =>
    Kd.C_string Try.underlying24 Try.underlying5 Try.underlying9 (C1.reads _ (ho.below (below_alloc (Below.refl _ _) _)).reads)
  have hm : magicOk l = (b510 == 85 && b511 == 170 && (strOfNums l3).toList == ([70, 65, 84, 51, 50, 32, 32, 32] : List UInt8)) := by
    rw [hb510, hb511, hl3, str_magic _ (sub_isB hb _ _)]; rfl
  have HM := Aside0.mk hm
  clear hb510 hb511 ho hck hb hl3 hm C1
  go_enter Try.func15, Try.ntmps15
  go_wp2_with fail
  rotate_left
  rotate_left
  · refine bodyPost_ret (v := .tuple #[.agg #[.int .i64 0, .int .i64 0, .int .i64 0, .int .i64 0, .int .i64 0, .int .i64 0, .int .i64 0, .int .i64 0], .int .i64 10]) (by simp [results, Try.results15, go_sem]) rfl ⟨?_, below_alloc (Below.refl _ _) _⟩
    have hf : magicOk l = false := by rw [HM.out]; simp_all
    unfold parseS
    rw [if_pos hf]
    rfl
  · refine bodyPost_ret (v := .tuple #[.agg #[.int .i64 0, .int .i64 0, .int .i64 0, .int .i64 0, .int .i64 0, .int .i64 0, .int .i64 0, .int .i64 0], .int .i64 10]) (by simp [results, Try.results15, go_sem]) rfl ⟨?_, below_alloc (Below.refl _ _) _⟩
    have hf : magicOk l = false := by rw [HM.out]; simp_all
    unfold parseS
    rw [if_pos hf]
    rfl
  · refine bodyPost_ret (v := .tuple #[.agg #[.int .i64 0, .int .i64 0, .int .i64 0, .int .i64 0, .int .i64 0, .int .i64 0, .int .i64 0, .int .i64 0], .int .i64 10]) (by simp [results, Try.results15, go_sem]) rfl ⟨?_, below_alloc (Below.refl _ _) _⟩
    have hf : magicOk l = false := by rw [HM.out]; simp_all
    unfold parseS
    rw [if_pos hf]
    rfl
  have hmo : magicOk l = true := by rw [HM.out]; simp_all
  have HM1 := Aside0.mk hmo
  clear HM hmo
  have HX : Aside0 ((w.alloc (.cells #[.int .i64 0, .int .i64 0, .int .i64 0, .int .i64 0, .int .i64 0, .int .i64 0, .int .i64 0, .int .i64 0] 23)).heap[w.heap.size]? = some (.cells #[.int .i64 0, .int .i64 0, .int .i64 0, .int .i64 0, .int .i64 0, .int .i64 0, .int .i64 0, .int .i64 0] 23 (0, 0))) := ⟨blk_new w _⟩
  have HB : Aside0 (Below w.heap.size w (w.alloc (.cells #[.int .i64 0, .int .i64 0, .int .i64 0, .int .i64 0, .int .i64 0, .int .i64 0, .int .i64 0, .int .i64 0] 23))) := ⟨below_alloc (Below.refl _ _) _⟩
  replace HO := Aside0.mk (HO.out.below (below_alloc (Below.refl _ _) (.cells #[.int .i64 0, .int .i64 0, .int .i64 0, .int .i64 0, .int .i64 0, .int .i64 0, .int .i64 0, .int .i64 0] 23)))
  refine (U16_calls 11 HO.out HI.out (by rw [HO.out.n]; decide)).mono ?_
  rintro e w0 ⟨rfl, hbb⟩
  obtain ⟨n11, hn11⟩ : ∃ x, x = num (sub l 11 2) := ⟨_, rfl⟩
  rw [← hn11]
  have Wn11 := wrap_num l HI.out 11 2 (by decide)
  rw [← hn11] at Wn11
  have Hn11 := Aside0.mk hn11
  replace HO := Aside0.mk (HO.out.below hbb)
  replace HX := Aside0.mk (box_below HX.out hbb)
  replace HB := Aside0.mk (below_step HB.out hbb)
  clear hbb hn11
  go_wp2_with fail
  refine (U16_calls 14 HO.out HI.out (by rw [HO.out.n]; decide)).mono ?_
  rintro e w1 ⟨rfl, hbb⟩
  obtain ⟨n14, hn14⟩ : ∃ x, x = num (sub l 14 2) := ⟨_, rfl⟩
  rw [← hn14]
  have Wn14 := wrap_num l HI.out 14 2 (by decide)
  rw [← hn14] at Wn14
  have Hn14 := Aside0.mk hn14
  replace HO := Aside0.mk (HO.out.below hbb)
  replace HX := Aside0.mk (box_below HX.out hbb)
  replace HB := Aside0.mk (below_step HB.out hbb)
  clear hbb hn14
  go_wp2_with fail
  refine (U16_calls 17 HO.out HI.out (by rw [HO.out.n]; decide)).mono ?_
  rintro e w2 ⟨rfl, hbb⟩
  obtain ⟨n17, hn17⟩ : ∃ x, x = num (sub l 17 2) := ⟨_, rfl⟩
  rw [← hn17]
  have Wn17 := wrap_num l HI.out 17 2 (by decide)
  rw [← hn17] at Wn17
  have Hn17 := Aside0.mk hn17
  replace HO := Aside0.mk (HO.out.below hbb)
  replace HX := Aside0.mk (box_below HX.out hbb)
  replace HB := Aside0.mk (below_step HB.out hbb)
  clear hbb hn17
  go_wp2_with fail
  refine (U16_calls 19 HO.out HI.out (by rw [HO.out.n]; decide)).mono ?_
  rintro e w3 ⟨rfl, hbb⟩
  obtain ⟨n19, hn19⟩ : ∃ x, x = num (sub l 19 2) := ⟨_, rfl⟩
  rw [← hn19]
  have Wn19 := wrap_num l HI.out 19 2 (by decide)
  rw [← hn19] at Wn19
  have Hn19 := Aside0.mk hn19
  replace HO := Aside0.mk (HO.out.below hbb)
  replace HX := Aside0.mk (box_below HX.out hbb)
  replace HB := Aside0.mk (below_step HB.out hbb)
  clear hbb hn19
  go_wp2_with fail
  refine (U16_calls 22 HO.out HI.out (by rw [HO.out.n]; decide)).mono ?_
  rintro e w4 ⟨rfl, hbb⟩
  obtain ⟨n22, hn22⟩ : ∃ x, x = num (sub l 22 2) := ⟨_, rfl⟩
  rw [← hn22]
  have Wn22 := wrap_num l HI.out 22 2 (by decide)
  rw [← hn22] at Wn22
  have Hn22 := Aside0.mk hn22
  replace HO := Aside0.mk (HO.out.below hbb)
  replace HX := Aside0.mk (box_below HX.out hbb)
  replace HB := Aside0.mk (below_step HB.out hbb)
  clear hbb hn22
  go_wp2_with fail
  refine (U32_calls 32 HO.out HI.out (by rw [HO.out.n]; decide)).mono ?_
  rintro e w5 ⟨rfl, hbb⟩
  obtain ⟨n32, hn32⟩ : ∃ x, x = num (sub l 32 4) := ⟨_, rfl⟩
  rw [← hn32]
  have Wn32 := wrap_num l HI.out 32 4 (by decide)
  rw [← hn32] at Wn32
  have Hn32 := Aside0.mk hn32
  replace HO := Aside0.mk (HO.out.below hbb)
  replace HX := Aside0.mk (box_below HX.out hbb)
  replace HB := Aside0.mk (below_step HB.out hbb)
  clear hbb hn32
  go_wp2_with fail
  refine (U32_calls 36 HO.out HI.out (by rw [HO.out.n]; decide)).mono ?_
  rintro e w6 ⟨rfl, hbb⟩
  obtain ⟨n36, hn36⟩ : ∃ x, x = num (sub l 36 4) := ⟨_, rfl⟩
  rw [← hn36]
  have Wn36 := wrap_num l HI.out 36 4 (by decide)
  rw [← hn36] at Wn36
  have Hn36 := Aside0.mk hn36
  replace HO := Aside0.mk (HO.out.below hbb)
  replace HX := Aside0.mk (box_below HX.out hbb)
  replace HB := Aside0.mk (below_step HB.out hbb)
  clear hbb hn36
  go_wp2_with fail
  refine (U32_calls 40 HO.out HI.out (by rw [HO.out.n]; decide)).mono ?_
  rintro e w7 ⟨rfl, hbb⟩
  obtain ⟨n40, hn40⟩ : ∃ x, x = num (sub l 40 4) := ⟨_, rfl⟩
  rw [← hn40]
  have Wn40 := wrap_num l HI.out 40 4 (by decide)
  rw [← hn40] at Wn40
  have Hn40 := Aside0.mk hn40
  replace HO := Aside0.mk (HO.out.below hbb)
  replace HX := Aside0.mk (box_below HX.out hbb)
  replace HB := Aside0.mk (below_step HB.out hbb)
  clear hbb hn40
  go_wp2_with fail
  refine (U32_calls 44 HO.out HI.out (by rw [HO.out.n]; decide)).mono ?_
  rintro e w8 ⟨rfl, hbb⟩
  obtain ⟨n44, hn44⟩ : ∃ x, x = num (sub l 44 4) := ⟨_, rfl⟩
  rw [← hn44]
  have Wn44 := wrap_num l HI.out 44 4 (by decide)
  rw [← hn44] at Wn44
  have Hn44 := Aside0.mk hn44
  replace HO := Aside0.mk (HO.out.below hbb)
  replace HX := Aside0.mk (box_below HX.out hbb)
  replace HB := Aside0.mk (below_step HB.out hbb)
  clear hbb hn44
  go_wp2_with fail
  refine (U16_calls 48 HO.out HI.out (by rw [HO.out.n]; decide)).mono ?_
  rintro e w9 ⟨rfl, hbb⟩
  obtain ⟨n48, hn48⟩ : ∃ x, x = num (sub l 48 2) := ⟨_, rfl⟩
  rw [← hn48]
  have Wn48 := wrap_num l HI.out 48 2 (by decide)
  rw [← hn48] at Wn48
  have Hn48 := Aside0.mk hn48
  replace HO := Aside0.mk (HO.out.below hbb)
  replace HX := Aside0.mk (box_below HX.out hbb)
  replace HB := Aside0.mk (below_step HB.out hbb)
  clear hbb hn48
  go_wp2_with fail
  refine (U16_calls 50 HO.out HI.out (by rw [HO.out.n]; decide)).mono ?_
  rintro e w10 ⟨rfl, hbb⟩
  obtain ⟨n50, hn50⟩ : ∃ x, x = num (sub l 50 2) := ⟨_, rfl⟩
  rw [← hn50]
  have Wn50 := wrap_num l HI.out 50 2 (by decide)
  rw [← hn50] at Wn50
  have Hn50 := Aside0.mk hn50
  replace HO := Aside0.mk (HO.out.below hbb)
  replace HX := Aside0.mk (box_below HX.out hbb)
  replace HB := Aside0.mk (below_step HB.out hbb)
  clear hbb hn50
  have FO : Aside0 (formOk l = (n11 == 512 && n17 == 0 && n19 == 0 && n22 == 0 && n40 == 0)) := ⟨by unfold formOk; rw [← Hn11.out, ← Hn17.out, ← Hn19.out, ← Hn22.out, ← Hn40.out]⟩
  have z : ∀ i : Nat, w10.frozen? ⟨w.heap.size, i, none⟩ = false := fun i => blk_frozen HX.out i
  have z0 : w10.cell? ⟨w.heap.size, 0, none⟩ = some (.int .i64 0) := (blk_cell HX.out 0).trans rfl
  have z1 : w10.cell? ⟨w.heap.size, 1, none⟩ = some (.int .i64 0) := (blk_cell HX.out 1).trans rfl
  have z2 : w10.cell? ⟨w.heap.size, 2, none⟩ = some (.int .i64 0) := (blk_cell HX.out 2).trans rfl
  have z3 : w10.cell? ⟨w.heap.size, 3, none⟩ = some (.int .i64 0) := (blk_cell HX.out 3).trans rfl
  have z4 : w10.cell? ⟨w.heap.size, 4, none⟩ = some (.int .i64 0) := (blk_cell HX.out 4).trans rfl
  have z5 : w10.cell? ⟨w.heap.size, 5, none⟩ = some (.int .i64 0) := (blk_cell HX.out 5).trans rfl
  have z6 : w10.cell? ⟨w.heap.size, 6, none⟩ = some (.int .i64 0) := (blk_cell HX.out 6).trans rfl
  have z7 : w10.cell? ⟨w.heap.size, 7, none⟩ = some (.int .i64 0) := (blk_cell HX.out 7).trans rfl
  obtain ⟨c13, _⟩ := HO.out.at_ 13 (by rw [HO.out.n]; decide)
  obtain ⟨c16, _⟩ := HO.out.at_ 16 (by rw [HO.out.n]; decide)
  obtain ⟨b13, hb13⟩ : ∃ b, b = rd l 13 := ⟨_, rfl⟩
  obtain ⟨b16, hb16⟩ : ∃ b, b = rd l 16 := ⟨_, rfl⟩
  rw [show rd l ((13 : Nat) : Int) = b13 from hb13.symm] at c13
  rw [show rd l ((16 : Nat) : Int) = b16 from hb16.symm] at c16
  have W13 : wrap64 b13 = b13 := by have := rd_isB HI.out 13; rw [hb13]; exact w64 (by omega) (by omega)
  have W16 : wrap64 b16 = b16 := by have := rd_isB HI.out 16; rw [hb16]; exact w64 (by omega) (by omega)
  have H13 := Aside0.mk hb13
  have H16 := Aside0.mk hb16
  clear hb13 hb16
  go_wp2_with fail
  · refine bodyPost_ret (results_ct rfl _ _ w.heap.size 23 #[.int .i64 0, .int .i64 0, .int .i64 0, .int .i64 0, .int .i64 0, .int .i64 0, .int .i64 0, .int .i64 0] (0, 0) _ rfl (blk_store8 HX.out) Try.underlying23 rfl (by kernel_rfl)) rfl ⟨?_, ?_⟩
    · have hf : formOk l = false := by
        rw [FO.out]
        first
          | (have h := (by assumption : ¬ n11 = 512); simp [h]; done)
          | (have h := (by assumption : ¬ n17 = 0); simp [h]; done)
          | (have h := (by assumption : ¬ n19 = 0); simp [h]; done)
          | (have h := (by assumption : ¬ n22 = 0); simp [h]; done)
          | (have h := (by assumption : (n40 != 0) = true); rw [bne_iff_ne] at h; simp [h]; done)
      unfold parseS
      rw [if_neg (by rw [HM1.out]; decide), if_pos hf]
      rfl
    · repeat (first | (with_reducible exact HB.out) | (with_reducible refine below_set ?_ (Nat.le_refl _)))
  rotate_left
  · refine bodyPost_ret (results_ct rfl _ _ w.heap.size 23 #[.int .i64 0, .int .i64 0, .int .i64 0, .int .i64 0, .int .i64 0, .int .i64 0, .int .i64 0, .int .i64 0] (0, 0) _ rfl (blk_store8 HX.out) Try.underlying23 rfl (by kernel_rfl)) rfl ⟨?_, ?_⟩
    · have hf : formOk l = false := by
        rw [FO.out]
        first
          | (have h := (by assumption : ¬ n11 = 512); simp [h]; done)
          | (have h := (by assumption : ¬ n17 = 0); simp [h]; done)
          | (have h := (by assumption : ¬ n19 = 0); simp [h]; done)
          | (have h := (by assumption : ¬ n22 = 0); simp [h]; done)
          | (have h := (by assumption : (n40 != 0) = true); rw [bne_iff_ne] at h; simp [h]; done)
      unfold parseS
      rw [if_neg (by rw [HM1.out]; decide), if_pos hf]
      rfl
    · repeat (first | (with_reducible exact HB.out) | (with_reducible refine below_set ?_ (Nat.le_refl _)))
  · refine bodyPost_ret (results_ct rfl _ _ w.heap.size 23 #[.int .i64 0, .int .i64 0, .int .i64 0, .int .i64 0, .int .i64 0, .int .i64 0, .int .i64 0, .int .i64 0] (0, 0) _ rfl (blk_store8 HX.out) Try.underlying23 rfl (by kernel_rfl)) rfl ⟨?_, ?_⟩
    · have hf : formOk l = false := by
        rw [FO.out]
        first
          | (have h := (by assumption : ¬ n11 = 512); simp [h]; done)
          | (have h := (by assumption : ¬ n17 = 0); simp [h]; done)
          | (have h := (by assumption : ¬ n19 = 0); simp [h]; done)
          | (have h := (by assumption : ¬ n22 = 0); simp [h]; done)
          | (have h := (by assumption : (n40 != 0) = true); rw [bne_iff_ne] at h; simp [h]; done)
      unfold parseS
      rw [if_neg (by rw [HM1.out]; decide), if_pos hf]
      rfl
    · repeat (first | (with_reducible exact HB.out) | (with_reducible refine below_set ?_ (Nat.le_refl _)))
  · refine bodyPost_ret (results_ct rfl _ _ w.heap.size 23 #[.int .i64 0, .int .i64 0, .int .i64 0, .int .i64 0, .int .i64 0, .int .i64 0, .int .i64 0, .int .i64 0] (0, 0) _ rfl (blk_store8 HX.out) Try.underlying23 rfl (by kernel_rfl)) rfl ⟨?_, ?_⟩
    · have hf : formOk l = false := by
        rw [FO.out]
        first
          | (have h := (by assumption : ¬ n11 = 512); simp [h]; done)
          | (have h := (by assumption : ¬ n17 = 0); simp [h]; done)
          | (have h := (by assumption : ¬ n19 = 0); simp [h]; done)
          | (have h := (by assumption : ¬ n22 = 0); simp [h]; done)
          | (have h := (by assumption : (n40 != 0) = true); rw [bne_iff_ne] at h; simp [h]; done)
      unfold parseS
      rw [if_neg (by rw [HM1.out]; decide), if_pos hf]
      rfl
    · repeat (first | (with_reducible exact HB.out) | (with_reducible refine below_set ?_ (Nat.le_refl _)))
  · refine bodyPost_ret (results_ct rfl _ _ w.heap.size 23 #[.int .i64 0, .int .i64 0, .int .i64 0, .int .i64 0, .int .i64 0, .int .i64 0, .int .i64 0, .int .i64 0] (0, 0) _ rfl (blk_store8 HX.out) Try.underlying23 rfl (by kernel_rfl)) rfl ⟨?_, ?_⟩
    · have hf : formOk l = false := by
        rw [FO.out]
        first
          | (have h := (by assumption : ¬ n11 = 512); simp [h]; done)
          | (have h := (by assumption : ¬ n17 = 0); simp [h]; done)
          | (have h := (by assumption : ¬ n19 = 0); simp [h]; done)
          | (have h := (by assumption : ¬ n22 = 0); simp [h]; done)
          | (have h := (by assumption : (n40 != 0) = true); rw [bne_iff_ne] at h; simp [h]; done)
      unfold parseS
      rw [if_neg (by rw [HM1.out]; decide), if_pos hf]
      rfl
    · repeat (first | (with_reducible exact HB.out) | (with_reducible refine below_set ?_ (Nat.le_refl _)))
  have hfo : formOk l = true := by
    rw [FO.out]
    have h1 := (by assumption : n11 = 512)
    have h2 := (by assumption : n17 = 0)
    have h3 := (by assumption : n19 = 0)
    have h4 := (by assumption : n22 = 0)
    have h5 := (by assumption : (n40 != 0) = false)
    rw [bne_eq_false_iff_eq] at h5
    rw [h1, h2, h3, h4, h5]; rfl
  have HF := Aside0.mk hfo
  clear hfo
  go_region_held3 (fun w' => w'.cell? ⟨g, 13, none⟩ = some (.int .u8 b13) ∧ w'.cell? ⟨g, 16, none⟩ = some (.int .u8 b16)) (go_keep) (fail)
  have hv : (bootOf l).val = .agg #[.int .i64 b13, .int .i64 n14, .int .i64 b16, .int .i64 n32, .int .i64 n36, .int .i64 n44, .int .i64 n48, .int .i64 n50] := by unfold bootOf Boot.val; rw [H13.out, H16.out, Hn14.out, Hn32.out, Hn36.out, Hn44.out, Hn48.out, Hn50.out]
  have HC1 : Aside0 (∀ w, Calls Try.prog 38 #[.agg #[.int .i64 b13, .int .i64 n14, .int .i64 b16, .int .i64 n32, .int .i64 n36, .int .i64 n44, .int .i64 n48, .int .i64 n50]] w fun e w' => e = .returned (.int .i64 c) ∧ Below w.heap.size w w') := ⟨by have := HC.out HM1.out HF.out; rw [hv] at this; exact this⟩
  have HV := Aside0.mk hv
  clear hv
  have hlt2 : w.heap.size < w10.heap.size := blk_lt HX.out
  have hne : w.heap.size ≠ w10.heap.size := by omega
  have HY0 : Aside0 (∀ o : Obj, (w10.alloc o).drew.heap[w10.heap.size]? = some o) := ⟨fun o => blk_new w10 o⟩
  have HX0 : Aside0 (∀ o : Obj, (w10.alloc o).drew.heap[w.heap.size]? = some (.cells #[.int .i64 0, .int .i64 0, .int .i64 0, .int .i64 0, .int .i64 0, .int .i64 0, .int .i64 0, .int .i64 0] 23 (0, 0))) := ⟨fun o => blk_drew (blk_alloc HX.out o)⟩
  have HB0 : Aside0 (∀ o : Obj, Below w.heap.size w (w10.alloc o).drew) := ⟨fun o => below_drew1 (below_alloc HB.out o)⟩
  clear z z0 z1 z2 z3 z4 z5 z6 z7 c13 c16
  go_wp2_with fail
  refine (HC1.out _).mono ?_
  rintro e w11 ⟨rfl, hbb⟩
  have HY : Aside0 (w11.heap[w10.heap.size]? = some (.cells #[.int .i64 b13, .int .i64 n14, .int .i64 b16, .int .i64 n32, .int .i64 n36, .int .i64 n44, .int .i64 n48, .int .i64 n50] 23 (0, 0))) := ⟨box_below (HY0.out _) hbb⟩
  replace HX : Aside0 (w11.heap[w.heap.size]? = some (.cells #[.int .i64 0, .int .i64 0, .int .i64 0, .int .i64 0, .int .i64 0, .int .i64 0, .int .i64 0, .int .i64 0] 23 (0, 0))) := ⟨box_below (HX0.out _) hbb⟩
  replace HB := Aside0.mk (below_step (HB0.out _) hbb)
  clear hbb HY0 HX0 HB0
  have z : ∀ i : Nat, w11.frozen? ⟨w.heap.size, i, none⟩ = false := fun i => blk_frozen HX.out i
  have z0 : w11.cell? ⟨w.heap.size, 0, none⟩ = some (.int .i64 0) := (blk_cell HX.out 0).trans rfl
  have z1 : w11.cell? ⟨w.heap.size, 1, none⟩ = some (.int .i64 0) := (blk_cell HX.out 1).trans rfl
  have z2 : w11.cell? ⟨w.heap.size, 2, none⟩ = some (.int .i64 0) := (blk_cell HX.out 2).trans rfl
  have z3 : w11.cell? ⟨w.heap.size, 3, none⟩ = some (.int .i64 0) := (blk_cell HX.out 3).trans rfl
  have z4 : w11.cell? ⟨w.heap.size, 4, none⟩ = some (.int .i64 0) := (blk_cell HX.out 4).trans rfl
  have z5 : w11.cell? ⟨w.heap.size, 5, none⟩ = some (.int .i64 0) := (blk_cell HX.out 5).trans rfl
  have z6 : w11.cell? ⟨w.heap.size, 6, none⟩ = some (.int .i64 0) := (blk_cell HX.out 6).trans rfl
  have z7 : w11.cell? ⟨w.heap.size, 7, none⟩ = some (.int .i64 0) := (blk_cell HX.out 7).trans rfl
  by_cases hc : c = 0
  · subst hc
    have y0 : w11.cell? ⟨w10.heap.size, 0, none⟩ = some (.int .i64 b13) := (blk_cell HY.out 0).trans rfl
    have y1 : w11.cell? ⟨w10.heap.size, 1, none⟩ = some (.int .i64 n14) := (blk_cell HY.out 1).trans rfl
    have y2 : w11.cell? ⟨w10.heap.size, 2, none⟩ = some (.int .i64 b16) := (blk_cell HY.out 2).trans rfl
    have y3 : w11.cell? ⟨w10.heap.size, 3, none⟩ = some (.int .i64 n32) := (blk_cell HY.out 3).trans rfl
    have y4 : w11.cell? ⟨w10.heap.size, 4, none⟩ = some (.int .i64 n36) := (blk_cell HY.out 4).trans rfl
    have y5 : w11.cell? ⟨w10.heap.size, 5, none⟩ = some (.int .i64 n44) := (blk_cell HY.out 5).trans rfl
    have y6 : w11.cell? ⟨w10.heap.size, 6, none⟩ = some (.int .i64 n48) := (blk_cell HY.out 6).trans rfl
    have y7 : w11.cell? ⟨w10.heap.size, 7, none⟩ = some (.int .i64 n50) := (blk_cell HY.out 7).trans rfl
    go_wp2_with fail
    refine bodyPost_ret (results_ct rfl _ _ w.heap.size 23 #[.int .i64 b13, .int .i64 n14, .int .i64 b16, .int .i64 n32, .int .i64 n36, .int .i64 n44, .int .i64 n48, .int .i64 n50] (0, 0) _ rfl (blk_store8 HX.out) Try.underlying23 rfl (by kernel_rfl)) rfl ⟨?_, ?_⟩
    · unfold parseS
      rw [if_neg (by rw [HM1.out]; decide), if_neg (by rw [HF.out]; decide), if_pos rfl, HV.out]
      rfl
    · repeat (first | (with_reducible exact HB.out) | (with_reducible refine below_set ?_ (Nat.le_refl _)))
  · have hc1 : (c == 0) = false := by simp [hc]
    have hc2 : (c != 0) = true := by simp [hc]
    go_wp2_with fail
    refine bodyPost_ret (results_ct rfl _ _ w.heap.size 23 #[.int .i64 0, .int .i64 0, .int .i64 0, .int .i64 0, .int .i64 0, .int .i64 0, .int .i64 0, .int .i64 0] (0, 0) _ rfl (blk_store8 HX.out) Try.underlying23 rfl (by kernel_rfl)) rfl ⟨?_, ?_⟩
    · unfold parseS
      rw [if_neg (by rw [HM1.out]; decide), if_neg (by rw [HF.out]; decide), if_neg hc]
      rfl
    · repeat (first | (with_reducible exact HB.out) | (with_reducible refine below_set ?_ (Nat.le_refl _)))
end Go.Proofs.Ytfgeeigfbkiibaa.X
namespace Go.Proofs.Ytfgeeigfbkiibaa.X
open Go.RowKit Go.Proofs.YtfgeeigfbkiibaaW.PrintWords Go.Proofs.YtfgeeigfbkiibaaW.PrintLast Go.Proofs.YtfgeeigfbkiibaaW.PrintMore
open Go.Proofs.Ytfgeeigfbkiibaa.XFat
set_option linter.unusedVariables false
set_option linter.unusedSimpArgs false
theorem mx1 (a : Int) : mx 1 a ≠ 0 := by unfold mx; split <;> omega
def dataW (b : Boot) : Int := wrap64 (b.b1 + wrap64 (b.b2 * b.b4))
def clusW (b : Boot) : Int := mx 0 (wrap64 (Int.tdiv (wrap64 (b.b3 - dataW b)) (mx 1 b.b0)))
theorem Data_f (b : Boot) : fat_Boot_Data.f b.b0 b.b1 b.b2 b.b3 b.b4 b.b5 b.b6 b.b7 = some (dataW b) := rfl
theorem Clus_f (b : Boot) : fat_Boot_Clusters.f b.b0 b.b1 b.b2 b.b3 b.b4 b.b5 b.b6 b.b7 = some (clusW b) := by
  unfold fat_Boot_Clusters.f; rw [Data_f]; simp only [Option.bind_some, if_neg (mx1 _)]; rfl
def ckB (b : Boot) : Int :=
  if b.b0 < 1 ∨ b.b0 > 8 ∨ (Go.bits .and .i64 b.b0 (wrap64 (b.b0 - 1))) ≠ 0 ∨ b.b2 < 1 ∨ b.b2 > 2 then 11
  else if b.b3 < 1 ∨ b.b3 > 32768 ∨ b.b4 < 1 ∨ b.b4 > b.b3 ∨ b.b1 < 2 ∨ b.b1 > 64 then 11
  else if b.b6 < 1 ∨ b.b6 ≥ b.b1 ∨ b.b7 < 0 ∨ b.b7 ≥ b.b1 ∨ b.b7 = b.b6 then 11
  else if dataW b ≥ b.b3 ∨ clusW b < 1 then 4
  else if clusW b > wrap64 (wrap64 (b.b4 * 128) - 2) then 20
  else if b.b5 < 2 ∨ b.b5 > wrap64 (clusW b + 1) then 4 else 0
theorem ckB_f (b : Boot) : fat_Boot_Check.f 4 b.b0 b.b1 b.b2 b.b3 b.b4 b.b5 b.b6 b.b7 = some (ckB b) := by
  have h3 : ∀ x, fat_Boot_Check.j3 1 x b.b0 b.b1 b.b2 b.b3 b.b4 b.b5 b.b6 b.b7 = some (if x = true then 4 else if clusW b > wrap64 (wrap64 (b.b4 * 128) - 2) then 20
     else if b.b5 < 2 ∨ b.b5 > wrap64 (clusW b + 1) then 4 else 0) := by
    intro x; simp only [fat_Boot_Check.j3, Clus_f, Option.bind_some]
    cases x <;> simp only [Bool.false_eq_true, if_true, if_false]
    repeat' split
    all_goals first | rfl | (exfalso; omega)
  have h2 : ∀ x, fat_Boot_Check.j2 2 x b.b0 b.b1 b.b2 b.b3 b.b4 b.b5 b.b6 b.b7 = some (if x = true then 11 else if dataW b ≥ b.b3 ∨ clusW b < 1 then 4 else if clusW b > wrap64 (wrap64 (b.b4 * 128) - 2) then 20
     else if b.b5 < 2 ∨ b.b5 > wrap64 (clusW b + 1) then 4 else 0) := by
    intro x; simp only [fat_Boot_Check.j2, Clus_f, Data_f, Option.bind_some, h3]
    cases x <;> simp only [Bool.false_eq_true, if_true, if_false]
    by_cases g1 : dataW b ≥ b.b3 <;> by_cases g2 : clusW b < 1 <;> simp only [g1, g2, or_true, or_false, if_true, if_false, decide_true, decide_false, Bool.false_eq_true]
  have h1 : ∀ x, fat_Boot_Check.j1 3 x b.b0 b.b1 b.b2 b.b3 b.b4 b.b5 b.b6 b.b7 = some (if x = true then 11 else if b.b6 < 1 ∨ b.b6 ≥ b.b1 ∨ b.b7 < 0 ∨ b.b7 ≥ b.b1 ∨ b.b7 = b.b6 then 11 else if dataW b ≥ b.b3 ∨ clusW b < 1 then 4 else if clusW b > wrap64 (wrap64 (b.b4 * 128) - 2) then 20
     else if b.b5 < 2 ∨ b.b5 > wrap64 (clusW b + 1) then 4 else 0) := by
    intro x; simp only [fat_Boot_Check.j1, h2]
    cases x <;> simp only [Bool.false_eq_true, if_true, if_false]
    by_cases g1 : b.b6 < 1 <;> by_cases g2 : b.b6 ≥ b.b1 <;> by_cases g3 : b.b7 < 0 <;> by_cases g4 : b.b7 ≥ b.b1 <;> by_cases g5 : b.b7 = b.b6 <;> simp only [g1, g2, g3, g4, g5, or_true, true_or, or_false, false_or, if_true, if_false, decide_true, decide_false, Bool.false_eq_true, beq_self_eq_true, beq_iff_eq, ite_self]
  have h0 : ∀ x, fat_Boot_Check.j0 4 x b.b0 b.b1 b.b2 b.b3 b.b4 b.b5 b.b6 b.b7 = some (if x = true then 11 else if b.b3 < 1 ∨ b.b3 > 32768 ∨ b.b4 < 1 ∨ b.b4 > b.b3 ∨ b.b1 < 2 ∨ b.b1 > 64 then 11 else if b.b6 < 1 ∨ b.b6 ≥ b.b1 ∨ b.b7 < 0 ∨ b.b7 ≥ b.b1 ∨ b.b7 = b.b6 then 11 else if dataW b ≥ b.b3 ∨ clusW b < 1 then 4 else if clusW b > wrap64 (wrap64 (b.b4 * 128) - 2) then 20
     else if b.b5 < 2 ∨ b.b5 > wrap64 (clusW b + 1) then 4 else 0) := by
    intro x; simp only [fat_Boot_Check.j0, h1]
    cases x <;> simp only [Bool.false_eq_true, if_true, if_false]
    by_cases g1 : b.b3 < 1 <;> by_cases g2 : b.b3 > 32768 <;> by_cases g3 : b.b4 < 1 <;> by_cases g4 : b.b4 > b.b3 <;> by_cases g5 : b.b1 < 2 <;> by_cases g6 : b.b1 > 64 <;> simp only [g1, g2, g3, g4, g5, g6, or_true, true_or, or_false, false_or, if_true, if_false, decide_true, decide_false, Bool.false_eq_true]
  unfold fat_Boot_Check.f ckB; simp only [h0]
  by_cases g1 : b.b0 < 1 <;> by_cases g2 : b.b0 > 8 <;> by_cases g3 : (Go.bits .and .i64 b.b0 (wrap64 (b.b0 - 1))) = 0 <;> by_cases g4 : b.b2 < 1 <;> by_cases g5 : b.b2 > 2 <;> simp only [g1, g2, g3, g4, g5, ne_eq, not_true, not_false_iff, or_true, true_or, or_false, false_or, if_true, if_false, decide_true, decide_false, Bool.false_eq_true]
theorem Check_calls (b : Boot) (w : World) : Calls Try.prog 38 #[b.val] w fun e w' => e = .returned (.int .i64 (ckB b)) ∧ Below w.heap.size w w' :=
  fat_Boot_Check.calls 4 _ _ _ _ _ _ _ _ _ w (ckB_f b)
theorem Clus_calls (b : Boot) (w : World) : Calls Try.prog 25 #[b.val] w fun e w' => e = .returned (.int .i64 (clusW b)) ∧ Below w.heap.size w w' :=
  fat_Boot_Clusters.calls _ _ _ _ _ _ _ _ _ w (Clus_f b)
theorem Data_calls (b : Boot) (w : World) : Calls Try.prog 37 #[b.val] w fun e w' => e = .returned (.int .i64 (dataW b)) ∧ Below w.heap.size w w' :=
  fat_Boot_Data.calls _ _ _ _ _ _ _ _ _ w (Data_f b)
end Go.Proofs.Ytfgeeigfbkiibaa.X
namespace Go.Proofs.Ytfgeeigfbkiibaa.X
open Go.RowKit Go.Proofs.YtfgeeigfbkiibaaW.PrintWords Go.Proofs.YtfgeeigfbkiibaaW.PrintLast Go.Proofs.YtfgeeigfbkiibaaW.PrintMore
open Go.Proofs.Ytfgeeigfbkiibaa.XFat
set_option linter.unusedVariables false
set_option linter.unusedSimpArgs false
structure Good (b : Boot) : Prop where
  e0 : 1 ≤ b.b0
  e1 : b.b0 ≤ 8
  pw : Go.bits .and .i64 b.b0 (wrap64 (b.b0 - 1)) = 0
  t0 : 1 ≤ b.b2
  t1 : b.b2 ≤ 2
  s0 : 1 ≤ b.b3
  s1 : b.b3 ≤ 32768
  l0 : 1 ≤ b.b4
  l1 : b.b4 ≤ b.b3
  a0 : 2 ≤ b.b1
  a1 : b.b1 ≤ 64
  i0 : 1 ≤ b.b6
  i1 : b.b6 < b.b1
  c0 : 0 ≤ b.b7
  c1 : b.b7 < b.b1
  ci : b.b7 ≠ b.b6
  dat : dataW b = b.b1 + b.b2 * b.b4
  d1 : b.b1 + b.b2 * b.b4 < b.b3
  clu : clusW b = (b.b3 - (b.b1 + b.b2 * b.b4)) / b.b0
  n0 : 1 ≤ clusW b
  n1 : clusW b ≤ b.b4 * 128 - 2
  r0 : 2 ≤ b.b5
  r1 : b.b5 ≤ clusW b + 1
theorem ck_good {b : Boot} (h : ckB b = 0) : Good b := by
  unfold ckB at h
  split at h
  · omega
  split at h
  · omega
  split at h
  · omega
  split at h
  · omega
  split at h
  · omega
  split at h
  · omega
  rename_i h1 h2 h3 h4 h5 h6
  simp only [not_or, ne_eq, Classical.not_not, ge_iff_le, gt_iff_lt] at h1 h2 h3 h4 h5 h6
  obtain ⟨p1, p2, p3, p4, p5⟩ := h1
  obtain ⟨q1, q2, q3, q4, q5, q6⟩ := h2
  have hm0 : 0 ≤ b.b2 * b.b4 := Int.mul_nonneg (by omega) (by omega)
  have hm1 : b.b2 * b.b4 ≤ 2 * 32768 := Int.mul_le_mul (by omega) (by omega) (by omega) (by omega)
  have hd : dataW b = b.b1 + b.b2 * b.b4 := by unfold dataW; rw [w64 (i := b.b2 * b.b4) (by omega) (by omega), w64 (by omega) (by omega)]
  rw [hd] at h4
  have hx : mx 1 b.b0 = b.b0 := by unfold mx; split <;> omega
  have hq0 : 0 ≤ (b.b3 - (b.b1 + b.b2 * b.b4)) / b.b0 := Int.ediv_nonneg (by omega) (by omega)
  have hq1 : (b.b3 - (b.b1 + b.b2 * b.b4)) / b.b0 ≤ b.b3 - (b.b1 + b.b2 * b.b4) := Int.ediv_le_self _ (by omega)
  have hc : clusW b = (b.b3 - (b.b1 + b.b2 * b.b4)) / b.b0 := by
    unfold clusW; rw [hd, hx, w64 (i := b.b3 - (b.b1 + b.b2 * b.b4)) (by omega) (by omega), Int.tdiv_eq_ediv_of_nonneg (by omega), w64 (by omega) (by omega)]
    unfold mx; split <;> omega
  have hn : clusW b ≤ 32768 := by omega
  rw [w64 (i := b.b4 * 128) (by omega) (by omega), w64 (i := b.b4 * 128 - 2) (by omega) (by omega)] at h5
  rw [w64 (i := clusW b + 1) (by omega) (by omega)] at h6
  exact ⟨by omega, by omega, p3, by omega, by omega, by omega, by omega, by omega, by omega, by omega, by omega, by omega, by omega, by omega, by omega, by omega, hd, by omega, hc, by omega, by omega, by omega, by omega⟩
theorem parseS_ok {l : List Int} {c : Int} {b : Boot} (h : parseS l c = (b, 0)) : b = bootOf l ∧ magicOk l = true ∧ formOk l = true ∧ c = 0 := by
  unfold parseS at h
  split at h
  · simp at h
  split at h
  · simp at h
  rename_i h1 h2
  simp only [Bool.not_eq_false] at h1 h2
  split at h
  · rename_i h3
    exact ⟨(Prod.mk.inj h).1.symm, h1, h2, h3⟩
  · rename_i h3
    exact absurd (Prod.mk.inj h).2 h3
theorem parse_good {l : List Int} {b : Boot} (h : parseS l (ckB (bootOf l)) = (b, 0)) : b = bootOf l ∧ ckB b = 0 ∧ Good b := by
  obtain ⟨h1, _, _, h4⟩ := parseS_ok h
  subst h1
  exact ⟨rfl, h4, ck_good h4⟩
/-- The sector with the counts. -/
def countsS (s : List Int) : (Int × Int) × Int :=
  if s.length = 512 ∧ num (sub s 0 4) = 1096897106 ∧ num (sub s 484 4) = 1631679090 ∧ num (sub s 508 4) = 2857697280 then ((num (sub s 488 4), num (sub s 492 4)), 0) else ((0, 0), if s.length = 512 then 10 else 4)
end Go.Proofs.Ytfgeeigfbkiibaa.X
namespace Go.Proofs.Ytfgeeigfbkiibaa.X
open Go.RowKit Go.Proofs.YtfgeeigfbkiibaaW.PrintWords Go.Proofs.YtfgeeigfbkiibaaW.PrintLast Go.Proofs.YtfgeeigfbkiibaaW.PrintMore
open Go.Proofs.Ytfgeeigfbkiibaa.XFat
set_option linter.unusedVariables false
set_option linter.unusedSimpArgs false
theorem method_read (A : Option Addr) (n c : Nat) (w : World) : (method 262 51 (.slice A n c) "Read").run Try.prog w = .ok (104, .slice A n c) w := by kernel_rfl
theorem nil_read (A : Option Addr) (n c : Nat) (w : World) : (nilAhead 262 51 (.slice A n c) "Read").run Try.prog w = .ok (some false) w := by kernel_rfl
theorem method_size (A : Option Addr) (n c : Nat) (w : World) : (method 262 51 (.slice A n c) "Size").run Try.prog w = .ok (105, .slice A n c) w := by kernel_rfl
set_option maxHeartbeats 1000000 in
set_option maxRecDepth 100000 in
theorem Read_no (A0 : Option Addr) (c0 n0 : Nat) (a n : Int) (w : World) (hl : (n0 : Int) < 140737488355328) (ha : 0 ≤ a) (hn : 0 ≤ n) (h : (n0 : Int) < a + n) :
    Calls Try.prog 104 #[.slice A0 n0 c0, .int .i64 a, .int .i64 n] w fun e w' => e = .returned (.tuple #[.slice none 0 0, .int .i64 4]) ∧ Below w.heap.size w w' := by
  have h1 : (a < 0) = False := by simp; omega
  have h2 : (n < 0) = False := by simp; omega
  by_cases h0 : (n0 : Int) < a
  · have h3 : ((n0 : Int) < a) = True := by simp [h0]
    have h4 : wrap64 (n0 : Int) = n0 := w64 (by omega) (by omega)
    clear h hl ha hn h0
    go_enter Try.func104, Try.ntmps104
    go_wp2_with (go_at_call 105; refine (Size_calls _ _ _ _).mono ?_; rintro e w' ⟨rfl, rfl⟩)
    go_ret2
    exact ⟨rfl, by repeat (first | exact Below.refl _ _ | exact below_drew1 (Below.refl _ _) | refine below_drew1 ?_)⟩
  · have h3 : ((n0 : Int) < a) = False := by simp [h0]
    have h5 : wrap64 ((n0 : Int) - a) = n0 - a := w64 (by omega) (by omega)
    have h6 : ((n0 : Int) - a < n) = True := by simp; omega
    clear h hl ha hn h0
    go_enter Try.func104, Try.ntmps104
    go_wp2_with (go_at_call 105; refine (Size_calls _ _ _ _).mono ?_; rintro e w' ⟨rfl, rfl⟩)
    go_ret2
    exact ⟨rfl, by repeat (first | exact Below.refl _ _ | exact below_drew1 (Below.refl _ _) | refine below_drew1 ?_)⟩
end Go.Proofs.Ytfgeeigfbkiibaa.X
namespace Go.Proofs.Ytfgeeigfbkiibaa.X
open Go.RowKit Go.Proofs.YtfgeeigfbkiibaaW.PrintWords Go.Proofs.YtfgeeigfbkiibaaW.PrintLast Go.Proofs.YtfgeeigfbkiibaaW.PrintMore
open Go.Proofs.Ytfgeeigfbkiibaa.XFat
set_option linter.unusedVariables false
set_option linter.unusedSimpArgs false
theorem mask28 (z : Int) (h0 : 0 ≤ z) (h1 : z < 4294967296) : bits .and .u32 z 268435455 = z % 268435456 := by go_bits2
theorem info91 : (Try.prog.info? 91).map (fun i => (i.zero, i.size, i.bytes)) = some (some (.int .u32 0), 1, 4) := by kernel_rfl
/-- A row of uint32 that is one's own. -/
def Own32 (W : World) (base : Nat) (u : Value) (l : List Int) : Prop := Kd.R (Kd.int .u32) 91 W base (fun k => some k = u.ownBlock) u l
theorem Own32.below {W W' : World} {base : Nat} {u : Value} {l : List Int} (h : Own32 W base u l) (hb : Below W.heap.size W W') : Own32 W' base u l := Kd.R_below h hb
theorem Own32.n {W : World} {base : Nat} {A : Option Addr} {n c : Nat} {l : List Int} (h : Own32 W base (.slice A n c) l) : l.length = n := (Kd.R_reads' h).1.symm
theorem Own32.reads {W : World} {base : Nat} {A : Option Addr} {n c : Nat} {l : List Int} (h : Own32 W base (.slice A n c) l) : Kd.C (Kd.int .u32) W A l.length l := (Kd.R_reads' h).2.2
theorem Own32.at_ {W : World} {base : Nat} {g n cap : Nat} {l : List Int} (h : Own32 W base (.slice (some ⟨g, 0, none⟩) n cap) l) (i : Nat) (hi : i < l.length) :
    W.cell? ⟨g, i, none⟩ = some (.int .u32 (rd l i)) ∧ W.frozen? ⟨g, i, none⟩ = false := by
  obtain ⟨e1, _⟩ := Kd.R_reads' h
  have := Kd.R_celln (0 : Int) h (i : Int) (by omega) (by omega)
  rw [Int.toNat_natCast] at this
  exact this
theorem Own32.ge {W : World} {base : Nat} {u : Value} {l : List Int} (h : Own32 W base u l) (k : Nat) (hk : u.ownBlock = some k) : base ≤ k ∧ k < W.heap.size := by
  obtain ⟨inner, ho⟩ := Kd.R_own h
  exact ⟨own_base ho k hk, own_lt ho k hk⟩
theorem Own32.set {w0 W : World} {g n cap : Nat} {l : List Int} (hb : Below w0.heap.size w0 W) (h : Own32 W w0.heap.size (.slice (some ⟨g, 0, none⟩) n cap) l) (i : Nat) (x : Int) (hi : i < l.length) :
    Own32 (W.setCell ⟨g, i, none⟩ (.int .u32 x)) w0.heap.size (.slice (some ⟨g, 0, none⟩) n cap) (l.set i x) ∧ Below w0.heap.size w0 (W.setCell ⟨g, i, none⟩ (.int .u32 x)) := by
  obtain ⟨h1, h2⟩ := Kd.R_putg h (i : Int) x
  rw [Int.toNat_natCast] at h1 h2
  exact ⟨h1, hb.grown h2 hb.size (fun k e => by cases e; exact (h.ge g rfl).1)⟩
theorem Own32.set_other {W : World} {base : Nat} {u : Value} {l : List Int} (h : Own32 W base u l) (p : Addr) (v : Value) (hne : u.ownBlock ≠ some p.block) : Own32 (W.setCell p v) base u l :=
  Kd.R_kept h ((Kept.refl W (fun k => k = p.block)).setCell (.inl rfl) v) (fun k hk e => hne (by rw [← hk, e]))
theorem Own.set_other {W : World} {base : Nat} {u : Value} {l : List Int} (h : Own W base u l) (p : Addr) (v : Value) (hne : u.ownBlock ≠ some p.block) : Own (W.setCell p v) base u l :=
  Kd.R_kept h ((Kept.refl W (fun k => k = p.block)).setCell (.inl rfl) v) (fun k hk e => hne (by rw [← hk, e]))
theorem made_own32 (W : World) (base n : Nat) (hb : base ≤ W.heap.size) (hn : n ≤ 9223372036854775807) :
    Own32 (W.alloc (.cells (madeCells #[.int .u32 0] n) 91)) base (.slice (some ⟨W.heap.size, 0, none⟩) n n) (zeros n) := by
  have h := own_made W base 91 .u32 n hb hn
  refine Kd.R_of_own ?_ (fun k hk => hk.symm)
  have hl : (zeros n).length = n := by simp [zeros]
  rw [hl]
  exact h
/-- What a table says, as far as t. -/
def nextS (tb : List Int) (N t : Nat) : List Int := (List.range N).map (fun i => if 2 ≤ i ∧ i < t then num (sub tb (4 * i) 4) % 268435456 else 0)
theorem nextS_length (tb : List Int) (N t : Nat) : (nextS tb N t).length = N := by simp [nextS]
theorem nextS_2 (tb : List Int) (N : Nat) : zeros N = nextS tb N 2 := by
  refine List.ext_getElem (by simp [nextS, zeros]) fun i h1 h2 => ?_
  simp only [zeros, nextS, List.getElem_replicate, List.getElem_map, List.getElem_range]
  rw [if_neg (by omega)]
theorem nextS_set (tb : List Int) (N t : Nat) (h : 2 ≤ t) (x : Int) (hx : x = num (sub tb (4 * t) 4) % 268435456) : (nextS tb N t).set t x = nextS tb N (t + 1) := by
  subst hx
  refine List.ext_getElem (by simp [nextS]) fun i h1 h2 => ?_
  simp only [nextS, List.getElem_set, List.getElem_map, List.getElem_range]
  by_cases hi : t = i
  · subst hi
    rw [if_pos rfl, if_pos (by omega)]
  · rw [if_neg hi]
    by_cases h3 : 2 ≤ i ∧ i < t
    · rw [if_pos h3, if_pos (by omega)]
    · rw [if_neg h3, if_neg (by omega)]
end Go.Proofs.Ytfgeeigfbkiibaa.X
namespace Go.Proofs.Ytfgeeigfbkiibaa.X
open Go.RowKit Go.Proofs.YtfgeeigfbkiibaaW.PrintWords Go.Proofs.YtfgeeigfbkiibaaW.PrintLast Go.Proofs.YtfgeeigfbkiibaaW.PrintMore
open Go.Proofs.Ytfgeeigfbkiibaa.XFat
set_option linter.unusedVariables false
set_option linter.unusedSimpArgs false
theorem iw {i : Int} (h0 : -9223372036854775808 ≤ i) (h1 : i ≤ 9223372036854775807) : IntKind.i64.wrap i = i := by rw [IntKind.wrap_i64]; omega
/-- Number i of the tables. -/
def tabB (l : List Int) (b : Boot) (i : Nat) : List Int := sub l (512 * (b.b1.toNat + i * b.b4.toNat)) (512 * b.b4.toNat)
theorem tabB0 (l : List Int) (b0 b2 b3 b5 b6 b7 : Int) (B1 B4 : Nat) : tabB l ⟨b0, B1, b2, b3, B4, b5, b6, b7⟩ 0 = sub l (512 * B1) (512 * B4) := by simp [tabB]
theorem tabB1 (l : List Int) (b0 b2 b3 b5 b6 b7 : Int) (B1 B4 : Nat) : tabB l ⟨b0, B1, b2, b3, B4, b5, b6, b7⟩ 1 = sub l (512 * (B1 + B4)) (512 * B4) := by simp [tabB]
theorem U32_callsI (a : Nat) (ai : Int) {W : World} {base : Nat} {A : Option Addr} {n c : Nat} {l : List Int} (hi : ai = a) (h : Own W base (.slice A n c) l) (hb : IsB l) (ha : a + 4 ≤ l.length) :
    Calls Try.prog 45 #[.slice A n c, .int .i64 ai] W fun e w' => e = .returned (.tuple #[.int .u32 (num (sub l a 4)), .bool true]) ∧ Below W.heap.size W w' := by
  subst hi; exact U32_calls a h hb ha
set_option maxHeartbeats 4000000 in
set_option maxRecDepth 100000 in
theorem table_go (gv : Nat) (b0 b1 b2 b3 b4 b5 b6 b7 f n : Int) (A0 : Option Addr) (c0 : Nat) (l : List Int) (w0 w : World) (hB : Below w0.heap.size w0 w) (hgv : w0.heap.size ≤ gv)
   (hv : w.heap[gv]? = some (.cells #[.int .i64 b0, .int .i64 b1, .int .i64 b2, .int .i64 b3, .int .i64 b4, .int .i64 b5, .int .i64 b6, .int .i64 b7, .slice none 0 0, .int .i64 f, .int .i64 n] 58 (0, 0))) (hr0 : Kd.C (Kd.int .u8) w0 A0 l.length l) (hc0 : l.length ≤ c0) (hl : l.length < 140737488355328)
   (hib : IsB l) (hg : Good ⟨b0, b1, b2, b3, b4, b5, b6, b7⟩) (hsz : b3 * 512 ≤ l.length) :
    Calls Try.prog 47 #[.pointer (some ⟨gv, 0, none⟩), .iface 51 (.slice A0 l.length c0)] w fun e w' => Below w0.heap.size w0 w' ∧ Kept w w' (fun k => k = gv) ∧ ((b2 = 2 ∧ tabB l ⟨b0, b1, b2, b3, b4, b5, b6, b7⟩ 1 ≠ tabB l ⟨b0, b1, b2, b3, b4, b5, b6, b7⟩ 0) ∧ e = .returned (.int .i64 11) ∨ ¬ (b2 = 2 ∧ tabB l ⟨b0, b1, b2, b3, b4, b5, b6, b7⟩ 1 ≠ tabB l ⟨b0, b1, b2, b3, b4, b5, b6, b7⟩ 0) ∧ e = .returned (.int .i64 0) ∧ ∃ gn, gn ≠ gv ∧ w'.heap[gv]? = some (.cells #[.int .i64 b0, .int .i64 b1, .int .i64 b2, .int .i64 b3, .int .i64 b4, .int .i64 b5, .int .i64 b6, .int .i64 b7, .slice (some ⟨gn, 0, none⟩) ((clusW ⟨b0, b1, b2, b3, b4, b5, b6, b7⟩).toNat + 2) ((clusW ⟨b0, b1, b2, b3, b4, b5, b6, b7⟩).toNat + 2), .int .i64 f, .int .i64 n] 58 (0, 0)) ∧ Own32 w' w0.heap.size (.slice (some ⟨gn, 0, none⟩) ((clusW ⟨b0, b1, b2, b3, b4, b5, b6, b7⟩).toNat + 2) ((clusW ⟨b0, b1, b2, b3, b4, b5, b6, b7⟩).toNat + 2)) (nextS (tabB l ⟨b0, b1, b2, b3, b4, b5, b6, b7⟩ 0) ((clusW ⟨b0, b1, b2, b3, b4, b5, b6, b7⟩).toNat + 2) ((clusW ⟨b0, b1, b2, b3, b4, b5, b6, b7⟩).toNat + 2))) := by
  have mr := method_read A0 l.length c0
  have nr := nil_read A0 l.length c0
  obtain ⟨B1, rfl⟩ := Int.eq_ofNat_of_zero_le (show 0 ≤ b1 by have := hg.a0; simp only at this; omega)
  obtain ⟨B4, rfl⟩ := Int.eq_ofNat_of_zero_le (show 0 ≤ b4 by have := hg.l0; simp only at this; omega)
  have HB4 : Aside0 (1 ≤ B4 ∧ B4 ≤ 32768 ∧ B1 ≤ 64) := ⟨by have h1 := hg.l0; have h2 := hg.l1; have h3 := hg.s1; have h4 := hg.a1; simp only at h1 h2 h3 h4; omega⟩
  have HF0 : Aside0 (512 * B1 + 512 * B4 ≤ l.length) := ⟨by
    have h2 := hg.d1; have h3 := hg.t0; simp only at h2 h3
    have h4 : (B4 : Int) ≤ b2 * B4 := by have := Int.mul_le_mul_of_nonneg_right h3 (show (0 : Int) ≤ B4 by omega); omega
    omega⟩
  have HF1 : Aside0 (b2 = 2 → 512 * B1 + 512 * B4 + 512 * B4 ≤ l.length) := ⟨by
    intro h; subst h; have h2 := hg.d1; simp only at h2; omega⟩
  have RR : Aside0 (∀ (a m : Nat) (W : World), a + m ≤ l.length → Below w0.heap.size w0 W → _) := ⟨fun a m W h hb => Read_yes A0 c0 l a m W (Kd.C_below hr0 hb) hc0 hl h⟩
  have W4 : IntKind.i64.wrap ((B4 : Int) * 512) = ((512 * B4 : Nat) : Int) := by have := HB4.out; rw [iw (by omega) (by omega)]; omega
  have W1 : IntKind.i64.wrap ((B1 : Int) * 512) = ((512 * B1 : Nat) : Int) := by have := HB4.out; rw [iw (by omega) (by omega)]; omega
  have W14 : IntKind.i64.wrap (512 * (B1 : Int) + 512 * (B4 : Int)) = ((512 * B1 + 512 * B4 : Nat) : Int) := by have := HB4.out; rw [iw (by omega) (by omega)]; omega
  have HLT : Aside0 (gv < w.heap.size) := ⟨blk_lt hv⟩
  have HWW : Aside0 (w0.heap.size ≤ w.heap.size) := ⟨below_size hB⟩
  have HV := Aside0.mk hv
  have HB := Aside0.mk hB
  have HG := Aside0.mk hg
  have HIB := Aside0.mk hib
  have HGV := Aside0.mk hgv
  clear hv hB hg hib hgv hr0 hc0 hl
  have q1 : w.cell? ⟨gv, 1, none⟩ = some (.int .i64 (B1 : Int)) := (blk_cell HV.out 1).trans rfl
  have q4 : w.cell? ⟨gv, 4, none⟩ = some (.int .i64 (B4 : Int)) := (blk_cell HV.out 4).trans rfl
  go_enter Try.func47, Try.ntmps47
  go_wp2_with fail
  go_region_held3 (fun w' => w'.cell? ⟨gv, 1, none⟩ = some (.int .i64 (B1 : Int))) ((first | go_keep | (rw [hb2.cell (p := ⟨gv, 1, none⟩) (blk_lt HV.out)]; exact q1))) ((go_at_call 104; refine (RR.out (512 * B1) (512 * B4) _ (by have := HF0.out; omega) (below_drew1 HB.out)).mono ?_; rintro e w2 ⟨v2, rfl, ho2, hb2⟩))
  replace HV := Aside0.mk (box_below HV.out (below_step (below_drew1 (Below.refl _ _)) hb2))
  replace HB := Aside0.mk (below_step (below_drew1 HB.out) hb2)
  have HK : Aside0 (Kept w w2 (fun k => k = gv)) := ⟨(Kept.refl w _).drew.below hb2⟩
  have HO : Aside0 (Own w2 w.heap.size v2 (sub l (512 * B1) (512 * B4))) := ⟨ho2⟩
  clear ho2 hb2 q1 q4
  obtain ⟨A2, c2, rfl⟩ := HO.out.slice
  have HN2 : Aside0 ((sub l (512 * B1) (512 * B4)).length = 512 * B4) := ⟨by rw [sub, List.length_take, List.length_drop]; have := HF0.out; omega⟩
  rw [HN2.out] at HO ⊢
  have q2 : w2.cell? ⟨gv, 2, none⟩ = some (.int .i64 b2) := (blk_cell HV.out 2).trans rfl
  have q1 : w2.cell? ⟨gv, 1, none⟩ = some (.int .i64 (B1 : Int)) := (blk_cell HV.out 1).trans rfl
  go_upto_if 42 with (fail)
  go_cut [] (fun wc => Aside0 (wc.heap[gv]? = some (.cells #[.int .i64 b0, .int .i64 (B1 : Int), .int .i64 b2, .int .i64 b3, .int .i64 (B4 : Int), .int .i64 b5, .int .i64 b6, .int .i64 b7, .slice none 0 0, .int .i64 f, .int .i64 n] 58 (0, 0))) ∧ Aside0 (Own wc w.heap.size (.slice A2 (512 * B4) c2) (sub l (512 * B1) (512 * B4))) ∧ Aside0 (Below w0.heap.size w0 wc) ∧ Aside0 (Kept w wc (fun k => k = gv)) ∧ Aside0 (¬ (b2 = 2 ∧ sub l (512 * (B1 + B4)) (512 * B4) ≠ sub l (512 * B1) (512 * B4))))
  case first =>
    by_cases h2 : b2 = 2
    · subst h2
      have HF2 : Aside0 (512 * B1 + 512 * B4 + 512 * B4 ≤ l.length) := ⟨HF1.out rfl⟩
      have HN3 : Aside0 ((sub l (512 * B1 + 512 * B4) (512 * B4)).length = 512 * B4) := ⟨by rw [sub, List.length_take, List.length_drop]; have := HF2.out; omega⟩
      go_wp2_with fail
      go_region_held3 (fun w' => w'.cell? ⟨gv, 1, none⟩ = some (.int .i64 (B1 : Int))) ((first | go_keep | (rw [hb3.cell (p := ⟨gv, 1, none⟩) (blk_lt HV.out)]; exact q1))) ((go_at_call 104; refine (RR.out (512 * B1 + 512 * B4) (512 * B4) _ (by have := HF2.out; omega) (below_drew1 HB.out)).mono ?_; rintro e w3 ⟨v3, rfl, ho3, hb3⟩))
      replace HV := Aside0.mk (box_below HV.out (below_step (below_drew1 (Below.refl _ _)) hb3))
      replace HB := Aside0.mk (below_step (below_drew1 HB.out) hb3)
      replace HK := Aside0.mk (HK.out.drew.below hb3)
      replace HO := Aside0.mk (HO.out.below (below_step (below_drew1 (Below.refl _ _)) hb3))
      obtain ⟨A3, c3, rfl⟩ := ho3.slice
      have cv2 : (convert 24 9 (.slice A2 (sub l (512 * B1) (512 * B4)).length c2)).run Try.prog w3 = .ok (.string (strOfNums (sub l (512 * B1) (512 * B4)))) w3 := Kd.C_string Try.underlying24 Try.underlying5 Try.underlying9 HO.out.reads
      have cv3 : (convert 24 9 (.slice A3 (sub l (512 * B1 + 512 * B4) (512 * B4)).length c3)).run Try.prog w3 = .ok (.string (strOfNums (sub l (512 * B1 + 512 * B4) (512 * B4)))) w3 := Kd.C_string Try.underlying24 Try.underlying5 Try.underlying9 ho3.reads
      rw [HN2.out] at cv2
      rw [HN3.out] at cv3 ⊢
      generalize hs2 : strOfNums (sub l (512 * B1) (512 * B4)) = s2 at cv2
      generalize hs3 : strOfNums (sub l (512 * B1 + 512 * B4) (512 * B4)) = s3 at cv3
      have HS2 := Aside0.mk hs2
      have HS3 := Aside0.mk hs3
      clear hs2 hs3 ho3 hb3 q1 q2
      go_wp2_with fail
      · have he := (by assumption : (!s2.toList == s3.toList) = true)
        rw [← HS2.out, ← HS3.out, str_eq _ _ (sub_isB HIB.out _ _) (sub_isB HIB.out _ _)] at he
        go_ret
        refine ⟨HB.out, HK.out, .inl ?_⟩
        rw [tabB1, tabB0]
        refine ⟨?_, rfl⟩
        intro h
        rw [Nat.mul_add] at h
        rw [h] at he
        simp at he
      · have he := (by assumption : (!s2.toList == s3.toList) = false)
        rw [← HS2.out, ← HS3.out, str_eq _ _ (sub_isB HIB.out _ _) (sub_isB HIB.out _ _)] at he
        go_meet
        refine ⟨HV, HO, HB, HK, ⟨fun h => h.2 ?_⟩⟩
        rw [Nat.mul_add]
        simpa using Eq.symm (by simpa using he)
    · go_wp2_with fail
      go_meet
      exact ⟨HV, HO, HB, HK, ⟨fun h => h2 h.1⟩⟩
  case rest =>
    obtain ⟨HV, HO, HB, HK, HT⟩ := hcut
    clear q1 q2
    have y0 : wc.cell? ⟨gv, 0, none⟩ = some (.int .i64 b0) := (blk_cell HV.out 0).trans rfl
    have y1 : wc.cell? ⟨gv, 1, none⟩ = some (.int .i64 (B1 : Int)) := (blk_cell HV.out 1).trans rfl
    have y2 : wc.cell? ⟨gv, 2, none⟩ = some (.int .i64 b2) := (blk_cell HV.out 2).trans rfl
    have y3 : wc.cell? ⟨gv, 3, none⟩ = some (.int .i64 b3) := (blk_cell HV.out 3).trans rfl
    have y4 : wc.cell? ⟨gv, 4, none⟩ = some (.int .i64 (B4 : Int)) := (blk_cell HV.out 4).trans rfl
    have y5 : wc.cell? ⟨gv, 5, none⟩ = some (.int .i64 b5) := (blk_cell HV.out 5).trans rfl
    have y6 : wc.cell? ⟨gv, 6, none⟩ = some (.int .i64 b6) := (blk_cell HV.out 6).trans rfl
    have y7 : wc.cell? ⟨gv, 7, none⟩ = some (.int .i64 b7) := (blk_cell HV.out 7).trans rfl
    obtain ⟨cl, hcl⟩ : ∃ cl : Nat, (cl : Int) = clusW ⟨b0, (B1 : Int), b2, b3, (B4 : Int), b5, b6, b7⟩ := ⟨(clusW ⟨b0, (B1 : Int), b2, b3, (B4 : Int), b5, b6, b7⟩).toNat, by have := HG.out.n0; omega⟩
    have HCL := Aside0.mk hcl
    have HCN : Aside0 (1 ≤ cl ∧ cl + 2 ≤ B4 * 128) := ⟨by have h1 := HG.out.n0; have h2 := HG.out.n1; simp only at h2; omega⟩
    have HC := fun W => Clus_calls ⟨b0, (B1 : Int), b2, b3, (B4 : Int), b5, b6, b7⟩ W
    rw [← hcl] at HC
    have HCC := Aside0.mk HC
    obtain ⟨N, hN⟩ : ∃ N : Nat, N = cl + 2 := ⟨_, rfl⟩
    have HNN := Aside0.mk hN
    have hwn : IntKind.i64.wrap ((cl : Int) + 2) = (N : Int) := by have := HCN.out; have := HB4.out; rw [iw (by omega) (by omega)]; omega
    have hmk := print_make (P := Try.prog) 56 91 .u32 4 Try.underlying56 info91 (by decide) N (by have := HCN.out; have := HB4.out; omega)
    clear hcl HC hN
    go_wp2_with fail
    refine (HCC.out _).mono ?_
    rintro e w3 ⟨rfl, hb3⟩
    replace HV := Aside0.mk (box_below HV.out hb3)
    replace HB := Aside0.mk (below_step HB.out hb3)
    replace HK := Aside0.mk (HK.out.below hb3)
    replace HO := Aside0.mk (HO.out.below hb3)
    clear hb3
    have hmk3 := hmk w3
    clear hmk
    have hfz : ∀ o : Obj, (w3.alloc o).frozen? ⟨gv, 8, none⟩ = false := fun o => blk_frozen (blk_alloc HV.out o) 8
    have hq8 : ∀ o : Obj, (w3.alloc o).cell? ⟨gv, 8, none⟩ = some (.slice none 0 0) := fun o => (blk_cell (blk_alloc HV.out o) 8).trans rfl
    obtain ⟨gn, hgn⟩ : ∃ gn, gn = w3.heap.size := ⟨_, rfl⟩
    have HGN : Aside0 (gv ≠ gn ∧ w.heap.size ≤ gn ∧ w0.heap.size ≤ w.heap.size) := ⟨by have h1 := blk_lt HV.out; have h2 := HK.out.1; exact ⟨by omega, by omega, HWW.out⟩⟩
    have hgv2 := HGV.out
    have hwne : A2.map (·.block) ≠ some gv := by
      intro h
      obtain ⟨p, rfl, hp⟩ := Option.map_eq_some_iff.1 h
      have := (HO.out.ge p.block rfl).1
      have := HLT.out
      omega
    have HV1 := Aside0.mk (fun (o : Obj) v => blk_put (cs' := #[.int .i64 b0, .int .i64 (B1 : Int), .int .i64 b2, .int .i64 b3, .int .i64 (B4 : Int), .int .i64 b5, .int .i64 b6, .int .i64 b7, v, .int .i64 f, .int .i64 n]) (blk_alloc HV.out o) 8 v rfl)
    have HN1 : Aside0 (∀ v, Own32 ((w3.alloc (.cells (madeCells #[.int .u32 0] N) 91)).setCell ⟨gv, 8, none⟩ v) w0.heap.size (.slice (some ⟨gn, 0, none⟩) N N) (nextS (sub l (512 * B1) (512 * B4)) N 2)) := ⟨fun v => by
      rw [← nextS_2, hgn]
      exact (made_own32 w3 w0.heap.size N (below_size HB.out) (by have := HCN.out; have := HB4.out; have := HNN.out; omega)).set_other _ _ (by simp only [Value.ownBlock]; intro h; injection h with h; have := HGN.out.1; omega)⟩
    have HO1 := Aside0.mk (fun (o : Obj) v => (HO.out.below (below_alloc (Below.refl _ _) o)).set_other ⟨gv, 8, none⟩ v (by cases A2 <;> simp_all [Value.ownBlock]))
    have HB1 := Aside0.mk (fun (o : Obj) v => below_set (j := 8) (v := v) (below_alloc HB.out o) hgv2)
    have HK1 := Aside0.mk (fun (o : Obj) v => (HK.out.alloc o).setCell (p := ⟨gv, 8, none⟩) (.inl rfl) v)
    rw [← hgn] at hmk3
    have HNE : Aside0 (∀ p : Addr, A2 = some p → p.block ≠ gn) := ⟨fun p hp => by subst hp; have := (HO.out.ge p.block rfl).2; omega⟩
    clear hgv2 hwne hgn
    obtain ⟨tb, htb⟩ : ∃ tb, tb = sub l (512 * B1) (512 * B4) := ⟨_, rfl⟩
    rw [← htb] at HN1 HO1
    have HTB := Aside0.mk htb
    clear htb
    have NTB : Aside0 (tb.length = 512 * B4 ∧ IsB tb) := ⟨by rw [HTB.out]; exact ⟨HN2.out, sub_isB HIB.out _ _⟩⟩
    go_wp2_with fail
    go_loopw [10] (fun v wr => ∃ t : Nat, v = .int .i64 t ∧ 2 ≤ t ∧ t ≤ N ∧ Aside0 (Own32 wr w0.heap.size (.slice (some ⟨gn, 0, none⟩) N N) (nextS tb N t)) ∧ Aside0 (wr.heap[gv]? = some (.cells #[.int .i64 b0, .int .i64 (B1 : Int), .int .i64 b2, .int .i64 b3, .int .i64 (B4 : Int), .int .i64 b5, .int .i64 b6, .int .i64 b7, .slice (some ⟨gn, 0, none⟩) N N, .int .i64 f, .int .i64 n] 58 (0, 0))) ∧ Aside0 (Own wr w.heap.size (.slice A2 (512 * B4) c2) tb) ∧ Aside0 (Below w0.heap.size w0 wr) ∧ Aside0 (Kept w wr (fun k => k = gv))) (fun v _ => N - (intOf v).toNat)
    case atStart => exact ⟨2, rfl, by omega, by have := HNN.out; omega, ⟨HN1.out _⟩, ⟨HV1.out _ _⟩, ⟨HO1.out _ _⟩, ⟨HB1.out _ _⟩, ⟨HK1.out _ _⟩⟩
    case round =>
      clear HV HB HK HO HN1 HV1 HO1 HB1 HK1 hmk3 hfz hq8 y0 y1 y2 y3 y4 y5 y6 y7 hwn
      obtain ⟨t, rfl, ht2, htN, H32, HV, HO, HB, HK⟩ := hrel
      have q8 : wr.cell? ⟨gv, 8, none⟩ = some (.slice (some ⟨gn, 0, none⟩) N N) := (blk_cell HV.out 8).trans rfl
      by_cases hlt : t < N
      · have hw4 : IntKind.i64.wrap (4 * (t : Int)) = 4 * (t : Int) := by have := HCN.out; have := HB4.out; have := HNN.out; rw [iw (by omega) (by omega)]
        have hw1 : IntKind.i64.wrap ((t : Int) + 1) = ((t + 1 : Nat) : Int) := by have := HCN.out; have := HB4.out; have := HNN.out; rw [iw (by omega) (by omega)]; omega
        have hL : (nextS tb N t).length = N := nextS_length _ _ _
        obtain ⟨c1, f1⟩ := H32.out.at_ t (by rw [hL]; exact hlt)
        have HC1 := Aside0.mk c1
        have HF1' := Aside0.mk f1
        clear c1 f1 hL
        have R4 := Aside0.mk (U32_callsI (4 * t) (4 * (t : Int)) (by omega) HO.out NTB.out.2 (by rw [NTB.out.1]; have := HCN.out; have := HNN.out; omega))
        obtain ⟨x, hx⟩ : ∃ x, x = num (sub tb (4 * t) 4) := ⟨_, rfl⟩
        rw [← hx] at R4
        have hx0 : 0 ≤ x ∧ x < 4294967296 := by
          have h := num_bound (sub tb (4 * t) 4) (sub_isB NTB.out.2 _ _)
          have h1 : (sub tb (4 * t) 4).length ≤ 4 := by simp only [sub, List.length_take]; omega
          have h2 := pow256_le h1
          have h3 : (256 : Int) ^ 4 = 4294967296 := by decide
          rw [hx]; omega
        have hmask := mask28 x hx0.1 hx0.2
        have HXX := Aside0.mk hx
        clear hx hx0
        have ht0 : (0 : Int) ≤ (t : Int) := by omega
        have htl : (t : Int) < (N : Int) := by omega
        go_wp2_with fail
        refine R4.out.mono ?_
        rintro e w5 ⟨rfl, hb5⟩
        replace HV := Aside0.mk (box_below HV.out hb5)
        replace HB := Aside0.mk (below_step HB.out hb5)
        replace HK := Aside0.mk (HK.out.below hb5)
        replace HO := Aside0.mk (HO.out.below hb5)
        replace H32 := Aside0.mk (H32.out.below hb5)
        have q8 : w5.cell? ⟨gv, 8, none⟩ = some (.slice (some ⟨gn, 0, none⟩) N N) := (blk_cell HV.out 8).trans rfl
        have hL : (nextS tb N t).length = N := nextS_length _ _ _
        obtain ⟨c1, f1⟩ := H32.out.at_ t (by rw [hL]; exact hlt)
        clear hb5 hL
        go_wp2_with fail
        go_roundw
        case rel =>
          have hs := H32.out.set HB.out t (x % 268435456) (by rw [nextS_length]; exact hlt)
          exact ⟨t + 1, by go_num, by omega, by omega, ⟨by have h := hs.1; rw [nextS_set tb N t ht2 _ (by rw [HXX.out])] at h; exact h⟩, ⟨box_set HV.out HGN.out.1 _⟩,
            ⟨HO.out.set_other _ _ (by
              intro h
              obtain ⟨p, rfl, hp⟩ : ∃ p, A2 = some p ∧ p.block = gn := by cases A2 <;> simp_all [Value.ownBlock]
              exact HNE.out p rfl hp)⟩, ⟨hs.2⟩, ⟨HK.out.setCell (p := ⟨gn, t, none⟩) (.inr HGN.out.2.1) _⟩⟩
        case measure => simp [intOf]; omega
      · obtain rfl : t = N := by omega
        go_wp2_with fail
        go_ret
        refine ⟨HB.out, HK.out, .inr ⟨by rw [tabB1, tabB0]; exact HT.out, rfl, gn, fun h => HGN.out.1 h.symm, ?_⟩⟩
        have hNN : (clusW ⟨b0, (B1 : Int), b2, b3, (B4 : Int), b5, b6, b7⟩).toNat + 2 = t := by rw [HNN.out, ← HCL.out, Int.toNat_natCast]
        rw [hNN, tabB0, ← HTB.out]
        exact ⟨HV.out, H32.out⟩
end Go.Proofs.Ytfgeeigfbkiibaa.X
namespace Go.Proofs.Ytfgeeigfbkiibaa.X
open Go.RowKit Go.Proofs.YtfgeeigfbkiibaaW.PrintWords Go.Proofs.YtfgeeigfbkiibaaW.PrintLast Go.Proofs.YtfgeeigfbkiibaaW.PrintMore
open Go.Proofs.Ytfgeeigfbkiibaa.XFat
set_option linter.unusedVariables false
set_option linter.unusedSimpArgs false
set_option maxHeartbeats 4000000 in
set_option maxRecDepth 100000 in
theorem free_go (gv gn N : Nat) (b0 b1 b2 b3 b4 b5 b6 b7 f n : Int) (l : List Int) (base : Nat) (w : World)
   (hv : w.heap[gv]? = some (.cells #[.int .i64 b0, .int .i64 b1, .int .i64 b2, .int .i64 b3, .int .i64 b4, .int .i64 b5, .int .i64 b6, .int .i64 b7, .slice (some ⟨gn, 0, none⟩) N N, .int .i64 f, .int .i64 n] 58 (0, 0))) (h32 : Own32 w base (.slice (some ⟨gn, 0, none⟩) N N) l) (hN : 3 ≤ N) (hN2 : N ≤ 4194304) :
    Calls Try.prog 48 #[.pointer (some ⟨gv, 0, none⟩)] w fun e w' => e = .returned (.int .i64 ((l.drop 2).count 0)) ∧ w' = w := by
  have q8 : w.cell? ⟨gv, 8, none⟩ = some (.slice (some ⟨gn, 0, none⟩) N N) := (blk_cell hv 8).trans rfl
  have HV := Aside0.mk hv
  have H32 := Aside0.mk h32
  have h2 : (2 : Int) ≤ (N : Int) := by omega
  have hn2 : ¬ N = 2 := by omega
  obtain ⟨M, hM⟩ : ∃ M, N - 2 = M := ⟨_, rfl⟩
  have HM : Aside0 (N = M + 2 ∧ 1 ≤ M) := ⟨by omega⟩
  have HLN : Aside0 (l.length = N) := ⟨h32.n⟩
  have HN2 := Aside0.mk hN2
  clear hv h32 hN hN2
  go_enter Try.func48, Try.ntmps48
  go_wp2_with fail
  clear h2 hn2 hM q8
  go_loopw [3, 12] (fun v3 v12 wr => ∃ t : Nat, v12 = .int .i64 t ∧ t ≤ M ∧ v3 = .int .i64 (((l.drop 2).take t).count 0 : Nat) ∧ wr = w) (fun _ v _ => M - (intOf v).toNat)
  case atStart => exact ⟨0, rfl, by omega, rfl, rfl⟩
  case round =>
    obtain ⟨t, rfl, ht, rfl, rfl⟩ := hrel
    obtain ⟨k, hk⟩ : ∃ k, k = ((l.drop 2).take t).count 0 := ⟨_, rfl⟩
    rw [← hk]
    have HK := Aside0.mk hk
    have hkb : k ≤ t := by rw [hk]; exact Nat.le_trans List.count_le_length (by rw [List.length_take]; omega)
    clear hk
    by_cases hlt : t < M
    · have hi : (t : Int) < (M : Int) := by omega
      have hi0 : (0 : Int) ≤ (t : Int) := by omega
      have hw1 : IntKind.i64.wrap ((t : Int) + 1) = ((t + 1 : Nat) : Int) := by have := HM.out; have := HN2.out; rw [iw (by omega) (by omega)]; omega
      have hw2 : IntKind.i64.wrap ((k : Int) + 1) = ((k + 1 : Nat) : Int) := by have := HM.out; have := HN2.out; rw [iw (by omega) (by omega)]; omega
      obtain ⟨c1, _⟩ := H32.out.at_ (2 + t) (by rw [HLN.out]; have := HM.out; omega)
      obtain ⟨x, hx⟩ : ∃ x, x = rd l ((2 + t : Nat) : Int) := ⟨_, rfl⟩
      rw [← hx] at c1
      have hnx : ((l.drop 2).take (t + 1)).count 0 = k + if x = 0 then 1 else 0 := by
        have h3 : t < (l.drop 2).length := by rw [List.length_drop, HLN.out]; have := HM.out; omega
        rw [List.take_succ_eq_append_getElem h3, List.count_append, ← HK.out, List.count_singleton]
        have h4 : (l.drop 2)[t] = x := by rw [hx]; unfold rd; rw [Int.toNat_natCast, List.getD_eq_getElem?_getD, List.getElem?_eq_getElem (by rw [HLN.out]; have := HM.out; omega), List.getElem_drop]; rfl
        rw [h4]
        simp
      have HNX := Aside0.mk hnx
      clear hx hnx
      go_wp2_with fail
      · have hx := (by assumption : (x == 0) = true)
        rw [beq_iff_eq] at hx
        go_roundw
        case rel => exact ⟨t + 1, rfl, by omega, by rw [HNX.out, if_pos hx]; rfl, trivial⟩
        case measure => simp [intOf]; omega
      · have hx := (by assumption : (x == 0) = false)
        rw [beq_eq_false_iff_ne] at hx
        go_roundw
        case rel => exact ⟨t + 1, rfl, by omega, by rw [HNX.out, if_neg hx]; rfl, trivial⟩
        case measure => simp [intOf]; omega
    · obtain rfl : t = M := by omega
      have HT : Aside0 (k = (l.drop 2).count 0) := ⟨by rw [HK.out, List.take_of_length_le (by rw [List.length_drop, HLN.out]; have := HM.out; omega)]⟩
      go_wp2_with fail
      go_ret
      exact ⟨by rw [HT.out]; rfl, rfl⟩
end Go.Proofs.Ytfgeeigfbkiibaa.X
namespace Go.Proofs.Ytfgeeigfbkiibaa.X
open Go.RowKit Go.Proofs.YtfgeeigfbkiibaaW.PrintWords Go.Proofs.YtfgeeigfbkiibaaW.PrintLast Go.Proofs.YtfgeeigfbkiibaaW.PrintMore
open Go.Proofs.Ytfgeeigfbkiibaa.XFat
set_option linter.unusedVariables false
set_option linter.unusedSimpArgs false
theorem ParseCounts_f (s : List Int) (hb : IsB s) (hl : s.length = 512) : fat_ParseCounts.f 8 s = some ((countsS s).1.1, (countsS s).1.2, (countsS s).2) := by
  have r : ∀ k, 4 < k → ∀ a : Nat, a + 4 ≤ 512 → octet_U32.f k s (a : Int) = some (num (sub s a 4), true) := fun k hk a ha => U32_yes k hk s hb a (by omega) (by omega)
  have r0 := r 8 (by decide) 0 (by decide)
  have r1 := r 8 (by decide) 484 (by decide)
  have r2 := r 8 (by decide) 508 (by decide)
  have r3 := r 6 (by decide) 488 (by decide)
  have r4 := r 6 (by decide) 492 (by decide)
  simp only [Int.natCast_zero, show ((484 : Nat) : Int) = 484 from rfl, show ((508 : Nat) : Int) = 508 from rfl, show ((488 : Nat) : Int) = 488 from rfl, show ((492 : Nat) : Int) = 492 from rfl] at r0 r1 r2 r3 r4
  have hs : (((512 : Nat) : Int) != 512) = false := rfl
  unfold fat_ParseCounts.f countsS
  simp only [r0, r1, r2, Option.bind_some, if_true, hs, fat_ParseCounts.j0, Bool.false_eq_true, if_false, hl, true_and]
  by_cases h0 : num (sub s 0 4) = 1096897106
  · by_cases h1 : num (sub s 484 4) = 1631679090
    · by_cases h2 : num (sub s 508 4) = 2857697280
      · have h3 : (num (sub s 508 4) != 2857697280) = false := by simp [h2]
        rw [if_pos h0, if_pos h1, if_pos ⟨h0, h1, h2⟩, h3]
        simp only [fat_ParseCounts.j1, Bool.false_eq_true, if_false, r3, r4, Option.bind_some, wrap_num s hb 488 4 (by decide), wrap_num s hb 492 4 (by decide)]
      · have h3 : (num (sub s 508 4) != 2857697280) = true := by simp [h2]
        rw [if_pos h0, if_pos h1, if_neg (fun h => h2 h.2.2), h3]
        simp only [fat_ParseCounts.j1, if_true]
    · rw [if_pos h0, if_neg h1, if_neg (fun h => h1 h.2.1)]
      simp only [fat_ParseCounts.j1, if_true]
  · rw [if_neg h0, if_neg (fun h => h0 h.1)]
    simp only [fat_ParseCounts.j1, if_true]
theorem ParseCounts_calls {W : World} {base : Nat} {A : Option Addr} {c : Nat} {l : List Int} (h : Own W base (.slice A 512 c) l) (hb : IsB l) :
    Calls Try.prog 18 #[.slice A 512 c] W fun e w' => e = .returned (.tuple #[.agg #[.int .i64 (countsS l).1.1, .int .i64 (countsS l).1.2], .int .i64 (countsS l).2]) ∧ Below W.heap.size W w' := by
  have hn := h.n
  have := fat_ParseCounts.calls 8 A c l _ _ _ W h.reads h.cap (ParseCounts_f l hb hn)
  rw [hn] at this
  exact this
end Go.Proofs.Ytfgeeigfbkiibaa.X
namespace Go.Proofs.Ytfgeeigfbkiibaa.X
open Go.RowKit Go.Proofs.YtfgeeigfbkiibaaW.PrintWords Go.Proofs.YtfgeeigfbkiibaaW.PrintLast Go.Proofs.YtfgeeigfbkiibaaW.PrintMore
open Go.Proofs.Ytfgeeigfbkiibaa.XFat
set_option linter.unusedVariables false
set_option linter.unusedSimpArgs false
/-- A volume: what its first sector says, its table, its counts. -/
structure Vol where
  (b : Boot) (next : List Int) (free nxt : Int)
def clN (b : Boot) : Nat := (clusW b).toNat + 2
/-- What Open answers: nothing but of d's bytes. -/
def openS (l : List Int) : Option Vol × Int :=
  if l.length < 512 then (none, 4) else
  match parseS (sub l 0 512) (ckB (bootOf (sub l 0 512))) with
  | (b, e) =>
    if e ≠ 0 then (none, e) else
    if ((l.length / 512 : Nat) : Int) < b.b3 then (none, 4) else
    if b.b7 ≠ 0 ∧ sub l (512 * b.b7.toNat) 512 ≠ sub l 0 512 then (none, 11) else
    match countsS (sub l (512 * b.b6.toNat) 512) with
    | ((f, n), e) =>
      if e ≠ 0 then (none, e) else
      if b.b2 = 2 ∧ tabB l b 1 ≠ tabB l b 0 then (none, 11) else
      if f ≠ 4294967295 ∧ f ≠ (((nextS (tabB l b 0) (clN b) (clN b)).drop 2).count 0 : Nat) then (none, 23) else (some ⟨b, nextS (tabB l b 0) (clN b) (clN b), f, n⟩, 0)
theorem openS_short {l : List Int} (h : l.length < 512) : openS l = (none, 4) := by unfold openS; rw [if_pos h]
section
variable {l : List Int} {b : Boot} {e : Int} (h0 : 512 ≤ l.length) (hp : parseS (sub l 0 512) (ckB (bootOf (sub l 0 512))) = (b, e))
include h0 hp
theorem openS_e (he : e ≠ 0) : openS l = (none, e) := by
  unfold openS; rw [if_neg (by omega), hp]; simp only; rw [if_pos he]
theorem openS_sz (he : e = 0) (h : ((l.length / 512 : Nat) : Int) < b.b3) : openS l = (none, 4) := by
  unfold openS; rw [if_neg (by omega), hp]; simp only; rw [if_neg (by simp [he]), if_pos h]
theorem openS_cp (he : e = 0) (h : ¬ ((l.length / 512 : Nat) : Int) < b.b3) (h1 : b.b7 ≠ 0 ∧ sub l (512 * b.b7.toNat) 512 ≠ sub l 0 512) : openS l = (none, 11) := by
  unfold openS; rw [if_neg (by omega), hp]; simp only; rw [if_neg (by simp [he]), if_neg h, if_pos h1]
variable {f n e2 : Int} (hc : countsS (sub l (512 * b.b6.toNat) 512) = ((f, n), e2))
include hc
theorem openS_c (he : e = 0) (h : ¬ ((l.length / 512 : Nat) : Int) < b.b3) (h1 : ¬ (b.b7 ≠ 0 ∧ sub l (512 * b.b7.toNat) 512 ≠ sub l 0 512)) (h2 : e2 ≠ 0) : openS l = (none, e2) := by
  unfold openS; rw [if_neg (by omega), hp]; simp only; rw [if_neg (by simp [he]), if_neg h, if_neg h1, hc]; simp only; rw [if_pos h2]
theorem openS_t (he : e = 0) (h : ¬ ((l.length / 512 : Nat) : Int) < b.b3) (h1 : ¬ (b.b7 ≠ 0 ∧ sub l (512 * b.b7.toNat) 512 ≠ sub l 0 512)) (h2 : e2 = 0) (h3 : b.b2 = 2 ∧ tabB l b 1 ≠ tabB l b 0) : openS l = (none, 11) := by
  unfold openS; rw [if_neg (by omega), hp]; simp only; rw [if_neg (by simp [he]), if_neg h, if_neg h1, hc]; simp only; rw [if_neg (by simp [h2]), if_pos h3]
theorem openS_f (he : e = 0) (h : ¬ ((l.length / 512 : Nat) : Int) < b.b3) (h1 : ¬ (b.b7 ≠ 0 ∧ sub l (512 * b.b7.toNat) 512 ≠ sub l 0 512)) (h2 : e2 = 0) (h3 : ¬ (b.b2 = 2 ∧ tabB l b 1 ≠ tabB l b 0)) :
    openS l = if f ≠ 4294967295 ∧ f ≠ (((nextS (tabB l b 0) (clN b) (clN b)).drop 2).count 0 : Nat) then (none, 23) else (some ⟨b, nextS (tabB l b 0) (clN b) (clN b), f, n⟩, 0) := by
  unfold openS; rw [if_neg (by omega), hp]; simp only; rw [if_neg (by simp [he]), if_neg h, if_neg h1, hc]; simp only; rw [if_neg (by simp [h2]), if_neg h3]
end
/-- A volume that lies in a block of its own. -/
def VolAt (W : World) (base gv : Nat) (v : Vol) : Prop :=
  base ≤ gv ∧ ∃ gn N : Nat, gn ≠ gv ∧ 3 ≤ N ∧ N ≤ 4194304 ∧ W.heap[gv]? = some (.cells #[.int .i64 v.b.b0, .int .i64 v.b.b1, .int .i64 v.b.b2, .int .i64 v.b.b3, .int .i64 v.b.b4, .int .i64 v.b.b5, .int .i64 v.b.b6, .int .i64 v.b.b7, .slice (some ⟨gn, 0, none⟩) N N, .int .i64 v.free, .int .i64 v.nxt] 58 (0, 0)) ∧
    Own32 W base (.slice (some ⟨gn, 0, none⟩) N N) v.next
def OpenPost (l : List Int) (w : World) (e : Ending) (w' : World) : Prop :=
  Below w.heap.size w w' ∧ ((openS l).1 = none ∧ e = .returned (.tuple #[.pointer none, .int .i64 (openS l).2]) ∨ ∃ v gv, openS l = (some v, 0) ∧ e = .returned (.tuple #[.pointer (some ⟨gv, 0, none⟩), .int .i64 0]) ∧ VolAt w' w.heap.size gv v)
theorem OpenPost.no {l : List Int} {w w' : World} {c : Int} (h : openS l = (none, c)) (hb : Below w.heap.size w w') : OpenPost l w (.returned (.tuple #[.pointer none, .int .i64 c])) w' :=
  ⟨hb, .inl ⟨by rw [h], by rw [h]⟩⟩
end Go.Proofs.Ytfgeeigfbkiibaa.X
namespace Go.Proofs.Ytfgeeigfbkiibaa.X
open Go.RowKit Go.Proofs.YtfgeeigfbkiibaaW.PrintWords Go.Proofs.YtfgeeigfbkiibaaW.PrintLast Go.Proofs.YtfgeeigfbkiibaaW.PrintMore
open Go.Proofs.Ytfgeeigfbkiibaa.XFat
set_option linter.unusedVariables false
set_option linter.unusedSimpArgs false
theorem sub_ap {l bs : List Int} {a b n m k : Nat} (hl : l.length = m) (hb : bs.length = k) (h1 : a + k ≤ m) (hd : b + n ≤ a ∨ a + k ≤ b) : sub (spl l a bs) b n = sub l b n :=
  sub_spl_apart l a bs b n (by omega) (by omega)
theorem sub_sm {l bs : List Int} {a m k : Nat} (hl : l.length = m) (hb : bs.length = k) (h1 : a + k ≤ m) : sub (spl l a bs) a k = bs := by
  subst hb; exact sub_spl_same l a bs (by omega)
theorem rd_sub1 (l : List Int) (a : Nat) (x : Int) (h : sub l a 1 = [x]) : rd l (a : Int) = x := by
  rw [rd_get]
  have := congrArg (fun q => q[0]?) h
  simp only [sub_get, List.getElem?_cons_zero, Nat.add_zero] at this
  rw [if_pos (by decide)] at this
  rw [this]; rfl
structure BootSub (m : List Int) (b0 b1 b2 b3 b4 b5 b6 b7 : Int) : Prop where
  q11 : sub m 11 2 = le 2 512
  q13 : sub m 13 1 = [b0 % 256]
  q16 : sub m 16 1 = [b2 % 256]
  q14 : sub m 14 2 = le 2 b1
  q17 : sub m 17 2 = le 2 0
  q19 : sub m 19 2 = le 2 0
  q22 : sub m 22 2 = le 2 0
  q32 : sub m 32 4 = le 4 b3
  q36 : sub m 36 4 = le 4 b4
  q40 : sub m 40 4 = le 4 0
  q44 : sub m 44 4 = le 4 b5
  q48 : sub m 48 2 = le 2 b6
  q50 : sub m 50 2 = le 2 b7
  q82 : sub m 82 8 = [70, 65, 84, 51, 50, 32, 32, 32]
  q510 : sub m 510 1 = [85]
  q511 : sub m 511 1 = [170]
theorem boot_sub (b0 b1 b2 b3 b4 b5 b6 b7 : Int) (l : List Int) (h : l.length = 512) : BootSub (bootBytes b0 b1 b2 b3 b4 b5 b6 b7 l) b0 b1 b2 b3 b4 b5 b6 b7 := by
  unfold bootBytes
  obtain ⟨m1, e1⟩ : ∃ m, m = spl l 11 (le 2 512) := ⟨_, rfl⟩
  have n1 : m1.length = 512 := by rw [e1]; exact spl_len h (by rw [show (le 2 512 : List Int).length = 2 from (le_length 2 _)]; decide)
  obtain ⟨m2, e2⟩ : ∃ m, m = spl m1 13 ([b0 % 256]) := ⟨_, rfl⟩
  have n2 : m2.length = 512 := by rw [e2]; exact spl_len n1 (by rw [show ([b0 % 256] : List Int).length = 1 from rfl]; decide)
  obtain ⟨m3, e3⟩ : ∃ m, m = spl m2 16 ([b2 % 256]) := ⟨_, rfl⟩
  have n3 : m3.length = 512 := by rw [e3]; exact spl_len n2 (by rw [show ([b2 % 256] : List Int).length = 1 from rfl]; decide)
  obtain ⟨m4, e4⟩ : ∃ m, m = spl m3 14 (le 2 b1) := ⟨_, rfl⟩
  have n4 : m4.length = 512 := by rw [e4]; exact spl_len n3 (by rw [show (le 2 b1 : List Int).length = 2 from (le_length 2 _)]; decide)
  obtain ⟨m5, e5⟩ : ∃ m, m = spl m4 17 (le 2 0) := ⟨_, rfl⟩
  have n5 : m5.length = 512 := by rw [e5]; exact spl_len n4 (by rw [show (le 2 0 : List Int).length = 2 from (le_length 2 _)]; decide)
  obtain ⟨m6, e6⟩ : ∃ m, m = spl m5 19 (le 2 0) := ⟨_, rfl⟩
  have n6 : m6.length = 512 := by rw [e6]; exact spl_len n5 (by rw [show (le 2 0 : List Int).length = 2 from (le_length 2 _)]; decide)
  obtain ⟨m7, e7⟩ : ∃ m, m = spl m6 22 (le 2 0) := ⟨_, rfl⟩
  have n7 : m7.length = 512 := by rw [e7]; exact spl_len n6 (by rw [show (le 2 0 : List Int).length = 2 from (le_length 2 _)]; decide)
  obtain ⟨m8, e8⟩ : ∃ m, m = spl m7 32 (le 4 b3) := ⟨_, rfl⟩
  have n8 : m8.length = 512 := by rw [e8]; exact spl_len n7 (by rw [show (le 4 b3 : List Int).length = 4 from (le_length 4 _)]; decide)
  obtain ⟨m9, e9⟩ : ∃ m, m = spl m8 36 (le 4 b4) := ⟨_, rfl⟩
  have n9 : m9.length = 512 := by rw [e9]; exact spl_len n8 (by rw [show (le 4 b4 : List Int).length = 4 from (le_length 4 _)]; decide)
  obtain ⟨m10, e10⟩ : ∃ m, m = spl m9 40 (le 4 0) := ⟨_, rfl⟩
  have n10 : m10.length = 512 := by rw [e10]; exact spl_len n9 (by rw [show (le 4 0 : List Int).length = 4 from (le_length 4 _)]; decide)
  obtain ⟨m11, e11⟩ : ∃ m, m = spl m10 44 (le 4 b5) := ⟨_, rfl⟩
  have n11 : m11.length = 512 := by rw [e11]; exact spl_len n10 (by rw [show (le 4 b5 : List Int).length = 4 from (le_length 4 _)]; decide)
  obtain ⟨m12, e12⟩ : ∃ m, m = spl m11 48 (le 2 b6) := ⟨_, rfl⟩
  have n12 : m12.length = 512 := by rw [e12]; exact spl_len n11 (by rw [show (le 2 b6 : List Int).length = 2 from (le_length 2 _)]; decide)
  obtain ⟨m13, e13⟩ : ∃ m, m = spl m12 50 (le 2 b7) := ⟨_, rfl⟩
  have n13 : m13.length = 512 := by rw [e13]; exact spl_len n12 (by rw [show (le 2 b7 : List Int).length = 2 from (le_length 2 _)]; decide)
  obtain ⟨m14, e14⟩ : ∃ m, m = spl m13 82 ([70, 65, 84, 51, 50, 32, 32, 32]) := ⟨_, rfl⟩
  have n14 : m14.length = 512 := by rw [e14]; exact spl_len n13 (by rw [show ([70, 65, 84, 51, 50, 32, 32, 32] : List Int).length = 8 from rfl]; decide)
  obtain ⟨m15, e15⟩ : ∃ m, m = spl m14 510 ([85]) := ⟨_, rfl⟩
  have n15 : m15.length = 512 := by rw [e15]; exact spl_len n14 (by rw [show ([85] : List Int).length = 1 from rfl]; decide)
  obtain ⟨m16, e16⟩ : ∃ m, m = spl m15 511 ([170]) := ⟨_, rfl⟩
  have n16 : m16.length = 512 := by rw [e16]; exact spl_len n15 (by rw [show ([170] : List Int).length = 1 from rfl]; decide)
  rw [← e1, ← e2, ← e3, ← e4, ← e5, ← e6, ← e7, ← e8, ← e9, ← e10, ← e11, ← e12, ← e13, ← e14, ← e15, ← e16]
  exact ⟨by rw [e16, sub_ap (k := 1) n15 rfl (by decide) (by decide), e15, sub_ap (k := 1) n14 rfl (by decide) (by decide), e14, sub_ap (k := 8) n13 rfl (by decide) (by decide), e13, sub_ap (k := 2) n12 (le_length 2 _) (by decide) (by decide), e12, sub_ap (k := 2) n11 (le_length 2 _) (by decide) (by decide), e11, sub_ap (k := 4) n10 (le_length 4 _) (by decide) (by decide), e10, sub_ap (k := 4) n9 (le_length 4 _) (by decide) (by decide), e9, sub_ap (k := 4) n8 (le_length 4 _) (by decide) (by decide), e8, sub_ap (k := 4) n7 (le_length 4 _) (by decide) (by decide), e7, sub_ap (k := 2) n6 (le_length 2 _) (by decide) (by decide), e6, sub_ap (k := 2) n5 (le_length 2 _) (by decide) (by decide), e5, sub_ap (k := 2) n4 (le_length 2 _) (by decide) (by decide), e4, sub_ap (k := 2) n3 (le_length 2 _) (by decide) (by decide), e3, sub_ap (k := 1) n2 rfl (by decide) (by decide), e2, sub_ap (k := 1) n1 rfl (by decide) (by decide), e1, sub_sm (k := 2) h (le_length 2 _) (by decide)],
    by rw [e16, sub_ap (k := 1) n15 rfl (by decide) (by decide), e15, sub_ap (k := 1) n14 rfl (by decide) (by decide), e14, sub_ap (k := 8) n13 rfl (by decide) (by decide), e13, sub_ap (k := 2) n12 (le_length 2 _) (by decide) (by decide), e12, sub_ap (k := 2) n11 (le_length 2 _) (by decide) (by decide), e11, sub_ap (k := 4) n10 (le_length 4 _) (by decide) (by decide), e10, sub_ap (k := 4) n9 (le_length 4 _) (by decide) (by decide), e9, sub_ap (k := 4) n8 (le_length 4 _) (by decide) (by decide), e8, sub_ap (k := 4) n7 (le_length 4 _) (by decide) (by decide), e7, sub_ap (k := 2) n6 (le_length 2 _) (by decide) (by decide), e6, sub_ap (k := 2) n5 (le_length 2 _) (by decide) (by decide), e5, sub_ap (k := 2) n4 (le_length 2 _) (by decide) (by decide), e4, sub_ap (k := 2) n3 (le_length 2 _) (by decide) (by decide), e3, sub_ap (k := 1) n2 rfl (by decide) (by decide), e2, sub_sm (k := 1) n1 rfl (by decide)],
    by rw [e16, sub_ap (k := 1) n15 rfl (by decide) (by decide), e15, sub_ap (k := 1) n14 rfl (by decide) (by decide), e14, sub_ap (k := 8) n13 rfl (by decide) (by decide), e13, sub_ap (k := 2) n12 (le_length 2 _) (by decide) (by decide), e12, sub_ap (k := 2) n11 (le_length 2 _) (by decide) (by decide), e11, sub_ap (k := 4) n10 (le_length 4 _) (by decide) (by decide), e10, sub_ap (k := 4) n9 (le_length 4 _) (by decide) (by decide), e9, sub_ap (k := 4) n8 (le_length 4 _) (by decide) (by decide), e8, sub_ap (k := 4) n7 (le_length 4 _) (by decide) (by decide), e7, sub_ap (k := 2) n6 (le_length 2 _) (by decide) (by decide), e6, sub_ap (k := 2) n5 (le_length 2 _) (by decide) (by decide), e5, sub_ap (k := 2) n4 (le_length 2 _) (by decide) (by decide), e4, sub_ap (k := 2) n3 (le_length 2 _) (by decide) (by decide), e3, sub_sm (k := 1) n2 rfl (by decide)],
    by rw [e16, sub_ap (k := 1) n15 rfl (by decide) (by decide), e15, sub_ap (k := 1) n14 rfl (by decide) (by decide), e14, sub_ap (k := 8) n13 rfl (by decide) (by decide), e13, sub_ap (k := 2) n12 (le_length 2 _) (by decide) (by decide), e12, sub_ap (k := 2) n11 (le_length 2 _) (by decide) (by decide), e11, sub_ap (k := 4) n10 (le_length 4 _) (by decide) (by decide), e10, sub_ap (k := 4) n9 (le_length 4 _) (by decide) (by decide), e9, sub_ap (k := 4) n8 (le_length 4 _) (by decide) (by decide), e8, sub_ap (k := 4) n7 (le_length 4 _) (by decide) (by decide), e7, sub_ap (k := 2) n6 (le_length 2 _) (by decide) (by decide), e6, sub_ap (k := 2) n5 (le_length 2 _) (by decide) (by decide), e5, sub_ap (k := 2) n4 (le_length 2 _) (by decide) (by decide), e4, sub_sm (k := 2) n3 (le_length 2 _) (by decide)],
    by rw [e16, sub_ap (k := 1) n15 rfl (by decide) (by decide), e15, sub_ap (k := 1) n14 rfl (by decide) (by decide), e14, sub_ap (k := 8) n13 rfl (by decide) (by decide), e13, sub_ap (k := 2) n12 (le_length 2 _) (by decide) (by decide), e12, sub_ap (k := 2) n11 (le_length 2 _) (by decide) (by decide), e11, sub_ap (k := 4) n10 (le_length 4 _) (by decide) (by decide), e10, sub_ap (k := 4) n9 (le_length 4 _) (by decide) (by decide), e9, sub_ap (k := 4) n8 (le_length 4 _) (by decide) (by decide), e8, sub_ap (k := 4) n7 (le_length 4 _) (by decide) (by decide), e7, sub_ap (k := 2) n6 (le_length 2 _) (by decide) (by decide), e6, sub_ap (k := 2) n5 (le_length 2 _) (by decide) (by decide), e5, sub_sm (k := 2) n4 (le_length 2 _) (by decide)],
    by rw [e16, sub_ap (k := 1) n15 rfl (by decide) (by decide), e15, sub_ap (k := 1) n14 rfl (by decide) (by decide), e14, sub_ap (k := 8) n13 rfl (by decide) (by decide), e13, sub_ap (k := 2) n12 (le_length 2 _) (by decide) (by decide), e12, sub_ap (k := 2) n11 (le_length 2 _) (by decide) (by decide), e11, sub_ap (k := 4) n10 (le_length 4 _) (by decide) (by decide), e10, sub_ap (k := 4) n9 (le_length 4 _) (by decide) (by decide), e9, sub_ap (k := 4) n8 (le_length 4 _) (by decide) (by decide), e8, sub_ap (k := 4) n7 (le_length 4 _) (by decide) (by decide), e7, sub_ap (k := 2) n6 (le_length 2 _) (by decide) (by decide), e6, sub_sm (k := 2) n5 (le_length 2 _) (by decide)],
    by rw [e16, sub_ap (k := 1) n15 rfl (by decide) (by decide), e15, sub_ap (k := 1) n14 rfl (by decide) (by decide), e14, sub_ap (k := 8) n13 rfl (by decide) (by decide), e13, sub_ap (k := 2) n12 (le_length 2 _) (by decide) (by decide), e12, sub_ap (k := 2) n11 (le_length 2 _) (by decide) (by decide), e11, sub_ap (k := 4) n10 (le_length 4 _) (by decide) (by decide), e10, sub_ap (k := 4) n9 (le_length 4 _) (by decide) (by decide), e9, sub_ap (k := 4) n8 (le_length 4 _) (by decide) (by decide), e8, sub_ap (k := 4) n7 (le_length 4 _) (by decide) (by decide), e7, sub_sm (k := 2) n6 (le_length 2 _) (by decide)],
    by rw [e16, sub_ap (k := 1) n15 rfl (by decide) (by decide), e15, sub_ap (k := 1) n14 rfl (by decide) (by decide), e14, sub_ap (k := 8) n13 rfl (by decide) (by decide), e13, sub_ap (k := 2) n12 (le_length 2 _) (by decide) (by decide), e12, sub_ap (k := 2) n11 (le_length 2 _) (by decide) (by decide), e11, sub_ap (k := 4) n10 (le_length 4 _) (by decide) (by decide), e10, sub_ap (k := 4) n9 (le_length 4 _) (by decide) (by decide), e9, sub_ap (k := 4) n8 (le_length 4 _) (by decide) (by decide), e8, sub_sm (k := 4) n7 (le_length 4 _) (by decide)],
    by rw [e16, sub_ap (k := 1) n15 rfl (by decide) (by decide), e15, sub_ap (k := 1) n14 rfl (by decide) (by decide), e14, sub_ap (k := 8) n13 rfl (by decide) (by decide), e13, sub_ap (k := 2) n12 (le_length 2 _) (by decide) (by decide), e12, sub_ap (k := 2) n11 (le_length 2 _) (by decide) (by decide), e11, sub_ap (k := 4) n10 (le_length 4 _) (by decide) (by decide), e10, sub_ap (k := 4) n9 (le_length 4 _) (by decide) (by decide), e9, sub_sm (k := 4) n8 (le_length 4 _) (by decide)],
    by rw [e16, sub_ap (k := 1) n15 rfl (by decide) (by decide), e15, sub_ap (k := 1) n14 rfl (by decide) (by decide), e14, sub_ap (k := 8) n13 rfl (by decide) (by decide), e13, sub_ap (k := 2) n12 (le_length 2 _) (by decide) (by decide), e12, sub_ap (k := 2) n11 (le_length 2 _) (by decide) (by decide), e11, sub_ap (k := 4) n10 (le_length 4 _) (by decide) (by decide), e10, sub_sm (k := 4) n9 (le_length 4 _) (by decide)],
    by rw [e16, sub_ap (k := 1) n15 rfl (by decide) (by decide), e15, sub_ap (k := 1) n14 rfl (by decide) (by decide), e14, sub_ap (k := 8) n13 rfl (by decide) (by decide), e13, sub_ap (k := 2) n12 (le_length 2 _) (by decide) (by decide), e12, sub_ap (k := 2) n11 (le_length 2 _) (by decide) (by decide), e11, sub_sm (k := 4) n10 (le_length 4 _) (by decide)],
    by rw [e16, sub_ap (k := 1) n15 rfl (by decide) (by decide), e15, sub_ap (k := 1) n14 rfl (by decide) (by decide), e14, sub_ap (k := 8) n13 rfl (by decide) (by decide), e13, sub_ap (k := 2) n12 (le_length 2 _) (by decide) (by decide), e12, sub_sm (k := 2) n11 (le_length 2 _) (by decide)],
    by rw [e16, sub_ap (k := 1) n15 rfl (by decide) (by decide), e15, sub_ap (k := 1) n14 rfl (by decide) (by decide), e14, sub_ap (k := 8) n13 rfl (by decide) (by decide), e13, sub_sm (k := 2) n12 (le_length 2 _) (by decide)],
    by rw [e16, sub_ap (k := 1) n15 rfl (by decide) (by decide), e15, sub_ap (k := 1) n14 rfl (by decide) (by decide), e14, sub_sm (k := 8) n13 rfl (by decide)],
    by rw [e16, sub_ap (k := 1) n15 rfl (by decide) (by decide), e15, sub_sm (k := 1) n14 rfl (by decide)],
    by rw [e16, sub_sm (k := 1) n15 rfl (by decide)]⟩
structure CountSub (m : List Int) (free next : Int) : Prop where
  c0 : sub m 0 4 = le 4 1096897106
  c1 : sub m 484 4 = le 4 1631679090
  c2 : sub m 488 4 = le 4 free
  c3 : sub m 492 4 = le 4 next
  c4 : sub m 508 4 = le 4 2857697280
theorem zeros_length (n : Nat) : (zeros n).length = n := by simp [zeros]
theorem count_sub (free next : Int) : CountSub (countBytes free next) free next := by
  unfold countBytes
  obtain ⟨m1, e1⟩ : ∃ m, m = spl (zeros 512) 0 (le 4 1096897106) := ⟨_, rfl⟩
  have n1 : m1.length = 512 := by rw [e1]; exact spl_len (zeros_length 512) (by rw [show (le 4 1096897106 : List Int).length = 4 from (le_length 4 _)]; decide)
  obtain ⟨m2, e2⟩ : ∃ m, m = spl m1 484 (le 4 1631679090) := ⟨_, rfl⟩
  have n2 : m2.length = 512 := by rw [e2]; exact spl_len n1 (by rw [show (le 4 1631679090 : List Int).length = 4 from (le_length 4 _)]; decide)
  obtain ⟨m3, e3⟩ : ∃ m, m = spl m2 488 (le 4 free) := ⟨_, rfl⟩
  have n3 : m3.length = 512 := by rw [e3]; exact spl_len n2 (by rw [show (le 4 free : List Int).length = 4 from (le_length 4 _)]; decide)
  obtain ⟨m4, e4⟩ : ∃ m, m = spl m3 492 (le 4 next) := ⟨_, rfl⟩
  have n4 : m4.length = 512 := by rw [e4]; exact spl_len n3 (by rw [show (le 4 next : List Int).length = 4 from (le_length 4 _)]; decide)
  obtain ⟨m5, e5⟩ : ∃ m, m = spl m4 508 (le 4 2857697280) := ⟨_, rfl⟩
  have n5 : m5.length = 512 := by rw [e5]; exact spl_len n4 (by rw [show (le 4 2857697280 : List Int).length = 4 from (le_length 4 _)]; decide)
  rw [← e1, ← e2, ← e3, ← e4, ← e5]
  exact ⟨by rw [e5, sub_ap (k := 4) n4 (le_length 4 _) (by decide) (by decide), e4, sub_ap (k := 4) n3 (le_length 4 _) (by decide) (by decide), e3, sub_ap (k := 4) n2 (le_length 4 _) (by decide) (by decide), e2, sub_ap (k := 4) n1 (le_length 4 _) (by decide) (by decide), e1, sub_sm (k := 4) (zeros_length 512) (le_length 4 _) (by decide)],
    by rw [e5, sub_ap (k := 4) n4 (le_length 4 _) (by decide) (by decide), e4, sub_ap (k := 4) n3 (le_length 4 _) (by decide) (by decide), e3, sub_ap (k := 4) n2 (le_length 4 _) (by decide) (by decide), e2, sub_sm (k := 4) n1 (le_length 4 _) (by decide)],
    by rw [e5, sub_ap (k := 4) n4 (le_length 4 _) (by decide) (by decide), e4, sub_ap (k := 4) n3 (le_length 4 _) (by decide) (by decide), e3, sub_sm (k := 4) n2 (le_length 4 _) (by decide)],
    by rw [e5, sub_ap (k := 4) n4 (le_length 4 _) (by decide) (by decide), e4, sub_sm (k := 4) n3 (le_length 4 _) (by decide)],
    by rw [e5, sub_sm (k := 4) n4 (le_length 4 _) (by decide)]⟩
/-- Numbers that a first sector can say. -/
structure Fits8 (b : Boot) : Prop where
  f0 : 0 ≤ b.b0 ∧ b.b0 < 256
  f1 : 0 ≤ b.b1 ∧ b.b1 < 65536
  f2 : 0 ≤ b.b2 ∧ b.b2 < 256
  f3 : 0 ≤ b.b3 ∧ b.b3 < 4294967296
  f4 : 0 ≤ b.b4 ∧ b.b4 < 4294967296
  f5 : 0 ≤ b.b5 ∧ b.b5 < 4294967296
  f6 : 0 ≤ b.b6 ∧ b.b6 < 65536
  f7 : 0 ≤ b.b7 ∧ b.b7 < 65536
theorem good_fits {b : Boot} (h : Good b) : Fits8 b := by
  obtain ⟨e0, e1, pw, t0, t1, s0, s1, l0, l1, a0, a1, i0, i1, c0, c1, ci, dat, d1, clu, n0, n1, r0, r1⟩ := h
  exact ⟨⟨by omega, by omega⟩, ⟨by omega, by omega⟩, ⟨by omega, by omega⟩, ⟨by omega, by omega⟩, ⟨by omega, by omega⟩, ⟨by omega, by omega⟩, ⟨by omega, by omega⟩, ⟨by omega, by omega⟩⟩
theorem num_le2 (v : Int) (h0 : 0 ≤ v) (h1 : v < 65536) : num (le 2 v) = v := by rw [num_le, show (256 : Int) ^ 2 = 65536 by decide]; omega
theorem num_le4 (v : Int) (h0 : 0 ≤ v) (h1 : v < 4294967296) : num (le 4 v) = v := by rw [num_le, show (256 : Int) ^ 4 = 4294967296 by decide]; omega
/-- What is parsed of a sector that a boot was written into. -/
theorem boot_back (b : Boot) (hf : Fits8 b) (m : List Int) (h : BootSub m b.b0 b.b1 b.b2 b.b3 b.b4 b.b5 b.b6 b.b7) : bootOf m = b ∧ magicOk m = true ∧ formOk m = true := by
  obtain ⟨f0, f1, f2, f3, f4, f5, f6, f7⟩ := hf
  have r13 := rd_sub1 m 13 _ h.q13
  have r16 := rd_sub1 m 16 _ h.q16
  have r510 := rd_sub1 m 510 _ h.q510
  have r511 := rd_sub1 m 511 _ h.q511
  simp only [show ((13 : Nat) : Int) = 13 from rfl, show ((16 : Nat) : Int) = 16 from rfl, show ((510 : Nat) : Int) = 510 from rfl, show ((511 : Nat) : Int) = 511 from rfl] at r13 r16 r510 r511
  refine ⟨?_, ?_, ?_⟩
  · unfold bootOf
    rw [r13, r16, h.q14, h.q32, h.q36, h.q44, h.q48, h.q50, num_le2 _ f1.1 f1.2, num_le4 _ f3.1 f3.2, num_le4 _ f4.1 f4.2, num_le4 _ f5.1 f5.2, num_le2 _ f6.1 f6.2, num_le2 _ f7.1 f7.2, show b.b0 % 256 = b.b0 by omega, show b.b2 % 256 = b.b2 by omega]
  · unfold magicOk
    rw [r510, r511, h.q82]; rfl
  · unfold formOk
    rw [h.q11, h.q17, h.q19, h.q22, h.q40]; decide
theorem parse_back (b : Boot) (hg : ckB b = 0) (m : List Int) (h : BootSub m b.b0 b.b1 b.b2 b.b3 b.b4 b.b5 b.b6 b.b7) : parseS m (ckB (bootOf m)) = (b, 0) := by
  obtain ⟨h1, h2, h3⟩ := boot_back b (good_fits (ck_good hg)) m h
  unfold parseS
  rw [if_neg (by rw [h2]; decide), if_neg (by rw [h3]; decide), h1, if_pos hg]
theorem counts_back (free next : Int) (f0 : 0 ≤ free) (f1 : free < 4294967296) (g0 : 0 ≤ next) (g1 : next < 4294967296) : countsS (countBytes free next) = ((free, next), 0) := by
  have h := count_sub free next
  unfold countsS
  rw [h.c0, h.c1, h.c2, h.c3, h.c4, num_le4 _ f0 f1, num_le4 _ g0 g1, if_pos ⟨countBytes_length _ _, by decide, by decide, by decide⟩]
end Go.Proofs.Ytfgeeigfbkiibaa.X
/-
  DERIVED: THE SHELF's CONTRACTS AT THIS DUMP, IN PLAIN WORDS (tools/lay-plain.mjs out of 'YtfgeeigfbkiibaaXSrt.lean', which tools/lay-shelf.mjs wrote): THE SAME DECLARATIONS UNDER THE SAME NAMES: 'import', 'namespace', 'open', 'def', 'theorem' AND NOTHING ELSE: no command of the shelf's: FOR A HAND-IN. Each laying: the table of numbers ('.._ren') and one theorem, a field a fact of the dump's own or the kernel's comparison; each contract: ONE APPLICATION.
-/
namespace Go.Proofs
open Go.Shelf
def Try.sortExt_ren : Go.Shelf.Ren := ⟨fun | 6 => 63 | 15 => 69 | 14 => 68 | 28 => 80 | 29 => 81 | 20 => 72 | 21 => 73 | 22 => 74 | 23 => 75 | 24 => 76 | 25 => 77 | 26 => 78 | 27 => 79 | 46 => 82 | 47 => 83 | 48 => 84 | 49 => 85 | 50 => 86 | 57 => 87 | n => n, fun | 22 => 52 | 24 => 86 | 25 => 120 | 3 => 3 | 39 => 124 | 0 => 0 | 53 => 91 | 55 => 59 | 4 => 4 | 46 => 129 | 45 => 128 | 50 => 133 | 5 => 5 | 9 => 9 | 66 => 137 | 70 => 141 | 76 => 143 | 77 => 144 | n => n, fun | n => n⟩
theorem Try.sortExt : Go.Proofs.SlLaysF0.n6 Try.prog Try.sortExt_ren := {
  mixed := by kernel_rfl
  f6 := ⟨Try.f63.name, by decide, Try.func63.trans (congrArg some (by kernel_rfl))⟩
  f14 := ⟨Try.f68.name, by decide, Try.func68.trans (congrArg some (by kernel_rfl))⟩
  f15 := Try.func69.trans (congrArg some (by kernel_rfl))
  f20 := ⟨Try.f72.name, by decide, Try.func72.trans (congrArg some (by kernel_rfl))⟩
  f21 := ⟨Try.f73.name, by decide, Try.func73.trans (congrArg some (by kernel_rfl))⟩
  f22 := ⟨Try.f74.name, by decide, Try.func74.trans (congrArg some (by kernel_rfl))⟩
  f23 := ⟨Try.f75.name, by decide, Try.func75.trans (congrArg some (by kernel_rfl))⟩
  f24 := ⟨Try.f76.name, by decide, Try.func76.trans (congrArg some (by kernel_rfl))⟩
  f25 := ⟨Try.f77.name, by decide, Try.func77.trans (congrArg some (by kernel_rfl))⟩
  f26 := ⟨Try.f78.name, by decide, Try.func78.trans (congrArg some (by kernel_rfl))⟩
  f27 := ⟨Try.f79.name, by decide, Try.func79.trans (congrArg some (by kernel_rfl))⟩
  f28 := Try.func80.trans (congrArg some (by kernel_rfl))
  f29 := Try.func81.trans (congrArg some (by kernel_rfl))
  f46 := ⟨Try.f82.name, by decide, Try.func82.trans (congrArg some (by kernel_rfl))⟩
  f47 := Try.func83.trans (congrArg some (by kernel_rfl))
  f48 := Try.func84.trans (congrArg some (by kernel_rfl))
  f49 := ⟨Try.f85.name, by decide, Try.func85.trans (congrArg some (by kernel_rfl))⟩
  f50 := ⟨Try.f86.name, by decide, Try.func86.trans (congrArg some (by kernel_rfl))⟩
  f57 := ⟨Try.f87.name, by decide, Try.func87.trans (congrArg some (by kernel_rfl))⟩
  t0 := Try.underlying0
  a0 := Try.isAgg0
  z0 := Try.sizeOf0
  v0 := Try.zeroValue0
  t3 := Try.underlying3
  a3 := Try.isAgg3
  z3 := Try.sizeOf3
  v3 := Try.zeroValue3
  t4 := Try.underlying4
  a4 := Try.isAgg4
  z4 := Try.sizeOf4
  v4 := Try.zeroValue4
  t5 := Try.underlying5
  a5 := Try.isAgg5
  z5 := Try.sizeOf5
  v5 := Try.zeroValue5
  t9 := Try.underlying9
  a9 := Try.isAgg9
  z9 := Try.sizeOf9
  v9 := Try.zeroValue9
  t22 := Try.underlying52
  a22 := Try.isAgg52
  z22 := Try.sizeOf52
  v22 := Try.zeroValue52
  t25 := Try.underlying120
  a25 := Try.isAgg120
  z25 := Try.sizeOf120
  v25 := Try.zeroValue120
  t39 := Try.underlying124
  a39 := Try.isAgg124
  z39 := Try.sizeOf124
  v39 := Try.zeroValue124
  t45 := Try.underlying128
  a45 := Try.isAgg128
  z45 := Try.sizeOf128
  v45 := Try.zeroValue128
  t46 := Try.underlying129
  a46 := Try.isAgg129
  z46 := Try.sizeOf129
  v46 := Try.zeroValue129
  t50 := Try.underlying133
  a50 := Try.isAgg133
  z50 := Try.sizeOf133
  v50 := Try.zeroValue133
  t53 := Try.underlying91
  a53 := Try.isAgg91
  z53 := Try.sizeOf91
  v53 := Try.zeroValue91
  t55 := Try.underlying59
  a55 := Try.isAgg59
  z55 := Try.sizeOf59
  v55 := Try.zeroValue59
  t66 := Try.underlying137
  a66 := Try.isAgg137
  z66 := Try.sizeOf137
  v66 := Try.zeroValue137
  t70 := Try.underlying141
  a70 := Try.isAgg141
  z70 := Try.sizeOf141
  v70 := Try.zeroValue141
  t76 := Try.underlying143
  a76 := Try.isAgg143
  z76 := Try.sizeOf143
  v76 := Try.zeroValue143
  t77 := Try.underlying144
  a77 := Try.isAgg144
  z77 := Try.sizeOf144
  v77 := Try.zeroValue144 }
end Go.Proofs
namespace Go.Proofs.Ytfgeeigfbkiibaa.X
open Go.RowKit Go.Proofs.YtfgeeigfbkiibaaW.PrintWords Go.Proofs.YtfgeeigfbkiibaaW.PrintLast Go.Proofs.YtfgeeigfbkiibaaW.PrintMore
open Go.Proofs.Ytfgeeigfbkiibaa.XFat
set_option linter.unusedVariables false
set_option linter.unusedSimpArgs false
theorem Read_short (A0 : Option Addr) (c0 n0 : Nat) (w : World) (h : n0 < 512) :
    Calls Try.prog 104 #[.slice A0 n0 c0, .int .i64 0, .int .i64 512] w fun e w' => e = .returned (.tuple #[.slice none 0 0, .int .i64 4]) ∧ Below w.heap.size w w' :=
  Read_no A0 c0 n0 0 512 w (by omega) (by omega) (by omega) (by omega)
set_option maxHeartbeats 4000000 in
set_option maxRecDepth 100000 in
theorem open_short (A0 : Option Addr) (n c0 : Nat) (w : World) (h : n < 512) :
    Calls Try.prog 22 #[.iface 51 (.slice A0 n c0)] w fun e w' => e = .returned (.tuple #[.pointer none, .int .i64 4]) ∧ Below w.heap.size w w' := by
  have mr := method_read A0 n c0
  go_enter Try.func22, Try.ntmps22
  go_wp2_with (go_at_call 104; refine (Read_short _ _ _ _ h).mono ?_; rintro e w' ⟨rfl, hb⟩)
  go_ret2
  exact ⟨rfl, hb⟩
set_option maxHeartbeats 4000000 in
set_option maxRecDepth 100000 in
theorem open_nil (w : World) :
    Calls Try.prog 22 #[Value.nilIface] w fun e w' => e = .returned (.tuple #[.pointer none, .int .i64 2]) ∧ w = w' := by
  go_enter Try.func22, Try.ntmps22
  go_wp2
  go_ret2
  exact ⟨rfl, rfl⟩
set_option maxHeartbeats 4000000 in
set_option maxRecDepth 100000 in
theorem open_go (A0 : Option Addr) (c0 : Nat) (l : List Int) (w : World) (hr0 : Kd.C (Kd.int .u8) w A0 l.length l) (hc0 : l.length ≤ c0) (hl : l.length < 140737488355328) (h : 512 ≤ l.length) (hib : IsB l) :
    Calls Try.prog 22 #[.iface 51 (.slice A0 l.length c0)] w fun e w' => OpenPost l w e w' := by
  have mr := method_read A0 l.length c0
  have ms := method_size A0 l.length c0
  have R1 := Aside0.mk (Read_yes A0 c0 l 0 512 w hr0 hc0 hl (by omega))
  have HI : Aside0 (IsB (sub l 0 512)) := ⟨sub_isB hib _ _⟩
  have HN : Aside0 ((sub l 0 512).length = 512) := ⟨by rw [sub, List.length_take, List.length_drop]; omega⟩
  have HIB := Aside0.mk hib
  have H512 := Aside0.mk h
  have R0 := Aside0.mk hr0
  have HC0 := Aside0.mk hc0
  have HL := Aside0.mk hl
  clear hr0
  go_enter Try.func22, Try.ntmps22
  go_wp2_with (go_at_call 104; refine R1.out.mono ?_; rintro e w1 ⟨v0, rfl, ho, hb⟩)
  obtain ⟨g, cap, rfl, hg1, hg2, _⟩ := Kd.R_form ho (by rw [HN.out]; decide)
  rw [HN.out] at ho ⊢
  have HO := Aside0.mk ho
  have HB := Aside0.mk hb
  clear ho hb
  refine (parse_go g cap w.heap.size (sub l 0 512) (ckB (bootOf (sub l 0 512))) w1 HO.out HI.out (fun _ _ W => Check_calls _ W)).mono ?_
  rintro e w2 ⟨rfl, hb⟩
  replace HO := Aside0.mk (HO.out.below hb)
  replace HB := Aside0.mk (below_step HB.out hb)
  have HW2 : Aside0 (w.heap.size ≤ w2.heap.size) := ⟨below_size HB.out⟩
  clear hb
  generalize hp : parseS (sub l 0 512) (ckB (bootOf (sub l 0 512))) = p
  obtain ⟨⟨b0, b1, b2, b3, b4, b5, b6, b7⟩, e⟩ := p
  simp only [Boot.val]
  have HP := Aside0.mk hp
  clear hp
  by_cases he : e = 0
  rotate_left
  · have h1 : (e == 0) = false := by simp [he]
    have h2 : (e != 0) = true := by simp [he]
    go_wp2
    go_ret2
    exact .no (openS_e H512.out HP.out he) (by first | exact HB.out | exact below_drew1 HB.out | exact below_alloc HB.out _ | exact below_drew1 (below_alloc HB.out _))
  · subst he
    go_wp2_with fail
    have hgd := parse_good HP.out
    have HG : Aside0 (Good ⟨b0, b1, b2, b3, b4, b5, b6, b7⟩) := ⟨hgd.2.2⟩
    have HBo : Aside0 ((⟨b0, b1, b2, b3, b4, b5, b6, b7⟩ : Boot) = bootOf (sub l 0 512)) := ⟨hgd.1⟩
    clear hgd
    have HX : Aside0 ((w2.alloc (.cells #[.int .i64 b0, .int .i64 b1, .int .i64 b2, .int .i64 b3, .int .i64 b4, .int .i64 b5, .int .i64 b6, .int .i64 b7] 23)).heap[w2.heap.size]? = some (.cells #[.int .i64 b0, .int .i64 b1, .int .i64 b2, .int .i64 b3, .int .i64 b4, .int .i64 b5, .int .i64 b6, .int .i64 b7] 23 (0, 0))) := ⟨blk_new w2 _⟩
    replace HO := Aside0.mk (HO.out.below (below_alloc (Below.refl _ _) (.cells #[.int .i64 b0, .int .i64 b1, .int .i64 b2, .int .i64 b3, .int .i64 b4, .int .i64 b5, .int .i64 b6, .int .i64 b7] 23)))
    replace HB := Aside0.mk (below_alloc HB.out (.cells #[.int .i64 b0, .int .i64 b1, .int .i64 b2, .int .i64 b3, .int .i64 b4, .int .i64 b5, .int .i64 b6, .int .i64 b7] 23))
    have HS0 : Aside0 (w2.heap.size < (w2.alloc (.cells #[.int .i64 b0, .int .i64 b1, .int .i64 b2, .int .i64 b3, .int .i64 b4, .int .i64 b5, .int .i64 b6, .int .i64 b7] 23)).heap.size ∧ w.heap.size ≤ w2.heap.size) := ⟨blk_lt HX.out, HW2.out⟩
    generalize w2.alloc (.cells #[.int .i64 b0, .int .i64 b1, .int .i64 b2, .int .i64 b3, .int .i64 b4, .int .i64 b5, .int .i64 b6, .int .i64 b7] 23) = w3 at *
    generalize w2.heap.size = gb at *
    clear w2
    have q3 : w3.cell? ⟨gb, 3, none⟩ = some (.int .i64 b3) := (blk_cell HX.out 3).trans rfl
    go_region_held3 (fun w' => w'.cell? ⟨gb, 3, none⟩ = some (.int .i64 b3)) (go_keep) ((go_at_call 105; refine (Size_calls _ _ _ _).mono ?_; rintro e w' ⟨rfl, rfl⟩))
    replace HX := Aside0.mk (blk_drew HX.out)
    replace HO := Aside0.mk (HO.out.below (below_drew1 (Below.refl _ _)))
    replace HB := Aside0.mk (below_drew1 HB.out)
    replace HS0 : Aside0 (gb < w3.drew.heap.size ∧ w.heap.size ≤ gb) := ⟨HS0.out⟩
    have hW : IntKind.i64.wrap ((l.length : Int) / 512) = ((l.length / 512 : Nat) : Int) := by rw [iw (by omega) (by omega)]; omega
    clear q3
    generalize w3.drew = w4 at *
    clear w3
    by_cases hsz : ((l.length / 512 : Nat) : Int) < b3
    · have HSZ0 := Aside0.mk hsz
      go_wp2_with fail
      go_ret2
      exact .no (openS_sz H512.out HP.out rfl HSZ0.out) HB.out
    have HNZ := Aside0.mk hsz
    have HSZ : Aside0 (b3 * 512 ≤ l.length) := ⟨by omega⟩
    have q7 : w4.cell? ⟨gb, 7, none⟩ = some (.int .i64 b7) := (blk_cell HX.out 7).trans rfl
    go_upto_if 38 with (fail)
    go_cut [] (fun wc => Aside0 (wc.heap[gb]? = some (.cells #[.int .i64 b0, .int .i64 b1, .int .i64 b2, .int .i64 b3, .int .i64 b4, .int .i64 b5, .int .i64 b6, .int .i64 b7] 23 (0, 0))) ∧ Aside0 (Own wc w.heap.size (.slice (some ⟨g, 0, none⟩) 512 cap) (sub l 0 512)) ∧ Aside0 (Below w.heap.size w wc) ∧ Aside0 (b7 ≠ 0 → sub l (512 * b7.toNat) 512 = sub l 0 512))
    case first =>
      by_cases hc : b7 = 0
      · subst hc
        go_wp2_with fail
        go_meet
        exact ⟨HX, HO, HB, ⟨fun h => absurd rfl h⟩⟩
      · have hc1 : (b7 == 0) = false := by simp [hc]
        have hc2 : (b7 != 0) = true := by simp [hc]
        obtain ⟨B7, rfl⟩ := Int.eq_ofNat_of_zero_le HG.out.c0
        have HR : Aside0 (512 * B7 + 512 ≤ l.length) := ⟨by have := HG.out; have h1 := this.c1; have h2 := this.d1; have h3 := HSZ.out; have h4 := Int.mul_nonneg (show 0 ≤ b2 by have := this.t0; simp only at this; omega) (show 0 ≤ b4 by have := this.l0; simp only at this; omega); simp only at h1 h2; omega⟩
        have W7 : IntKind.i64.wrap ((B7 : Int) * 512) = ((512 * B7 : Nat) : Int) := by have := HR.out; have := HL.out; rw [iw (by omega) (by omega)]; omega
        have R2 := Aside0.mk (Read_yes A0 c0 l (512 * B7) 512 w4 (Kd.C_below R0.out HB.out) HC0.out HL.out HR.out)
        go_wp2_with (go_at_call 104; refine R2.out.mono ?_; rintro e w5 ⟨v5, rfl, ho, hb⟩; obtain ⟨A5, c5, rfl⟩ := ho.slice; have HN5 : Aside0 ((sub l (512 * B7) 512).length = 512) := ⟨by rw [sub, List.length_take, List.length_drop]; have := HR.out; omega⟩; replace HX := Aside0.mk (box_below HX.out hb); replace HO := Aside0.mk (HO.out.below hb); replace HB := Aside0.mk (below_step HB.out hb); have cv5 : (convert 24 9 (.slice A5 (sub l (512 * B7) 512).length c5)).run Try.prog w5 = .ok (.string (strOfNums (sub l (512 * B7) 512))) w5 := Kd.C_string Try.underlying24 Try.underlying5 Try.underlying9 ho.reads; have cv4 : (convert 24 9 (.slice (some ⟨g, 0, none⟩) (sub l 0 512).length cap)).run Try.prog w5 = .ok (.string (strOfNums (sub l 0 512))) w5 := Kd.C_string Try.underlying24 Try.underlying5 Try.underlying9 HO.out.reads; rw [HN5.out] at cv5; rw [HN.out] at cv4; rw [HN5.out]; generalize hs4 : strOfNums (sub l 0 512) = s4 at cv4; generalize hs5 : strOfNums (sub l (512 * B7) 512) = s5 at cv5; have HS4 := Aside0.mk hs4; have HS5 := Aside0.mk hs5; clear hs4 hs5 hb ho)
        · go_ret2
          have he := (by assumption : (!s5.toList == s4.toList) = true)
          rw [← HS4.out, ← HS5.out, str_eq _ _ (sub_isB HIB.out _ _) (sub_isB HIB.out _ _)] at he
          exact .no (openS_cp H512.out HP.out rfl (Int.not_lt.mpr HNZ.out) ⟨hc, by simpa using he⟩) HB.out
        · go_meet
          have he := (by assumption : (!s5.toList == s4.toList) = false)
          refine ⟨HX, HO, HB, ⟨fun _ => ?_⟩⟩
          rw [← HS4.out, ← HS5.out, str_eq _ _ (sub_isB HIB.out _ _) (sub_isB HIB.out _ _)] at he
          simpa using he
    case rest =>
      obtain ⟨HX, HO, HB, HC7⟩ := hcut
      clear q7 hW HS0 hc0 hl
      have y0 : wc.cell? ⟨gb, 0, none⟩ = some (.int .i64 b0) := (blk_cell HX.out 0).trans rfl
      have y1 : wc.cell? ⟨gb, 1, none⟩ = some (.int .i64 b1) := (blk_cell HX.out 1).trans rfl
      have y2 : wc.cell? ⟨gb, 2, none⟩ = some (.int .i64 b2) := (blk_cell HX.out 2).trans rfl
      have y3 : wc.cell? ⟨gb, 3, none⟩ = some (.int .i64 b3) := (blk_cell HX.out 3).trans rfl
      have y4 : wc.cell? ⟨gb, 4, none⟩ = some (.int .i64 b4) := (blk_cell HX.out 4).trans rfl
      have y5 : wc.cell? ⟨gb, 5, none⟩ = some (.int .i64 b5) := (blk_cell HX.out 5).trans rfl
      have y6 : wc.cell? ⟨gb, 6, none⟩ = some (.int .i64 b6) := (blk_cell HX.out 6).trans rfl
      have y7 : wc.cell? ⟨gb, 7, none⟩ = some (.int .i64 b7) := (blk_cell HX.out 7).trans rfl
      obtain ⟨B6, rfl⟩ := Int.eq_ofNat_of_zero_le (show 0 ≤ b6 by have := HG.out.i0; simp only at this; omega)
      have HR : Aside0 (512 * B6 + 512 ≤ l.length) := ⟨by have := HG.out; have h1 := this.i1; have h2 := this.d1; have h3 := HSZ.out; have h4 := Int.mul_nonneg (show 0 ≤ b2 by have := this.t0; simp only at this; omega) (show 0 ≤ b4 by have := this.l0; simp only at this; omega); simp only at h1 h2; omega⟩
      have W6 : IntKind.i64.wrap ((B6 : Int) * 512) = ((512 * B6 : Nat) : Int) := by have := HR.out; have := HL.out; rw [iw (by omega) (by omega)]; omega
      have z6 : ∀ o, (wc.alloc o).cell? ⟨gb, 6, none⟩ = some (.int .i64 (B6 : Int)) := fun o => (blk_cell (blk_alloc HX.out o) 6).trans rfl
      have HV0 : Aside0 (∀ o, (wc.alloc o).heap[wc.heap.size]? = some o ∧ Below w.heap.size w (wc.alloc o)) := ⟨fun o => ⟨blk_new wc o, below_alloc HB.out o⟩⟩
      have HGV : Aside0 (w.heap.size ≤ wc.heap.size) := ⟨below_size HB.out⟩
      have R3 : Aside0 (∀ o, _) := ⟨fun o => Read_yes A0 c0 l (512 * B6) 512 (wc.alloc o) (Kd.C_below R0.out (below_alloc HB.out o)) HC0.out HL.out HR.out⟩
      have HN6 : Aside0 ((sub l (512 * B6) 512).length = 512) := ⟨by rw [sub, List.length_take, List.length_drop]; have := HR.out; omega⟩
      go_wp2_with (go_at_call 104; refine (R3.out _).mono ?_; rintro e w6 ⟨v6, rfl, ho, hb⟩; have HV := Aside0.mk (box_below (HV0.out _).1 hb); replace HB := Aside0.mk (below_step (HV0.out _).2 hb); have HO6 := Aside0.mk ho; clear hb ho)
      obtain ⟨A6, c6, rfl⟩ := HO6.out.slice
      rw [HN6.out] at HO6 ⊢
      refine (ParseCounts_calls HO6.out (sub_isB HIB.out _ _)).mono ?_
      rintro e w7 ⟨rfl, hb7⟩
      replace HV := Aside0.mk (box_below HV.out hb7)
      replace HB := Aside0.mk (below_step HB.out hb7)
      clear hb7 HO6
      obtain ⟨gv, hgv⟩ : ∃ gv, gv = wc.heap.size := ⟨_, rfl⟩
      rw [← hgv] at HV HGV ⊢
      generalize hcs : countsS (sub l (512 * B6) 512) = cs
      obtain ⟨⟨f, nx⟩, ec⟩ := cs
      have HCS : Aside0 (countsS (sub l (512 * (B6 : Int).toNat) 512) = ((f, nx), ec)) := ⟨by rw [Int.toNat_natCast]; exact hcs⟩
      clear hcs
      have f9 : w7.frozen? ⟨gv, 9, none⟩ = false := blk_frozen HV.out 9
      have f10 : w7.frozen? ⟨gv, 10, none⟩ = false := blk_frozen HV.out 10
      have p9 : w7.cell? ⟨gv, 9, none⟩ = some (.int .i64 0) := (blk_cell HV.out 9).trans rfl
      have p10 : w7.cell? ⟨gv, 10, none⟩ = some (.int .i64 0) := (blk_cell HV.out 10).trans rfl
      have hgvb := HGV.out
      have HB9 := Aside0.mk (below_set (j := 10) (v := .int .i64 nx) (below_set (j := 9) (v := .int .i64 f) HB.out hgvb) hgvb)
      clear hgvb hgv
      have hv9 := blk_put (cs' := #[.int .i64 b0, .int .i64 b1, .int .i64 b2, .int .i64 b3, .int .i64 b4, .int .i64 b5, .int .i64 (B6 : Int), .int .i64 b7, .slice none 0 0, .int .i64 f, .int .i64 0]) HV.out 9 (.int .i64 f) rfl
      have HV9 := Aside0.mk (blk_put (cs' := #[.int .i64 b0, .int .i64 b1, .int .i64 b2, .int .i64 b3, .int .i64 b4, .int .i64 b5, .int .i64 (B6 : Int), .int .i64 b7, .slice none 0 0, .int .i64 f, .int .i64 nx]) hv9 10 (.int .i64 nx) rfl)
      clear hv9
      by_cases hec : ec = 0
      rotate_left
      · have h1 : (ec == 0) = false := by simp [hec]
        have h2 : (ec != 0) = true := by simp [hec]
        have HE := Aside0.mk hec
        go_wp2
        go_ret2
        exact .no (openS_c H512.out HP.out HCS.out rfl (Int.not_lt.mpr HNZ.out) (fun h => h.2 (HC7.out h.1)) HE.out) HB9.out
      · subst hec
        have HT := Aside0.mk (table_go gv b0 b1 b2 b3 b4 b5 (B6 : Int) b7 f nx A0 c0 l w _ HB9.out HGV.out HV9.out R0.out HC0.out HL.out HIB.out HG.out HSZ.out)
        go_wp2_with fail
        refine HT.out.mono ?_
        rintro e w8 ⟨hb8, _, h8⟩
        have HB8 := Aside0.mk hb8
        rcases h8 with ⟨hcond, rfl⟩ | ⟨hcond, rfl, gn, hne, hv8, h32⟩
        · have HCO := Aside0.mk hcond
          clear hcond
          go_wp2
          go_ret2
          exact .no (openS_t H512.out HP.out HCS.out rfl (Int.not_lt.mpr HNZ.out) (fun h => h.2 (HC7.out h.1)) rfl HCO.out) HB8.out
        · have HCO := Aside0.mk hcond
          clear hcond hb8
          have HCN : Aside0 (3 ≤ clN ⟨b0, b1, b2, b3, b4, b5, (B6 : Int), b7⟩ ∧ clN ⟨b0, b1, b2, b3, b4, b5, (B6 : Int), b7⟩ ≤ 4194304) := ⟨by have h1 := HG.out.n0; have h2 := HG.out.n1; have h3 := HG.out.l1; have h4 := HG.out.s1; simp only at h2 h3 h4; unfold clN; omega⟩
          have HOF : Aside0 (openS l = _) := ⟨openS_f H512.out HP.out HCS.out rfl (Int.not_lt.mpr HNZ.out) (fun h => h.2 (HC7.out h.1)) rfl HCO.out⟩
          change w8.heap[gv]? = some (.cells #[.int .i64 b0, .int .i64 b1, .int .i64 b2, .int .i64 b3, .int .i64 b4, .int .i64 b5, .int .i64 (B6 : Int), .int .i64 b7, .slice (some ⟨gn, 0, none⟩) (clN ⟨b0, b1, b2, b3, b4, b5, (B6 : Int), b7⟩) (clN ⟨b0, b1, b2, b3, b4, b5, (B6 : Int), b7⟩), .int .i64 f, .int .i64 nx] 58 (0, 0)) at hv8
          change Own32 w8 w.heap.size (.slice (some ⟨gn, 0, none⟩) (clN ⟨b0, b1, b2, b3, b4, b5, (B6 : Int), b7⟩) (clN ⟨b0, b1, b2, b3, b4, b5, (B6 : Int), b7⟩)) (nextS (tabB l ⟨b0, b1, b2, b3, b4, b5, (B6 : Int), b7⟩ 0) (clN ⟨b0, b1, b2, b3, b4, b5, (B6 : Int), b7⟩) (clN ⟨b0, b1, b2, b3, b4, b5, (B6 : Int), b7⟩)) at h32
          generalize nextS (tabB l ⟨b0, b1, b2, b3, b4, b5, (B6 : Int), b7⟩ 0) (clN ⟨b0, b1, b2, b3, b4, b5, (B6 : Int), b7⟩) (clN ⟨b0, b1, b2, b3, b4, b5, (B6 : Int), b7⟩) = nxl at *
          generalize clN ⟨b0, b1, b2, b3, b4, b5, (B6 : Int), b7⟩ = N at *
          have p9 : w8.cell? ⟨gv, 9, none⟩ = some (.int .i64 f) := (blk_cell hv8 9).trans rfl
          have HFR := Aside0.mk (free_go gv gn N b0 b1 b2 b3 b4 b5 (B6 : Int) b7 f nx nxl w.heap.size w8.drew (blk_drew hv8) (h32.below (below_drew1 (Below.refl _ _))) HCN.out.1 HCN.out.2)
          have HVA : Aside0 (∀ W', Below w8.heap.size w8 W' → OpenPost l w (if f ≠ 4294967295 ∧ f ≠ ((nxl.drop 2).count 0 : Nat) then .returned (.tuple #[.pointer none, .int .i64 23]) else .returned (.tuple #[.pointer (some ⟨gv, 0, none⟩), .int .i64 0])) W') := ⟨by
            intro W' hW
            refine ⟨below_step HB8.out hW, ?_⟩
            rw [HOF.out]
            split
            · exact .inl ⟨rfl, rfl⟩
            · exact .inr ⟨_, gv, rfl, rfl, HGV.out, gn, N, hne, HCN.out.1, HCN.out.2, box_below hv8 hW, h32.below hW⟩⟩
          clear hv8 h32 hne HT HV9 HB9 HX
          obtain ⟨k, hk⟩ : ∃ k, k = (nxl.drop 2).count 0 := ⟨_, rfl⟩
          rw [← hk] at HFR HVA
          clear hk
          by_cases hf : f = 4294967295
          · have hva := HVA.out
            simp only [if_neg (show ¬ (f ≠ 4294967295 ∧ f ≠ (k : Int)) from fun h => h.1 hf)] at hva
            have HVB := Aside0.mk hva
            subst hf
            clear hva HVA
            go_wp2_with fail
            go_quiet ((go_at_call 48; fail))
            go_wp2
            go_ret2
            exact HVB.out _ (by first | exact Below.refl _ _ | exact below_drew1 (Below.refl _ _) | exact pw_below_drewN (Below.refl _ _) _)
          · have h1 : (f == 4294967295) = false := by simp [hf]
            have h2 : (f != 4294967295) = true := by simp [hf]
            have HF := Aside0.mk hf
            go_wp2_with fail
            go_region_held3 (fun w' => w'.cell? ⟨gv, 9, none⟩ = some (.int .i64 f)) (go_keep) ((go_at_call 48; refine HFR.out.mono ?_; rintro e w9 ⟨rfl, rfl⟩))
            by_cases hk : f = (k : Int)
            · have hva := HVA.out
              simp only [if_neg (show ¬ (f ≠ 4294967295 ∧ f ≠ (k : Int)) from fun h => h.2 hk)] at hva
              have HVB := Aside0.mk hva
              have h3 : (f == (k : Int)) = true := by simp [hk]
              have h4 : (f != (k : Int)) = false := by simp [hk]
              clear hva HVA hk
              go_wp2
              go_ret2
              exact HVB.out _ (by first | exact Below.refl _ _ | exact below_drew1 (Below.refl _ _) | exact pw_below_drewN (Below.refl _ _) _)
            · have hva := HVA.out
              simp only [if_pos (show f ≠ 4294967295 ∧ f ≠ (k : Int) from ⟨HF.out, hk⟩)] at hva
              have HVB := Aside0.mk hva
              have h3 : (f == (k : Int)) = false := by simp [hk]
              have h4 : (f != (k : Int)) = true := by simp [hk]
              clear hva HVA
              go_wp2
              go_ret2
              exact HVB.out _ (by first | exact Below.refl _ _ | exact below_drew1 (Below.refl _ _) | exact pw_below_drewN (Below.refl _ _) _)
end Go.Proofs.Ytfgeeigfbkiibaa.X
namespace Go.Proofs.Ytfgeeigfbkiibaa.X
open Go.RowKit Go.Proofs.YtfgeeigfbkiibaaW.PrintWords Go.Proofs.YtfgeeigfbkiibaaW.PrintLast Go.Proofs.YtfgeeigfbkiibaaW.PrintMore
open Go.Proofs.Ytfgeeigfbkiibaa.XFat
set_option linter.unusedVariables false
set_option linter.unusedSimpArgs false
/-- Where a cluster's bytes begin. -/
def atF (b : Boot) (c : Int) : Int := (b.b1 + b.b2 * b.b4 + (c - 2) * b.b0) * 512
set_option maxHeartbeats 4000000 in
set_option maxRecDepth 100000 in
theorem Unit_calls (b0 b1 b2 b3 b4 b5 b6 b7 : Int) (h0 : 1 ≤ b0) (h8 : b0 ≤ 8) (w : World) : Calls Try.prog 61 #[.agg #[.int .i64 b0, .int .i64 b1, .int .i64 b2, .int .i64 b3, .int .i64 b4, .int .i64 b5, .int .i64 b6, .int .i64 b7]] w fun e w' => e = .returned (.int .i64 (b0 * 512)) ∧ Below w.heap.size w w' := by
  have hw : IntKind.i64.wrap (b0 * 512) = b0 * 512 := iw (by omega) (by omega)
  clear h0 h8
  go_enter Try.func61, Try.ntmps61
  go_wp2
  go_ret
  exact ⟨ret_int (by omega), by repeat (first | exact Below.refl _ _ | refine below_alloc ?_ _ | refine below_drew1 ?_)⟩
set_option maxHeartbeats 4000000 in
set_option maxRecDepth 100000 in
theorem At_calls (b0 b1 b2 b3 b4 b5 b6 b7 c : Int) (hg : Good ⟨b0, b1, b2, b3, b4, b5, b6, b7⟩) (hc0 : 2 ≤ c) (hc1 : c ≤ clusW ⟨b0, b1, b2, b3, b4, b5, b6, b7⟩ + 1) (w : World) :
    Calls Try.prog 49 #[.agg #[.int .i64 b0, .int .i64 b1, .int .i64 b2, .int .i64 b3, .int .i64 b4, .int .i64 b5, .int .i64 b6, .int .i64 b7], .int .i64 c] w fun e w' => e = .returned (.agg #[.int .i64 (atF ⟨b0, b1, b2, b3, b4, b5, b6, b7⟩ c), .int .i64 (atF ⟨b0, b1, b2, b3, b4, b5, b6, b7⟩ c + b0 * 512)]) ∧ Below w.heap.size w w' := by
  have hn : clusW ⟨b0, b1, b2, b3, b4, b5, b6, b7⟩ ≤ 32768 * 128 := by have h1 := hg.n1; have h2 := hg.l1; have h3 := hg.s1; simp only at h1 h2 h3; omega
  have hd := hg.dat
  have hd1 := hg.d1
  have hs1 := hg.s1
  have he0 := hg.e0
  have he1 := hg.e1
  have hm0 : 0 ≤ (c - 2) * b0 := Int.mul_nonneg (by omega) (by simp only at he0; omega)
  have hm1 : (c - 2) * b0 ≤ (32768 * 128) * 8 := Int.mul_le_mul (by omega) (by simpa using he1) (by simp only at he0; omega) (by omega)
  have hdd := hg.a0
  have htt := hg.t0
  have hll := hg.l0
  simp only at hd hd1 hs1 he0 he1 hdd htt hll
  have hm2 : 0 ≤ b2 * b4 := Int.mul_nonneg (by omega) (by omega)
  obtain ⟨m, hm⟩ : ∃ m, m = (c - 2) * b0 := ⟨_, rfl⟩
  obtain ⟨d, hdq⟩ : ∃ d, d = dataW ⟨b0, b1, b2, b3, b4, b5, b6, b7⟩ := ⟨_, rfl⟩
  have hD := fun W => Data_calls ⟨b0, b1, b2, b3, b4, b5, b6, b7⟩ W
  rw [← hdq] at hD hd
  have HD := Aside0.mk hD
  have HU := Aside0.mk (fun W => Unit_calls b0 b1 b2 b3 b4 b5 b6 b7 he0 he1 W)
  have w1 : IntKind.i64.wrap (c - 2) = c - 2 := iw (by omega) (by omega)
  have w2 : IntKind.i64.wrap ((c - 2) * b0) = m := by rw [iw (by omega) (by omega), hm]
  have w3 : IntKind.i64.wrap (d + m) = d + m := iw (by omega) (by omega)
  have w4 : IntKind.i64.wrap ((d + m) * 512) = atF ⟨b0, b1, b2, b3, b4, b5, b6, b7⟩ c := by rw [iw (by omega) (by omega), hd, hm]; rfl
  have hF : atF ⟨b0, b1, b2, b3, b4, b5, b6, b7⟩ c = (d + m) * 512 := by rw [hd, hm]; rfl
  obtain ⟨F, hFF⟩ : ∃ F, F = atF ⟨b0, b1, b2, b3, b4, b5, b6, b7⟩ c := ⟨_, rfl⟩
  rw [← hFF] at w4 hF ⊢
  have w5 : IntKind.i64.wrap (F + b0 * 512) = F + b0 * 512 := iw (by omega) (by omega)
  clear hD hd hd1 hs1 he0 he1 hm0 hm1 hdd htt hll hm2 hm hdq hF hFF hn hc0 hc1 hg
  go_enter Try.func49, Try.ntmps49
  go_wp2_with fail
  have HX : Aside0 (((w.alloc (.cells #[.int .i64 b0, .int .i64 b1, .int .i64 b2, .int .i64 b3, .int .i64 b4, .int .i64 b5, .int .i64 b6, .int .i64 b7] 23)).alloc (.cells #[.int .i64 0, .int .i64 0] 86)).heap[w.heap.size]? = some (.cells #[.int .i64 b0, .int .i64 b1, .int .i64 b2, .int .i64 b3, .int .i64 b4, .int .i64 b5, .int .i64 b6, .int .i64 b7] 23 (0, 0))) := ⟨blk_alloc (blk_new w _) _⟩
  have HY : Aside0 (((w.alloc (.cells #[.int .i64 b0, .int .i64 b1, .int .i64 b2, .int .i64 b3, .int .i64 b4, .int .i64 b5, .int .i64 b6, .int .i64 b7] 23)).alloc (.cells #[.int .i64 0, .int .i64 0] 86)).heap[w.heap.size + 1]? = some (.cells #[.int .i64 0, .int .i64 0] 86 (0, 0))) := ⟨by have := blk_new (w.alloc (.cells #[.int .i64 b0, .int .i64 b1, .int .i64 b2, .int .i64 b3, .int .i64 b4, .int .i64 b5, .int .i64 b6, .int .i64 b7] 23)) (.cells #[.int .i64 0, .int .i64 0] 86); rw [show (w.alloc (.cells #[.int .i64 b0, .int .i64 b1, .int .i64 b2, .int .i64 b3, .int .i64 b4, .int .i64 b5, .int .i64 b6, .int .i64 b7] 23)).heap.size = w.heap.size + 1 by simp] at this; exact this⟩
  have HB : Aside0 (Below w.heap.size w ((w.alloc (.cells #[.int .i64 b0, .int .i64 b1, .int .i64 b2, .int .i64 b3, .int .i64 b4, .int .i64 b5, .int .i64 b6, .int .i64 b7] 23)).alloc (.cells #[.int .i64 0, .int .i64 0] 86))) := ⟨below_alloc (below_alloc (Below.refl _ _) _) _⟩
  generalize (w.alloc (.cells #[.int .i64 b0, .int .i64 b1, .int .i64 b2, .int .i64 b3, .int .i64 b4, .int .i64 b5, .int .i64 b6, .int .i64 b7] 23)).alloc (.cells #[.int .i64 0, .int .i64 0] 86) = w2 at *
  generalize hgg : w.heap.size = ga at *
  generalize hgh : ga + 1 = gc at *
  have HGA : Aside0 (ga ≠ gc ∧ w.heap.size = ga ∧ ga + 1 = gc) := ⟨by omega⟩
  clear hgg hgh
  have q0 : w2.cell? ⟨ga, 0, none⟩ = some (.int .i64 b0) := (blk_cell HX.out 0).trans rfl
  have q1 : w2.cell? ⟨ga, 1, none⟩ = some (.int .i64 b1) := (blk_cell HX.out 1).trans rfl
  have q2 : w2.cell? ⟨ga, 2, none⟩ = some (.int .i64 b2) := (blk_cell HX.out 2).trans rfl
  have q3 : w2.cell? ⟨ga, 3, none⟩ = some (.int .i64 b3) := (blk_cell HX.out 3).trans rfl
  have q4 : w2.cell? ⟨ga, 4, none⟩ = some (.int .i64 b4) := (blk_cell HX.out 4).trans rfl
  have q5 : w2.cell? ⟨ga, 5, none⟩ = some (.int .i64 b5) := (blk_cell HX.out 5).trans rfl
  have q6 : w2.cell? ⟨ga, 6, none⟩ = some (.int .i64 b6) := (blk_cell HX.out 6).trans rfl
  have q7 : w2.cell? ⟨ga, 7, none⟩ = some (.int .i64 b7) := (blk_cell HX.out 7).trans rfl
  go_region_held3 (fun w' => w'.cell? ⟨ga, 0, none⟩ = some (.int .i64 b0) ∧ w'.cell? ⟨ga, 1, none⟩ = some (.int .i64 b1) ∧ w'.cell? ⟨ga, 2, none⟩ = some (.int .i64 b2) ∧ w'.cell? ⟨ga, 3, none⟩ = some (.int .i64 b3) ∧ w'.cell? ⟨ga, 4, none⟩ = some (.int .i64 b4) ∧ w'.cell? ⟨ga, 5, none⟩ = some (.int .i64 b5) ∧ w'.cell? ⟨ga, 6, none⟩ = some (.int .i64 b6) ∧ w'.cell? ⟨ga, 7, none⟩ = some (.int .i64 b7)) ((first | go_keep | (refine ⟨?_, ?_, ?_, ?_, ?_, ?_, ?_, ?_⟩ <;> (rw [hb.cell (blk_lt HX.out)]; assumption)))) ((go_at_call 37; refine (HD.out _).mono ?_; rintro e wa ⟨rfl, hb⟩))
  have hbb : Below w2.heap.size w2 wa := below_step (below_drew1 (Below.refl _ _)) hb
  replace HX := Aside0.mk (box_below HX.out hbb)
  replace HY := Aside0.mk (box_below HY.out hbb)
  replace HB : Aside0 (Below w.heap.size w wa) := ⟨below_step (by rw [HGA.out.2.1]; exact HB.out) hbb⟩
  clear hb hbb q0 q1 q2 q3 q4 q5 q6 q7
  have q0 : wa.cell? ⟨ga, 0, none⟩ = some (.int .i64 b0) := (blk_cell HX.out 0).trans rfl
  have q1 : wa.cell? ⟨ga, 1, none⟩ = some (.int .i64 b1) := (blk_cell HX.out 1).trans rfl
  have q2 : wa.cell? ⟨ga, 2, none⟩ = some (.int .i64 b2) := (blk_cell HX.out 2).trans rfl
  have q3 : wa.cell? ⟨ga, 3, none⟩ = some (.int .i64 b3) := (blk_cell HX.out 3).trans rfl
  have q4 : wa.cell? ⟨ga, 4, none⟩ = some (.int .i64 b4) := (blk_cell HX.out 4).trans rfl
  have q5 : wa.cell? ⟨ga, 5, none⟩ = some (.int .i64 b5) := (blk_cell HX.out 5).trans rfl
  have q6 : wa.cell? ⟨ga, 6, none⟩ = some (.int .i64 b6) := (blk_cell HX.out 6).trans rfl
  have q7 : wa.cell? ⟨ga, 7, none⟩ = some (.int .i64 b7) := (blk_cell HX.out 7).trans rfl
  have q8 : wa.cell? ⟨gc, 0, none⟩ = some (.int .i64 0) := (blk_cell HY.out 0).trans rfl
  have q9 : wa.cell? ⟨gc, 1, none⟩ = some (.int .i64 0) := (blk_cell HY.out 1).trans rfl
  have f8 : ∀ i : Nat, wa.frozen? ⟨gc, i, none⟩ = false := fun i => blk_frozen HY.out i
  go_wp2_with fail
  refine (HU.out _).mono ?_
  rintro e wb ⟨rfl, hb⟩
  replace HX := Aside0.mk (box_below HX.out hb)
  replace HY := Aside0.mk (box_below HY.out hb)
  replace HB := Aside0.mk (below_step HB.out hb)
  clear hb q0 q1 q2 q3 q4 q5 q6 q7 q8 q9 f8
  have q8 : wb.cell? ⟨gc, 0, none⟩ = some (.int .i64 0) := (blk_cell HY.out 0).trans rfl
  have q9 : wb.cell? ⟨gc, 1, none⟩ = some (.int .i64 0) := (blk_cell HY.out 1).trans rfl
  have f8 : ∀ i : Nat, wb.frozen? ⟨gc, i, none⟩ = false := fun i => blk_frozen HY.out i
  have hp0 := blk_put (cs' := #[.int .i64 F, .int .i64 0]) HY.out 0 (.int .i64 F) rfl
  have hp1 := Aside0.mk (blk_put (cs' := #[.int .i64 F, .int .i64 (F + b0 * 512)]) hp0 1 (.int .i64 (F + b0 * 512)) rfl)
  have hge : w.heap.size ≤ gc := by have := HGA.out; omega
  have hbe := Aside0.mk (below_set (j := 1) (v := .int .i64 (F + b0 * 512)) (below_set (j := 0) (v := .int .i64 F) HB.out hge) hge)
  clear hp0 hge
  go_wp2_with fail
  exact bodyPost_ret (results_cell_row rfl _ _ gc 86 #[.int .i64 F, .int .i64 (F + b0 * 512)] (0, 0) _ rfl hp1.out Try.underlying86 rfl (by kernel_rfl)) rfl ⟨rfl, hbe.out⟩
end Go.Proofs.Ytfgeeigfbkiibaa.X
namespace Go.Proofs.Ytfgeeigfbkiibaa.X
open Go.RowKit Go.Proofs.YtfgeeigfbkiibaaW.PrintWords Go.Proofs.YtfgeeigfbkiibaaW.PrintLast Go.Proofs.YtfgeeigfbkiibaaW.PrintMore
open Go.Proofs.Ytfgeeigfbkiibaa.XFat
attribute [local go_sem] max2_int min2_int max_two min_two
set_option linter.unusedVariables false
set_option linter.unusedSimpArgs false
instance : Inhabited S86 := ⟨z86⟩
/-- One part more. -/
def norm1 (out : List S86) (x : S86) : List S86 :=
  if x.f1 ≤ x.f0 then out
  else match out.getLast? with
    | none => out ++ [x]
    | some y => if x.f0 ≤ y.f1 then out.dropLast ++ [⟨y.f0, mx y.f1 x.f1⟩] else out ++ [x]
def normL (l : List S86) : List S86 := l.foldl norm1 []
def Row (W : World) (base : Nat) (u : Value) (l : List S86) : Prop := Kd.R k86 86 W base (fun _ => True) u l
def Sorted86 (l : List S86) : Prop := l.Pairwise (fun a b => a.f0 < b.f0)
/-- What a clone is. -/
def CloneOk : Prop := ∀ (A : Option Addr) (n c : Nat) (l : List S86) (w : World), Kd.C k86 w A l.length l → l.length ≤ c → n = l.length → l.length ≤ 1073741824 →
  Calls Try.prog 62 #[.slice A n c] w fun e w' => ∃ v, e = .returned v ∧ Row w' w.heap.size v l ∧ Below w.heap.size w w'
def SortOk : Prop := ∀ (u : Value) (l : List S86) (base : Nat) (w : World), Row w base u l → Sorted86 l → l.length ≤ 1073741824 →
  Calls Try.prog 63 #[u, .func (.func 64) #[] #[]] w fun e w' => e = .returned (.tuple #[]) ∧ Below w.heap.size w w'
theorem norm1_length (out : List S86) (x : S86) : (norm1 out x).length ≤ out.length + 1 := by
  unfold norm1
  split
  · omega
  split
  · simp
  split
  · simp
  · simp
set_option maxHeartbeats 4000000 in
set_option maxRecDepth 100000 in
theorem norm_go (hcl : CloneOk) (hso : SortOk) (A : Option Addr) (n c : Nat) (l : List S86) (w : World) (hC : Kd.C k86 w A l.length l) (hc : l.length ≤ c) (hn : n = l.length) (hs : Sorted86 l) (hl : l.length ≤ 1073741824) :
    Calls Try.prog 50 #[.slice A n c] w fun e w' => ∃ v, e = .returned v ∧ Row w' w.heap.size v (normL l) ∧ Below w.heap.size w w' := by
  have R1 := Aside0.mk (hcl A n c l w hC hc hn hl)
  have HSO := Aside0.mk hso
  have HS := Aside0.mk hs
  have HL := Aside0.mk hl
  clear hC hc hn hs hl hcl hso
  go_enter Try.func50, Try.ntmps50
  go_wp2_with fail
  refine R1.out.mono ?_
  rintro e w1 ⟨v1, rfl, hr, hb⟩
  have HR := Aside0.mk hr
  have HB := Aside0.mk hb
  clear hr hb
  go_wp2_with fail
  refine (HSO.out v1 l _ w1 HR.out HS.out HL.out).mono ?_
  rintro e w2 ⟨rfl, hb⟩
  replace HR : Aside0 (Row w2 w.heap.size v1 l) := ⟨Kd.R_below HR.out hb⟩
  replace HB := Aside0.mk (below_step HB.out hb)
  clear hb
  obtain ⟨A1, c1, rfl⟩ := Kd.R_slice HR.out
  obtain ⟨N, hN⟩ : ∃ N, N = l.length := ⟨_, rfl⟩
  rw [← hN] at HR ⊢
  have HNL : Aside0 (N = l.length ∧ N ≤ 1073741824) := ⟨hN, by rw [hN]; exact HL.out⟩
  clear hN
  obtain ⟨S2, hS2⟩ : ∃ S2, S2 = w2.heap.size := ⟨_, rfl⟩
  have HC : Aside0 (Kd.R k86 86 w2 w.heap.size (fun k => k < S2) (.slice A1 N c1) l ∧ S2 ≤ w2.heap.size) := ⟨Kd.R_mono (Kd.R_bound HR.out) (fun k hk => by rw [hS2]; exact hk.2.2.1), by omega⟩
  clear hS2
  go_wp2_with fail
  go_loopw [4, 14] (fun v4 v14 wr => ∃ t : Nat, v14 = .int .i64 t ∧ t ≤ N ∧ Aside0 (Kd.R k86 86 wr w.heap.size (fun k => S2 ≤ k) v4 ((l.take t).foldl norm1 []) ∧ ((l.take t).foldl norm1 []).length ≤ t) ∧ Aside0 (Kd.R k86 86 wr w.heap.size (fun k => k < S2) (.slice A1 N c1) l ∧ S2 ≤ wr.heap.size) ∧ Aside0 (Below w.heap.size w wr)) (fun _ v _ => N - (intOf v).toNat)
  case atStart => exact ⟨0, rfl, by omega, ⟨Kd.R_nil _ _ _ _ _, by simp⟩, HC, HB⟩
  case round =>
    clear HR HB HC
    obtain ⟨t, rfl, ht, HO, HC, HB⟩ := hrel
    by_cases hlt : t < N
    · have hi : (t : Int) < (N : Int) := by omega
      have hi0 : (0 : Int) ≤ (t : Int) := by omega
      have hw1 : IntKind.i64.wrap ((t : Int) + 1) = ((t + 1 : Nat) : Int) := by have := HNL.out; rw [iw (by omega) (by omega)]; omega
      obtain ⟨ad, rfl, hc0, hc1⟩ := at_T86 (show Kd.C k86 wr A1 N l by have := (Kd.R_reads' HC.out.1).2.2; rw [← HNL.out.1] at this; exact this) (t : Int) hi0 hi
      rw [Int.toNat_natCast] at hc0 hc1
      obtain ⟨x, hx⟩ : ∃ x, x = rd_T86 l ((t : Nat) : Int) := ⟨_, rfl⟩
      rw [← hx] at hc0 hc1
      have hstep : (l.take (t + 1)).foldl norm1 [] = norm1 ((l.take t).foldl norm1 []) x := by
        have h3 : t < l.length := by rw [← HNL.out.1]; exact hlt
        rw [List.take_succ_eq_append_getElem h3, List.foldl_append]
        have h4 : l[t] = x := by rw [hx]; unfold rd_T86; rw [Int.toNat_natCast, List.getD_eq_getElem?_getD, List.getElem?_eq_getElem h3]; rfl
        rw [h4]; rfl
      obtain ⟨o, ho⟩ : ∃ o, o = (l.take t).foldl norm1 [] := ⟨_, rfl⟩
      rw [← ho] at HO hstep
      obtain ⟨x0, x1⟩ := x
      simp only at hc0 hc1
      have HST := Aside0.mk hstep
      obtain ⟨A4, c4, rfl⟩ := Kd.R_slice HO.out.1
      obtain ⟨m, hm⟩ : ∃ m, m = o.length := ⟨_, rfl⟩
      rw [← hm] at HO ⊢
      have HM := Aside0.mk hm
      clear hx ho hstep hm
      by_cases hx : x1 ≤ x0
      · have HX := Aside0.mk hx
        go_wp2_with fail
        go_roundw
        case rel =>
          refine ⟨t + 1, by go_num, by omega, ⟨?_, ?_⟩, ⟨Kd.R_below HC.out.1 (below_alloc (Below.refl _ _) _), Nat.le_trans HC.out.2 (below_size (below_alloc (Below.refl _ _) _))⟩, ⟨below_alloc HB.out _⟩⟩
          · rw [HST.out]; unfold norm1; rw [if_pos HX.out]; exact Kd.R_below HO.out.1 (below_alloc (Below.refl _ _) _)
          · rw [HST.out]; unfold norm1; rw [if_pos HX.out, ← HM.out]; have := HO.out.2; omega
        case measure => simp [intOf]; omega
      · have HX0 := Aside0.mk hx
        by_cases hm : m = 0
        · subst hm
          go_wp2_with fail
          go_quiet (fail)
          have HB1 : Aside0 (Below wr.heap.size wr ((wr.alloc (.cells #[.int .i64 x0, .int .i64 x1] 86)).drewN nq)) := ⟨pw_below_drewN (below_alloc (Below.refl _ _) _) _⟩
          have HX6 : Aside0 (((wr.alloc (.cells #[.int .i64 x0, .int .i64 x1] 86)).drewN nq).heap[wr.heap.size]? = some (.cells #[.int .i64 x0, .int .i64 x1] 86 (0, 0))) := ⟨blk_drewN (blk_new wr _) _⟩
          generalize (wr.alloc (.cells #[.int .i64 x0, .int .i64 x1] 86)).drewN nq = w5 at *
          have p0 : w5.cell? ⟨wr.heap.size, 0, none⟩ = some (.int .i64 x0) := (blk_cell HX6.out 0).trans rfl
          have p1 : w5.cell? ⟨wr.heap.size, 1, none⟩ = some (.int .i64 x1) := (blk_cell HX6.out 1).trans rfl
          have HO5 : Aside0 (Kd.R k86 86 w5 w.heap.size (fun k => S2 ≤ k) (.slice A4 0 c4) o) := ⟨Kd.R_below HO.out.1 HB1.out⟩
          have HB5 := Aside0.mk (below_step HB.out HB1.out)
          have HC5 : Aside0 (Kd.R k86 86 w5 w.heap.size (fun k => k < S2) (.slice (some ad) N c1) l ∧ S2 ≤ w5.heap.size) := ⟨Kd.R_below HC.out.1 HB1.out, Nat.le_trans HC.out.2 (below_size HB1.out)⟩
          have HML : Aside0 (o.length = 0) := ⟨HM.out.symm⟩
          go_wp2_with (((with_reducible refine gate_builtin (b := .append) (xs := #[.tmp 52, .tmp 54]) rfl ?_); refine Kd.R_append k86 (w0 := w) w.heap.size rfl (.tmp 52) (.tmp 54) 53 86 (.agg #[.int .i64 0, .int .i64 0]) 16 rfl Try.underlying53 info86 rfl (by decide) (by decide) (.slice A4 0 c4) o ⟨x0, x1⟩ [.int .i64 x0, .int .i64 x1] (fun k => S2 ≤ k) (fun _ => False) rfl rfl (k86_mkM _ _ _ _) (fun k hk => hk.elim) (fun k hk => Nat.le_trans HC5.out.2 hk) HO5.out HB5.out (below_size HB5.out) (by rw [HML.out]; decide) ?_; intro v9 w9 ho9 hb9 hg9 _; have HO9 := Aside0.mk ho9; have HB9 := Aside0.mk hb9; have HG9 := Aside0.mk hg9; clear ho9 hb9 hg9))
          go_roundw
          case rel =>
            refine ⟨t + 1, by go_num, by omega, ⟨?_, ?_⟩, ⟨?_, ?_⟩, HB9⟩
            · rw [HST.out]; unfold norm1; rw [if_neg (Int.not_le.mpr HX0.out), List.eq_nil_of_length_eq_zero HML.out]; have := HO9.out; rw [List.eq_nil_of_length_eq_zero HML.out] at this; exact this
            · rw [HST.out]; have := norm1_length o ⟨x0, x1⟩; rw [HML.out] at this; omega
            · exact Kd.R_grown HC5.out.1 HG9.out (fun k hk e => by have := HO5.out.1 k e.symm; omega)
            · exact Nat.le_trans HC5.out.2 HG9.out.size
          case measure => simp [intOf]; omega
        · obtain ⟨k, hk⟩ : ∃ k, m = k + 1 := ⟨m - 1, by omega⟩
          obtain ⟨g4, cap4, he4, hb4, _⟩ := Kd.R_form HO.out.1 (by rw [← HM.out]; omega)
          injection he4 with he4 hx1 hx2
          clear hx1 hx2
          subst he4
          have HLT4 : Aside0 (g4 < wr.heap.size ∧ S2 ≤ g4) := ⟨Kd.R_lt HO.out.1 g4 rfl, HO.out.1.1 g4 rfl⟩
          obtain ⟨cc, hcl, hMM, hcc, hfr⟩ := Kd.R_elem HO.out.1 z86 (k : Int) (by omega) (by omega)
          obtain rfl := k86_openM hMM
          obtain ⟨y, hy⟩ : ∃ y, y = o.getD (k : Int).toNat z86 := ⟨_, rfl⟩
          rw [← hy] at hcc hcl
          have HY := Aside0.mk hy
          obtain ⟨y0, y1⟩ := y
          have e0 : wr.cell? ⟨g4, k * 2, none⟩ = some (.int .i64 y0) := hcc 0 _ rfl
          have e1 : wr.cell? ⟨g4, k * 2 + 1, none⟩ = some (.int .i64 y1) := hcc 1 _ rfl
          have hwk : IntKind.i64.wrap ((m : Int) - 1) = (k : Int) := by have := HO.out.2; have := HNL.out; rw [iw (by omega) (by omega)]; omega
          have hk0 : (0 : Int) ≤ (k : Int) := by omega
          have hk1 : (k : Int) < (m : Int) := by omega
          have hk2 : (0 : Int) < (m : Int) := by omega
          have hk3 : 0 < m := by omega
          have HKM := Aside0.mk hk
          have HCC := Aside0.mk hcc
          clear hy hMM hcl hcc hk
          have hm1 : (m == 0) = false := by simp [hm]
          clear hm
          have E0 : ∀ ob, (wr.alloc ob).cell? ⟨g4, k * 2, none⟩ = some (.int .i64 y0) := fun ob => by rw [(below_alloc (Below.refl wr.heap.size wr) ob).cell (p := ⟨g4, k * 2, none⟩) HLT4.out.1]; exact e0
          have E1 : ∀ ob, (wr.alloc ob).cell? ⟨g4, k * 2 + 1, none⟩ = some (.int .i64 y1) := fun ob => by rw [(below_alloc (Below.refl wr.heap.size wr) ob).cell (p := ⟨g4, k * 2 + 1, none⟩) HLT4.out.1]; exact e1
          have HB1 : Aside0 (Below wr.heap.size wr (wr.alloc (.cells #[.int .i64 x0, .int .i64 x1] 86))) := ⟨below_alloc (Below.refl _ _) _⟩
          have HX6 : Aside0 ((wr.alloc (.cells #[.int .i64 x0, .int .i64 x1] 86)).heap[wr.heap.size]? = some (.cells #[.int .i64 x0, .int .i64 x1] 86 (0, 0))) := ⟨blk_new wr _⟩
          have p0 : (wr.alloc (.cells #[.int .i64 x0, .int .i64 x1] 86)).cell? ⟨wr.heap.size, 0, none⟩ = some (.int .i64 x0) := (blk_cell HX6.out 0).trans rfl
          go_wp2_with fail
          generalize hw5 : wr.alloc (.cells #[.int .i64 x0, .int .i64 x1] 86) = w5 at *
          have E1' : w5.cell? ⟨g4, k * 2 + 1, none⟩ = some (.int .i64 y1) := by rw [← hw5]; exact E1 _
          clear E0 E1 hw5
          go_region_held3 (fun w' => w'.cell? ⟨g4, k * 2 + 1, none⟩ = some (.int .i64 y1) ∧ w'.cell? ⟨wr.heap.size, 0, none⟩ = some (.int .i64 x0)) (go_keep) (fail)
          have HB5 : Aside0 (Below w.heap.size w w5.drew) := ⟨below_drew1 (below_step HB.out HB1.out)⟩
          have HO5 : Aside0 (Kd.R k86 86 w5.drew w.heap.size (fun k => S2 ≤ k) (.slice (some ⟨g4, 0, none⟩) m c4) o) := ⟨Kd.R_below HO.out.1 (below_drew1 HB1.out)⟩
          have HC5 : Aside0 (Kd.R k86 86 w5.drew w.heap.size (fun k => k < S2) (.slice (some ad) N c1) l ∧ S2 ≤ w5.drew.heap.size) := ⟨Kd.R_below HC.out.1 (below_drew1 HB1.out), Nat.le_trans HC.out.2 (below_size (below_drew1 HB1.out))⟩
          have HX7 : Aside0 (w5.drew.heap[wr.heap.size]? = some (.cells #[.int .i64 x0, .int .i64 x1] 86 (0, 0))) := ⟨blk_drew HX6.out⟩
          have HML : Aside0 (o.length = m ∧ o.length ≤ 1073741824) := ⟨HM.out.symm, by have := HO.out.2; have := HM.out; have := HNL.out; omega⟩
          have HLast : Aside0 (o.getLast? = some ⟨y0, y1⟩) := ⟨by
            rw [List.getLast?_eq_getElem?, HML.out.1, HKM.out, Nat.add_sub_cancel, HY.out, Int.toNat_natCast, List.getD_eq_getElem?_getD, List.getElem?_eq_getElem (by rw [HML.out.1, HKM.out]; omega)]
            rfl⟩
          have HE1 : Aside0 (w5.drew.cell? ⟨g4, k * 2 + 1, none⟩ = some (.int .i64 y1)) := ⟨E1'⟩
          clear p0 E1' HX6 HB1 e0 e1
          generalize w5.drew = w6 at *
          clear w5
          have p0 : w6.cell? ⟨wr.heap.size, 0, none⟩ = some (.int .i64 x0) := (blk_cell HX7.out 0).trans rfl
          have p1 : w6.cell? ⟨wr.heap.size, 1, none⟩ = some (.int .i64 x1) := (blk_cell HX7.out 1).trans rfl
          have E1 := HE1.out
          by_cases hxy : x0 ≤ y1
          · have HXY := Aside0.mk hxy
            have F1 : w6.frozen? ⟨g4, k * 2 + 1, none⟩ = false := (Kd.R_elem HO5.out z86 (k : Int) hk0 (by exact hk1)).choose_spec.2.2.2 1
            go_wp2_with fail
            go_still_tail 14, (by kernel_rfl)
            change wpList _ _ _ _ _ w6.drew
            have HB7 : Aside0 (Below w.heap.size w w6.drew) := ⟨below_drew1 HB5.out⟩
            have HO7 : Aside0 (Kd.R k86 86 w6.drew w.heap.size (fun k => S2 ≤ k) (.slice (some ⟨g4, 0, none⟩) m c4) o) := ⟨Kd.R_below HO5.out (below_drew1 (Below.refl _ _))⟩
            have HC7 : Aside0 (Kd.R k86 86 w6.drew w.heap.size (fun k => k < S2) (.slice (some ad) N c1) l ∧ S2 ≤ w6.drew.heap.size) := ⟨Kd.R_below HC5.out.1 (below_drew1 (Below.refl _ _)), HC5.out.2⟩
            have F7 : w6.drew.frozen? ⟨g4, k * 2 + 1, none⟩ = false := (Kd.R_elem HO7.out z86 (k : Int) hk0 (by exact hk1)).choose_spec.2.2.2 1
            have E7 : w6.drew.cell? ⟨g4, k * 2 + 1, none⟩ = some (.int .i64 y1) := HE1.out
            clear F1 E1 p0 p1 HX7 HE1
            generalize w6.drew = w7 at *
            clear HO5 HB5 HC5
            go_wp2_with fail
            go_roundw
            case rel =>
              obtain ⟨cc, hcl, hMM, hcc, hfr⟩ := Kd.R_elem HO7.out z86 (k : Int) hk0 (by exact hk1)
              obtain rfl := k86_openM hMM
              rw [← HY.out] at hcc hcl
              have hs := Kd.R_seg HO7.out (k : Int) hk0 (by exact hk1) (seg := [.int .i64 (mx y1 x1)]) (j := 1) hcl hcc (Nat.le_refl 2) (x' := ⟨y0, mx y1 x1⟩) (okp := fun _ => False) (k86_mkM _ _ _ _) (fun k hk => hk.elim)
              have hset : o.set (k : Int).toNat ⟨y0, mx y1 x1⟩ = norm1 o ⟨x0, x1⟩ := by
                unfold norm1; rw [if_neg (Int.not_le.mpr HX0.out), HLast.out]; simp only; rw [if_pos HXY.out, Int.toNat_natCast]
                have hne : o ≠ [] := by intro h; have := HML.out.1; rw [h] at this; simp at this; omega
                conv => lhs; rw [← List.dropLast_concat_getLast hne]
                have hdl : o.dropLast.length = k := by rw [List.length_dropLast, HML.out.1, HKM.out]; rfl
                rw [List.set_append_right _ _ (by omega), hdl, Nat.sub_self]
                rfl
              have hbs := HB7.out.grown hs.2 (below_size HB7.out) (fun k e => by cases e; have := Kd.R_base HO7.out g4 rfl; exact this)
              refine ⟨t + 1, by go_num, by omega, ⟨?_, ?_⟩, ⟨?_, ?_⟩, ⟨hbs⟩⟩
              · rw [HST.out, ← hset]; exact hs.1
              · rw [HST.out]; have := norm1_length o ⟨x0, x1⟩; have h2 := HO.out.2; have h3 := HML.out.1; omega
              · exact Kd.R_grown HC7.out.1 hs.2 (fun k hk e => by have := HLT4.out.2; cases e; omega)
              · exact Nat.le_trans HC7.out.2 hs.2.size
            case measure => simp [intOf]; omega
          · have HXY := Aside0.mk hxy
            go_wp2_with (((with_reducible refine gate_builtin (b := .append) (xs := #[.tmp 52, .tmp 54]) rfl ?_); refine Kd.R_append k86 (w0 := w) w.heap.size rfl (.tmp 52) (.tmp 54) 53 86 (.agg #[.int .i64 0, .int .i64 0]) 16 rfl Try.underlying53 info86 rfl (by decide) (by decide) (.slice (some ⟨g4, 0, none⟩) m c4) o ⟨x0, x1⟩ [.int .i64 x0, .int .i64 x1] (fun k => S2 ≤ k) (fun _ => False) rfl rfl (k86_mkM _ _ _ _) (fun k hk => hk.elim) (fun k hk => Nat.le_trans HC5.out.2 hk) HO5.out HB5.out (below_size HB5.out) (by have := HML.out; omega) ?_; intro v9 w9 ho9 hb9 hg9 _; have HO9 := Aside0.mk ho9; have HB9 := Aside0.mk hb9; have HG9 := Aside0.mk hg9; clear ho9 hb9 hg9))
            go_roundw
            case rel =>
              refine ⟨t + 1, by go_num, by omega, ⟨?_, ?_⟩, ⟨?_, ?_⟩, HB9⟩
              · rw [HST.out]; unfold norm1; rw [if_neg (Int.not_le.mpr HX0.out), HLast.out]; simp only; rw [if_neg HXY.out]; exact HO9.out
              · rw [HST.out]; have := norm1_length o ⟨x0, x1⟩; have h2 := HO.out.2; have h3 := HML.out.1; omega
              · exact Kd.R_grown HC5.out.1 HG9.out (fun k hk e => by have := HO5.out.1 k e.symm; omega)
              · exact Nat.le_trans HC5.out.2 HG9.out.size
            case measure => simp [intOf]; omega
    · obtain rfl : t = N := by omega
      go_wp2_with fail
      go_ret
      refine ⟨_, rfl, ?_, HB.out⟩
      have := HO.out.1
      rw [HNL.out.1, List.take_length] at this
      exact Kd.R_mono this (fun _ _ => trivial)
end Go.Proofs.Ytfgeeigfbkiibaa.X
namespace Go.Proofs.Ytfgeeigfbkiibaa.X
open Go.Shelf Go.RowKit Go.Lib Go.Sort
open Go.RowKit Go.Proofs.YtfgeeigfbkiibaaW.PrintWords Go.Proofs.YtfgeeigfbkiibaaW.PrintLast Go.Proofs.YtfgeeigfbkiibaaW.PrintMore
open Go.Proofs.Ytfgeeigfbkiibaa.XFat
set_option linter.unusedVariables false
set_option linter.unusedSimpArgs false
def enc86 (x : S86) : List Value := [.int .i64 x.f0, .int .i64 x.f1]
def cmp86 (x y : S86) : Int := if x.f0 < y.f0 then -1 else if y.f0 < x.f0 then 1 else 0
theorem isnan_calls (x : Int) (w : World) : Calls Try.prog 70 #[.int .i64 x] w fun e w' => e = .returned (.bool false) ∧ w' = w := by
  have h : (x != x) = false := by simp
  go_enter Try.func70, Try.ntmps70
  go_wp2
  go_ret
  exact ⟨by simp, rfl⟩
theorem compare_calls (x y : Int) (w : World) : Calls Try.prog 65 #[.int .i64 x, .int .i64 y] w fun e w' => e = .returned (.int .i64 (if x < y then -1 else if y < x then 1 else 0)) ∧ w' = w := by
  go_enter Try.func65, Try.ntmps65
  go_wp2_with (go_at_call 70; refine (isnan_calls _ _).mono ?_; rintro e w' ⟨rfl, rfl⟩)
  all_goals go_ret
  all_goals (refine ⟨?_, rfl⟩; refine ret_int ?_)
  all_goals rfl
set_option maxHeartbeats 1000000 in
theorem closure_calls (x y : S86) (W : World) : Calls Try.prog 64 #[.agg (enc86 x).toArray, .agg (enc86 y).toArray] W fun e w' => e = .returned (.int .i64 (cmp86 x y)) ∧ ∃ q os', w' = grow (W.drewN q) os' := by
  obtain ⟨x0, x1⟩ := x
  obtain ⟨y0, y1⟩ := y
  have hcon := fun W' => compare_calls x0 y0 W'
  change Calls Try.prog 64 #[.agg #[.int .i64 x0, .int .i64 x1], .agg #[.int .i64 y0, .int .i64 y1]] W _
  change Calls Try.prog 64 _ W fun e w' => e = .returned (.int .i64 (if x0 < y0 then -1 else if y0 < x0 then 1 else 0)) ∧ _
  generalize (if x0 < y0 then -1 else if y0 < x0 then 1 else 0 : Int) = r at hcon ⊢
  go_enter Try.func64, Try.ntmps64
  go_wp2_with (go_at_call 65; refine (hcon _).mono ?_; rintro e w' ⟨rfl, rfl⟩)
  go_ret
  exact ⟨rfl, 0, _, by rw [alloc_eq_grow, alloc_eq_grow, grow_grow]; rfl⟩
theorem lt86 (x y : S86) : ltOf cmp86 x y = decide (x.f0 < y.f0) := by
  unfold ltOf cmp86
  by_cases h1 : x.f0 < y.f0
  · simp [h1]
  · by_cases h2 : y.f0 < x.f0 <;> simp [h1, h2]
theorem swo86 : SWO (ltOf cmp86) where
  irrefl x := by rw [lt86]; simp
  trans x y z h1 h2 := by rw [lt86] at *; simp at *; omega
  ntrans x y z h1 h2 := by rw [lt86] at *; simp at *; omega
theorem below_grow (w : World) (m : Nat) (os : Array Obj) : RowKit.Below w.heap.size w (grow (Sort.ahead w m) os) := by
  refine ⟨rfl, rfl, rfl, ?_, fun k hk => ?_⟩
  · simp [grow, Sort.ahead]
  · simp only [grow, Sort.ahead]
    rw [Array.getElem?_append_left hk]
theorem holds86 {W : World} {base g n cap : Nat} {ok : Nat → Prop} {l : List S86} (h : Kd.R k86 86 W base ok (.slice (some ⟨g, 0, none⟩) n cap) l) : HoldsK enc86 2 W g 0 l.toArray := by
  intro t ht
  rw [size_flatK, List.size_toArray] at ht
  obtain ⟨hn, _, _⟩ := Kd.R_reads' h
  obtain ⟨cc, hcl, hMM, hcc, hfr⟩ := Kd.R_elem h z86 ((t / 2 : Nat) : Int) (by omega) (by omega)
  obtain rfl := k86_openM hMM
  rw [Int.toNat_natCast] at hcc hfr
  have e2 : t / 2 * k86.sz + t % 2 = 0 + t := by change t / 2 * 2 + t % 2 = 0 + t; omega
  have hf := hfr (t % 2)
  rw [e2] at hf
  refine ⟨?_, hf⟩
  rw [get_flatK _ _ _ _ (by rw [List.size_toArray]; exact ht)]
  have hc : ∀ u, [Value.int .i64 (l.getD (t / 2) z86).f0, .int .i64 (l.getD (t / 2) z86).f1][t % 2]? = some u → W.cell? ⟨g, 0 + t, none⟩ = some u := fun u hu => by rw [← e2]; exact hcc _ u hu
  have hlt : t / 2 < l.length := by omega
  have hg : l.toArray[t / 2]! = l.getD (t / 2) z86 := by
    rw [getElem!_pos l.toArray (t / 2) (by simpa using hlt), List.getElem_toArray, List.getD_eq_getElem?_getD, List.getElem?_eq_getElem hlt]; rfl
  rw [hg]
  refine hc _ ?_
  unfold enc86
  rcases (show t % 2 = 0 ∨ t % 2 = 1 by omega) with h0 | h0 <;> rw [h0] <;> rfl
theorem perm_sorted {l l' : List S86} (hs : Sorted86 l) (hp : l'.Perm l) (hq : l'.Pairwise (fun a b => decide (b.f0 < a.f0) = false)) : l' = l := by
  refine List.Perm.eq_of_pairwise (le := fun a b => a.f0 ≤ b.f0) ?_ ?_ ?_ hp
  · intro a b ha hb h1 h2
    have ha' := hp.mem_iff.1 ha
    rcases Classical.em (a = b) with h | h
    · exact h
    · exfalso
      have : a.f0 ≠ b.f0 := by
        intro e
        have := List.Pairwise.forall_of_forall_of_flip (R := fun a b : S86 => a ≠ b → a.f0 ≠ b.f0) (l := l) (fun x _ h => absurd rfl h) (hs.imp (fun {a b} h _ => by have h' : a.f0 < b.f0 := h; omega)) (hs.imp (fun {a b} h _ => by have h' : a.f0 < b.f0 := h; show b.f0 ≠ a.f0; omega)) ha' hb h
        exact this e
      omega
  · exact hq.imp (fun h => by simpa using h)
  · exact hs.imp (fun {a b} h => by have h' : a.f0 < b.f0 := h; omega)
theorem sort_ok : SortOk := by
  intro u l base w hr hs hl
  rcases Nat.eq_zero_or_pos l.length with h0 | hp
  · obtain ⟨A, c, rfl⟩ := Kd.R_slice hr
    rw [h0]
    have := AnyF.slices_SortFunc_none Try.sortExt A c (.func (.func 64) #[] #[]) w
    exact this.mono fun e w' ⟨h1, h2⟩ => ⟨h1, by rw [h2]; exact RowKit.Below.refl _ _⟩
  · obtain ⟨g, cap, rfl, hg1, hg2, _⟩ := Kd.R_form hr hp
    have eg : ∀ args w, (callFunc 64 args).run Try.prog w = .ok (.enter 64 args) w := enters_of Try.func64 (by kernel_rfl) rfl
    have hH := holds86 hr
    have hcmp : CmpLays Try.prog 64 #[] enc86 2 cmp86 g 0 l.toArray.size w := fun _ _ _ _ x y => closure_calls x y _
    have hcon := AnyQ.slices_SortFunc Try.sortExt 2 Try.isAgg86 Try.sizeOf86 enc86 (fun _ => rfl) (fun x v hv => by simp [enc86] at hv; rcases hv with rfl | rfl <;> rfl) cmp86 swo86 64 #[] g 0 cap l.toArray w eg hcmp hH hg2 (by simp; omega)
    rw [List.size_toArray] at hcon
    refine hcon.mono ?_
    rintro e w' ⟨rfl, d', n, os, hperm, hsort, rfl⟩
    refine ⟨rfl, ?_⟩
    have hd : d' = l.toArray := by
      obtain ⟨hsz, _, hpm⟩ := hperm
      replace hsz : d'.size = l.length := by rw [hsz]; exact List.size_toArray ..
      have h1 : (d'.extract 0 l.length).toList = d'.toList := by rw [← hsz]; simp
      have h2 : (l.toArray.extract 0 l.length).toList = l := by simp
      rw [h1, h2] at hpm
      have hq : d'.toList.Pairwise (fun a b => decide (b.f0 < a.f0) = false) := by
        rw [List.pairwise_iff_getElem]
        intro i j hi hj hij
        have := hsort i j (Nat.zero_le _) hij (by rw [← hsz]; exact (by simpa using hj))
        rw [lt86, getElem!_pos d' j (by simpa using hj), getElem!_pos d' i (by simpa using hi)] at this
        simpa using this
      have := perm_sorted hs hpm hq
      rw [← this]
    subst hd
    have he : sortWorldK enc86 2 w g 0 n l.toArray os = grow (Sort.ahead w n) os := by
      unfold sortWorldK; rw [putRowK_self (h := show HoldsK enc86 2 (Sort.ahead w n) g 0 l.toArray from hH)]
    rw [he]
    exact below_grow w n os
end Go.Proofs.Ytfgeeigfbkiibaa.X
namespace Go.Proofs.Ytfgeeigfbkiibaa.X
open Go.RowKit Go.Proofs.YtfgeeigfbkiibaaW.PrintWords Go.Proofs.YtfgeeigfbkiibaaW.PrintLast Go.Proofs.YtfgeeigfbkiibaaW.PrintMore
open Go.Proofs.Ytfgeeigfbkiibaa.XFat
set_option linter.unusedVariables false
set_option linter.unusedSimpArgs false
theorem empty_row (w : World) (base : Nat) (hb : base ≤ w.heap.size) : Row (w.alloc (.cells #[] 86)) base (.slice (some ⟨w.heap.size, 0, none⟩) 0 0) [] :=
  ⟨fun _ _ => trivial, [], ⟨rfl, .inr ⟨w.heap.size, 0, #[], rfl, hb, blk_new w _, Nat.le_refl _, by decide, rfl, rfl⟩⟩, Reps.none _ _⟩
theorem nil_eq (n c : Nat) (w : World) : (binOp .eql 52 (.slice none n c) (.slice none 0 0)).run Try.prog w = .ok (.bool true) w := by kernel_rfl
theorem some_eq (ad : Addr) (n c : Nat) (w : World) : (binOp .eql 52 (.slice (some ad) n c) (.slice none 0 0)).run Try.prog w = .ok (.bool false) w := by kernel_rfl
set_option maxHeartbeats 4000000 in
set_option maxRecDepth 100000 in
theorem clone_ok : CloneOk := by
  intro A n c l w hC hc hn hl
  subst hn
  rcases A with _ | ad
  · have h0 : l.length = 0 := by
      rcases Nat.eq_zero_or_pos l.length with h | h
      · exact h
      · obtain ⟨ad, e, _⟩ := at_T86 hC 0 (by omega) (by omega)
        cases e
    have hl0 := List.eq_nil_of_length_eq_zero h0
    subst hl0
    clear hC hc hl h0
    have he := nil_eq 0 c
    simp only [List.length_nil]
    go_enter Try.func62, Try.ntmps62
    go_wp2
    go_ret
    exact ⟨_, rfl, Kd.R_nil _ _ _ _ _, Below.refl _ _⟩
  · obtain ⟨N, hN⟩ : ∃ N, N = l.length := ⟨_, rfl⟩
    rw [← hN] at hC hc hl ⊢
    have HN := Aside0.mk hN
    have HC := Aside0.mk hC
    have HCC := Aside0.mk hc
    have HL := Aside0.mk hl
    clear hN hC hc hl
    have HO := Aside0.mk (empty_row w w.heap.size (Nat.le_refl _))
    have he := some_eq ad N c
    go_enter Try.func62, Try.ntmps62
    go_wp2_with (((with_reducible refine gate_builtin (b := .append) (xs := #[.tmp 5, .tmp 6]) rfl ?_); refine Kd.R_append_rows k86 (w0 := w) (Rr := k86.K (w.alloc (.cells #[] 86))) w.heap.size rfl (.tmp 5) (.tmp 6) 52 86 (.agg #[.int .i64 0, .int .i64 0]) 16 rfl Try.underlying52 info86 rfl (by decide) (by decide) (.slice (some ⟨w.heap.size, 0, none⟩) 0 0) [] l (some ad) N c (fun _ => True) (fun _ => False) rfl rfl HO.out (Kd.C_below (show Kd.C k86 w (some ad) N l from HC.out) (below_alloc (Below.refl _ _) _)) (fun x cs h => by obtain rfl := k86_open h; exact k86_mkM _ _ _ _) (fun k hk => hk.elim) (fun _ _ => trivial) (below_alloc (Below.refl _ _) _) (below_size (below_alloc (Below.refl _ _) _)) (by have := HL.out; simp only [List.length_nil]; omega) ?_; intro v9 w9 ho9 hb9 hg9 _; have HO9 := Aside0.mk ho9; have HB9 := Aside0.mk hb9; clear ho9 hb9 hg9))
    go_ret
    exact ⟨_, rfl, HO9.out, HB9.out⟩
end Go.Proofs.Ytfgeeigfbkiibaa.X
namespace Go.Proofs.Ytfgeeigfbkiibaa.X
open Go.RowKit Go.Proofs.YtfgeeigfbkiibaaW.PrintWords Go.Proofs.YtfgeeigfbkiibaaW.PrintLast Go.Proofs.YtfgeeigfbkiibaaW.PrintMore
open Go.Proofs.Ytfgeeigfbkiibaa.XFat
set_option linter.unusedVariables false
set_option linter.unusedSimpArgs false
/-- The free clusters' bytes, those below t. -/
def spL (b : Boot) (nx : List Int) : Nat → List S86
  | 0 => []
  | t + 1 => spL b nx t ++ (if 2 ≤ t ∧ rd nx t = 0 then [⟨atF b t, atF b t + b.b0 * 512⟩] else [])
theorem spL_length (b : Boot) (nx : List Int) (t : Nat) : (spL b nx t).length ≤ t := by
  induction t with
  | zero => simp [spL]
  | succ t ih => unfold spL; rw [List.length_append]; split <;> simp <;> omega
theorem spL_mem (b : Boot) (nx : List Int) (t : Nat) (x : S86) (h : x ∈ spL b nx t) : ∃ i : Nat, i < t ∧ x.f0 = atF b i := by
  induction t with
  | zero => simp [spL] at h
  | succ t ih =>
    unfold spL at h
    rw [List.mem_append] at h
    rcases h with h | h
    · obtain ⟨i, h1, h2⟩ := ih h
      exact ⟨i, by omega, h2⟩
    · split at h
      · simp only [List.mem_singleton] at h
        subst h
        exact ⟨t, by omega, rfl⟩
      · simp at h
theorem atF_lt (b : Boot) (h : 1 ≤ b.b0) (i j : Nat) (hij : i < j) : atF b i < atF b j := by
  unfold atF
  have : ((i : Int) - 2) * b.b0 + b.b0 ≤ ((j : Int) - 2) * b.b0 := by
    have h1 := Int.mul_le_mul_of_nonneg_right (show (i : Int) - 2 + 1 ≤ (j : Int) - 2 by omega) (show 0 ≤ b.b0 by omega)
    rw [Int.add_mul, Int.one_mul] at h1
    exact h1
  omega
theorem spL_sorted (b : Boot) (hb : 1 ≤ b.b0) (nx : List Int) (t : Nat) : Sorted86 (spL b nx t) := by
  induction t with
  | zero => exact List.Pairwise.nil
  | succ t ih =>
    unfold spL Sorted86
    rw [List.pairwise_append]
    refine ⟨ih, ?_, ?_⟩
    · split
      · exact List.pairwise_singleton _ _
      · exact List.Pairwise.nil
    · intro x hx y hy
      split at hy
      · simp only [List.mem_singleton] at hy
        subst hy
        obtain ⟨i, h1, h2⟩ := spL_mem b nx t x hx
        rw [h2]
        exact atF_lt b hb i t h1
      · simp at hy
set_option maxHeartbeats 4000000 in
set_option maxRecDepth 100000 in
theorem space_nil (w : World) : Calls Try.prog 23 #[.pointer none] w fun e w' => e = .returned (.slice none 0 0) ∧ w' = w := by
  go_enter Try.func23, Try.ntmps23
  go_wp2
  go_ret
  exact ⟨rfl, rfl⟩
set_option maxHeartbeats 4000000 in
set_option maxRecDepth 100000 in
theorem space_go (gv gn N : Nat) (b0 b1 b2 b3 b4 b5 b6 b7 f n : Int) (l : List Int) (base : Nat) (w : World) (hne : gn ≠ gv)
   (hv : w.heap[gv]? = some (.cells #[.int .i64 b0, .int .i64 b1, .int .i64 b2, .int .i64 b3, .int .i64 b4, .int .i64 b5, .int .i64 b6, .int .i64 b7, .slice (some ⟨gn, 0, none⟩) N N, .int .i64 f, .int .i64 n] 58 (0, 0))) (h32 : Own32 w base (.slice (some ⟨gn, 0, none⟩) N N) l) (hN2 : N ≤ 4194304) (hg : Good ⟨b0, b1, b2, b3, b4, b5, b6, b7⟩) (hN : N = clN ⟨b0, b1, b2, b3, b4, b5, b6, b7⟩) :
    Calls Try.prog 23 #[.pointer (some ⟨gv, 0, none⟩)] w fun e w' => ∃ u, e = .returned u ∧ Row w' w.heap.size u (normL (spL ⟨b0, b1, b2, b3, b4, b5, b6, b7⟩ l N)) ∧ Below w.heap.size w w' := by
  have HV := Aside0.mk hv
  have H32 := Aside0.mk h32
  have HN2 := Aside0.mk hN2
  have HG := Aside0.mk hg
  have HN := Aside0.mk hN
  have HLN : Aside0 (l.length = N) := ⟨h32.n⟩
  have HB := Aside0.mk (Below.refl w.heap.size w)
  clear hv h32 hN2 hg hN
  go_enter Try.func23, Try.ntmps23
  go_wp2_with fail
  go_loopw [3, 4] (fun v3 v4 wr => ∃ t : Nat, v4 = .int .i64 t ∧ 2 ≤ t ∧ t ≤ N ∧ Aside0 (Row wr w.heap.size v3 (spL ⟨b0, b1, b2, b3, b4, b5, b6, b7⟩ l t)) ∧ Aside0 (Below w.heap.size w wr)) (fun _ v _ => N - (intOf v).toNat)
  case atStart => exact ⟨2, rfl, by omega, by have := HG.out.n0; have := HN.out; unfold clN at this; omega, ⟨(by simp [spL] : spL ⟨b0, b1, b2, b3, b4, b5, b6, b7⟩ l 2 = []) ▸ Kd.R_nil _ _ _ _ _⟩, HB⟩
  case round =>
    clear HB
    obtain ⟨t, rfl, ht2, htN, HO, HB⟩ := hrel
    have hvr := box_below HV.out HB.out
    have q8 : wr.cell? ⟨gv, 8, none⟩ = some (.slice (some ⟨gn, 0, none⟩) N N) := (blk_cell hvr 8).trans rfl
    by_cases hlt : t < N
    · have ht0 : (0 : Int) ≤ (t : Int) := by omega
      have htl : (t : Int) < (N : Int) := by omega
      have hw1 : IntKind.i64.wrap ((t : Int) + 1) = ((t + 1 : Nat) : Int) := by have := HN2.out; rw [iw (by omega) (by omega)]; omega
      have hstep : spL ⟨b0, b1, b2, b3, b4, b5, b6, b7⟩ l (t + 1) = spL ⟨b0, b1, b2, b3, b4, b5, b6, b7⟩ l t ++ (if 2 ≤ t ∧ rd l t = 0 then [⟨atF ⟨b0, b1, b2, b3, b4, b5, b6, b7⟩ t, atF ⟨b0, b1, b2, b3, b4, b5, b6, b7⟩ t + b0 * 512⟩] else []) := rfl
      obtain ⟨c1, _⟩ := (H32.out.below HB.out).at_ t (by rw [HLN.out]; exact hlt)
      obtain ⟨x, hx⟩ : ∃ x, x = rd l ((t : Nat) : Int) := ⟨_, rfl⟩
      rw [← hx] at c1 hstep
      have HST := Aside0.mk hstep
      have HAT := Aside0.mk (fun W => At_calls b0 b1 b2 b3 b4 b5 b6 b7 (t : Int) HG.out (by omega) (by have h1 := HN.out; have h2 := HG.out.n0; unfold clN at h1; omega) W)
      obtain ⟨a0, ha0⟩ : ∃ a, a = atF ⟨b0, b1, b2, b3, b4, b5, b6, b7⟩ t := ⟨_, rfl⟩
      rw [← ha0] at HAT HST
      obtain ⟨a1, ha1⟩ : ∃ a, a = a0 + b0 * 512 := ⟨_, rfl⟩
      rw [← ha1] at HAT HST
      clear hx hstep ha0 ha1
      have y0 : wr.cell? ⟨gv, 0, none⟩ = some (.int .i64 b0) := (blk_cell hvr 0).trans rfl
      have y1 : wr.cell? ⟨gv, 1, none⟩ = some (.int .i64 b1) := (blk_cell hvr 1).trans rfl
      have y2 : wr.cell? ⟨gv, 2, none⟩ = some (.int .i64 b2) := (blk_cell hvr 2).trans rfl
      have y3 : wr.cell? ⟨gv, 3, none⟩ = some (.int .i64 b3) := (blk_cell hvr 3).trans rfl
      have y4 : wr.cell? ⟨gv, 4, none⟩ = some (.int .i64 b4) := (blk_cell hvr 4).trans rfl
      have y5 : wr.cell? ⟨gv, 5, none⟩ = some (.int .i64 b5) := (blk_cell hvr 5).trans rfl
      have y6 : wr.cell? ⟨gv, 6, none⟩ = some (.int .i64 b6) := (blk_cell hvr 6).trans rfl
      have y7 : wr.cell? ⟨gv, 7, none⟩ = some (.int .i64 b7) := (blk_cell hvr 7).trans rfl
      clear hvr
      have HVR := Aside0.mk (box_below HV.out HB.out)
      by_cases hx : x = 0
      · subst hx
        go_wp2_with (first | (go_at_call 49; refine (HAT.out _).mono ?_; rintro e w5 ⟨rfl, hb5⟩; have HO5 : Aside0 (Row w5 w.heap.size u3 (spL ⟨b0, b1, b2, b3, b4, b5, b6, b7⟩ l t)) := ⟨Kd.R_below HO.out hb5⟩; have HB5 := Aside0.mk (below_step HB.out hb5); clear hb5) | ((with_reducible refine gate_builtin (b := .append) (xs := #[.tmp 24, .tmp 31]) rfl ?_); refine Kd.R_append k86 (w0 := w) w.heap.size rfl (.tmp 24) (.tmp 31) 52 86 (.agg #[.int .i64 0, .int .i64 0]) 16 rfl Try.underlying52 info86 rfl (by decide) (by decide) u3 _ ⟨a0, a1⟩ [.int .i64 a0, .int .i64 a1] (fun _ => True) (fun _ => False) rfl rfl (k86_mkM _ _ _ _) (fun k hk => hk.elim) (fun _ _ => trivial) HO5.out HB5.out (below_size HB5.out) (by have := spL_length ⟨b0, b1, b2, b3, b4, b5, b6, b7⟩ l t; have := HN2.out; omega) ?_; intro v9 w9 ho9 hb9 hg9 _; have HO9 := Aside0.mk ho9; have HB9 := Aside0.mk hb9; clear ho9 hb9 hg9))
        go_roundw
        case rel => exact ⟨t + 1, by go_num, by omega, by omega, ⟨by rw [HST.out, if_pos ⟨ht2, trivial⟩]; exact HO9.out⟩, HB9⟩
        case measure => simp [intOf]; omega
      · have hx1 : (x == 0) = false := by simp [hx]
        have HX := Aside0.mk hx
        go_wp2_with fail
        go_roundw
        case rel => exact ⟨t + 1, by go_num, by omega, by omega, ⟨by rw [HST.out, if_neg (fun h => HX.out h.2), List.append_nil]; exact HO.out⟩, HB⟩
        case measure => simp [intOf]; omega
    · obtain rfl : t = N := by omega
      obtain ⟨A3, c3, rfl⟩ := Kd.R_slice HO.out
      have HNO := Aside0.mk (norm_go clone_ok sort_ok A3 _ c3 _ wr (Kd.R_reads' HO.out).2.2 (Kd.R_reads' HO.out).2.1 rfl (spL_sorted _ HG.out.e0 _ _) (by have := spL_length ⟨b0, b1, b2, b3, b4, b5, b6, b7⟩ l t; have := HN2.out; omega))
      obtain ⟨M, hM⟩ : ∃ M, M = (spL ⟨b0, b1, b2, b3, b4, b5, b6, b7⟩ l t).length := ⟨_, rfl⟩
      rw [← hM] at HNO ⊢
      clear hM
      go_wp2_with fail
      refine HNO.out.mono ?_
      rintro e w5 ⟨u, rfl, hr, hb⟩
      have HR5 := Aside0.mk hr
      have HB5 := Aside0.mk hb
      clear hr hb
      go_wp2_with fail
      go_ret
      exact ⟨_, rfl, Kd.R_lower HR5.out (below_size HB.out), below_step HB.out HB5.out⟩
end Go.Proofs.Ytfgeeigfbkiibaa.X
namespace Go.Proofs.Ytfgeeigfbkiibaa.X
open Go.RowKit Go.Proofs.YtfgeeigfbkiibaaW.PrintWords Go.Proofs.YtfgeeigfbkiibaaW.PrintLast Go.Proofs.YtfgeeigfbkiibaaW.PrintMore
open Go.Proofs.Ytfgeeigfbkiibaa.XFat
set_option linter.unusedVariables false
set_option linter.unusedSimpArgs false
theorem sub_zeros (m a n : Nat) (h : a + n ≤ m) : sub (zeros m) a n = zeros n := by
  unfold sub zeros
  rw [List.drop_replicate, List.take_replicate, Nat.min_eq_left (by omega)]
theorem sub_spl_in (l : List Int) (a b n : Nat) (bs : List Int) (h : a + bs.length ≤ l.length) (h1 : b ≤ a) (h2 : a + bs.length ≤ b + n) (h3 : b + n ≤ l.length) : sub (spl l a bs) b n = spl (sub l b n) (a - b) bs := by
  apply List.ext_getElem?
  intro i
  rw [sub_get, spl_get _ _ _ h, spl_get _ _ _ (by rw [sub_length l b n h3]; omega), sub_get]
  by_cases hi : i < n
  · rw [if_pos hi]
    by_cases ha : a ≤ b + i ∧ b + i < a + bs.length
    · rw [if_pos ha, if_pos (by omega), show b + i - a = i - (a - b) by omega]
    · rw [if_neg ha, if_neg (by omega), if_pos hi]
  · rw [if_neg hi, if_neg (by omega), if_neg hi]
theorem zeros_isB (n : Nat) : IsB (zeros n) := by
  intro x hx
  have := (List.mem_replicate.1 hx).2
  omega
/-- A table that says that the root's cluster alone is in use. -/
def tab0 (n : Nat) : List Int := spl (spl (spl (zeros n) 0 (le 4 268435448)) 4 (le 4 268435455)) 8 (le 4 268435455)
def madeB (e s L : Nat) (cl : Int) : List Int := tabs L (spl (spl (spl (zeros (s * 512)) 0 (bootBytes e 4 2 s L 2 1 2 (zeros 512))) 512 (countBytes (cl - 1) 3)) 1024 (bootBytes e 4 2 s L 2 1 2 (zeros 512))) 2
def bootM (e s L : Nat) : Boot := ⟨e, 4, 2, s, L, 2, 1, 2⟩
structure MadeSub (m : List Int) (e s L : Nat) (cl : Int) : Prop where
  len : m.length = s * 512
  b0 : sub m 0 512 = bootBytes e 4 2 s L 2 1 2 (zeros 512)
  c0 : sub m 512 512 = countBytes (cl - 1) 3
  b1 : sub m 1024 512 = bootBytes e 4 2 s L 2 1 2 (zeros 512)
  t0 : sub m (512 * 4) (512 * L) = tab0 (512 * L)
  t1 : sub m (512 * (4 + L)) (512 * L) = tab0 (512 * L)
theorem made_sub (e s L : Nat) (cl : Int) (hD : 4 + 2 * L < s) (hL : 1 ≤ L) : MadeSub (madeB e s L cl) e s L cl := by
  have nb : (bootBytes e 4 2 s L 2 1 2 (zeros 512)).length = 512 := bootBytes_length _ _ _ _ _ _ _ _ _ (zeros_length 512)
  have nc : (countBytes (cl - 1) 3).length = 512 := countBytes_length _ _
  unfold madeB
  simp only [tabs]
  obtain ⟨B, hB⟩ : ∃ B, B = bootBytes e 4 2 s L 2 1 2 (zeros 512) := ⟨_, rfl⟩
  obtain ⟨C, hC⟩ : ∃ C, C = countBytes (cl - 1) 3 := ⟨_, rfl⟩
  rw [← hB] at nb ⊢
  rw [← hC] at nc ⊢
  simp only [Nat.zero_mul, Nat.add_zero, Nat.zero_add, Nat.one_mul]
  obtain ⟨D, hDD⟩ : ∃ D, D = s * 512 := ⟨_, rfl⟩
  rw [← hDD]
  have hb : (4 + 2 * L) * 512 < D := by omega
  obtain ⟨m1, e1⟩ : ∃ m, m = spl (zeros D) 0 B := ⟨_, rfl⟩
  have n1 : m1.length = D := by rw [e1]; exact spl_len (zeros_length D) (by omega)
  obtain ⟨m2, e2⟩ : ∃ m, m = spl m1 512 C := ⟨_, rfl⟩
  have n2 : m2.length = D := by rw [e2]; exact spl_len n1 (by omega)
  obtain ⟨m3, e3⟩ : ∃ m, m = spl m2 1024 B := ⟨_, rfl⟩
  have n3 : m3.length = D := by rw [e3]; exact spl_len n2 (by omega)
  obtain ⟨m4, e4⟩ : ∃ m, m = spl m3 (4 * 512) (le 4 268435448) := ⟨_, rfl⟩
  have n4 : m4.length = D := by rw [e4]; exact spl_len n3 (by rw [le_length]; omega)
  obtain ⟨m5, e5⟩ : ∃ m, m = spl m4 (4 * 512 + 4) (le 4 268435455) := ⟨_, rfl⟩
  have n5 : m5.length = D := by rw [e5]; exact spl_len n4 (by rw [le_length]; omega)
  obtain ⟨m6, e6⟩ : ∃ m, m = spl m5 (4 * 512 + 8) (le 4 268435455) := ⟨_, rfl⟩
  have n6 : m6.length = D := by rw [e6]; exact spl_len n5 (by rw [le_length]; omega)
  obtain ⟨m7, e7⟩ : ∃ m, m = spl m6 ((4 + L) * 512) (le 4 268435448) := ⟨_, rfl⟩
  have n7 : m7.length = D := by rw [e7]; exact spl_len n6 (by rw [le_length]; omega)
  obtain ⟨m8, e8⟩ : ∃ m, m = spl m7 ((4 + L) * 512 + 4) (le 4 268435455) := ⟨_, rfl⟩
  have n8 : m8.length = D := by rw [e8]; exact spl_len n7 (by rw [le_length]; omega)
  obtain ⟨m9, e9⟩ : ∃ m, m = spl m8 ((4 + L) * 512 + 8) (le 4 268435455) := ⟨_, rfl⟩
  have n9 : m9.length = D := by rw [e9]; exact spl_len n8 (by rw [le_length]; omega)
  rw [← e1, ← e2, ← e3, ← e4, ← e5, ← e6, ← e7, ← e8, ← e9]
  have q {a : Nat} (h : a + 512 ≤ 2048) : sub m9 a 512 = sub m3 a 512 := by
    rw [e9, sub_ap (k := 4) n8 (le_length 4 _) (by omega) (by omega), e8, sub_ap (k := 4) n7 (le_length 4 _) (by omega) (by omega), e7, sub_ap (k := 4) n6 (le_length 4 _) (by omega) (by omega),
      e6, sub_ap (k := 4) n5 (le_length 4 _) (by omega) (by omega), e5, sub_ap (k := 4) n4 (le_length 4 _) (by omega) (by omega), e4, sub_ap (k := 4) n3 (le_length 4 _) (by omega) (by omega)]
  have z {a : Nat} (ha : 2048 ≤ a) (h : a + 512 * L ≤ D) : sub m3 a (512 * L) = zeros (512 * L) := by
    rw [e3, sub_ap (k := 512) n2 nb (by omega) (by omega), e2, sub_ap (k := 512) n1 nc (by omega) (by omega), e1, sub_ap (k := 512) (zeros_length D) nb (by omega) (by omega), sub_zeros _ _ _ h]
  refine ⟨n9.trans hDD, ?_, ?_, ?_, ?_, ?_⟩
  · rw [q (by omega), e3, sub_ap (k := 512) n2 nb (by omega) (by omega), e2, sub_ap (k := 512) n1 nc (by omega) (by omega), e1, sub_sm (k := 512) (zeros_length D) nb (by omega)]; exact hB
  · rw [q (by omega), e3, sub_ap (k := 512) n2 nb (by omega) (by omega), e2, sub_sm (k := 512) n1 nc (by omega)]; exact hC
  · rw [q (by omega), e3, sub_sm (k := 512) n2 nb (by omega)]; exact hB
  · rw [e9, sub_ap (k := 4) n8 (le_length 4 _) (by omega) (by omega), e8, sub_ap (k := 4) n7 (le_length 4 _) (by omega) (by omega), e7, sub_ap (k := 4) n6 (le_length 4 _) (by omega) (by omega),
      e6, sub_spl_in _ _ _ _ _ (by rw [n5, le_length]; omega) (by omega) (by rw [le_length]; omega) (by omega), e5, sub_spl_in _ _ _ _ _ (by rw [n4, le_length]; omega) (by omega) (by rw [le_length]; omega) (by omega),
      e4, sub_spl_in _ _ _ _ _ (by rw [n3, le_length]; omega) (by omega) (by rw [le_length]; omega) (by omega), z (by omega) (by omega)]
    rw [show 4 * 512 - 512 * 4 = 0 by omega, show 4 * 512 + 4 - 512 * 4 = 4 by omega, show 4 * 512 + 8 - 512 * 4 = 8 by omega]; rfl
  · rw [e9, sub_spl_in _ _ _ _ _ (by rw [n8, le_length]; omega) (by omega) (by rw [le_length]; omega) (by omega), e8, sub_spl_in _ _ _ _ _ (by rw [n7, le_length]; omega) (by omega) (by rw [le_length]; omega) (by omega),
      e7, sub_spl_in _ _ _ _ _ (by rw [n6, le_length]; omega) (by omega) (by rw [le_length]; omega) (by omega),
      e6, sub_ap (k := 4) n5 (le_length 4 _) (by omega) (by omega), e5, sub_ap (k := 4) n4 (le_length 4 _) (by omega) (by omega), e4, sub_ap (k := 4) n3 (le_length 4 _) (by omega) (by omega), z (by omega) (by omega)]
    rw [show (4 + L) * 512 - 512 * (4 + L) = 0 by omega, show (4 + L) * 512 + 4 - 512 * (4 + L) = 4 by omega, show (4 + L) * 512 + 8 - 512 * (4 + L) = 8 by omega]; rfl
/-- The table of a volume that holds nothing. -/
def madeN (N : Nat) : List Int := (List.range N).map (fun i => if i = 2 then 268435455 else 0)
theorem num_zeros (n : Nat) : num (zeros n) = 0 := by
  induction n with
  | zero => rfl
  | succ n ih => unfold zeros at ih ⊢; rw [List.replicate_succ]; simp only [num, ih]; omega
theorem next_tab0 (n N : Nat) (h : 4 * N ≤ n) : nextS (tab0 n) N N = madeN N := by
  unfold nextS madeN
  refine List.map_congr_left fun i hi => ?_
  have hi' := List.mem_range.1 hi
  have n1 : (zeros n).length = n := zeros_length n
  by_cases h2 : 2 ≤ i
  · rw [if_pos ⟨h2, hi'⟩]
    have n2 : (spl (zeros n) 0 (le 4 268435448)).length = n := spl_len n1 (by rw [le_length]; omega)
    have n3 : (spl (spl (zeros n) 0 (le 4 268435448)) 4 (le 4 268435455)).length = n := spl_len n2 (by rw [le_length]; omega)
    by_cases h3 : i = 2
    · subst h3
      rw [if_pos rfl]
      unfold tab0
      rw [show 4 * 2 = 8 from rfl, sub_sm (k := 4) n3 (le_length 4 _) (by omega), num_le4 _ (by decide) (by decide)]
      decide
    · rw [if_neg h3]
      unfold tab0
      rw [sub_ap (k := 4) n3 (le_length 4 _) (by omega) (by omega), sub_ap (k := 4) n2 (le_length 4 _) (by omega) (by omega), sub_ap (k := 4) n1 (le_length 4 _) (by omega) (by omega), sub_zeros _ _ _ (by omega), num_zeros]
      rfl
  · rw [if_neg (by omega), if_neg (by omega)]
theorem madeN_count (N : Nat) (h : 3 ≤ N) : ((madeN N).drop 2).count 0 = N - 3 := by
  obtain ⟨k, rfl⟩ : ∃ k, N = k + 3 := ⟨N - 3, by omega⟩
  have : (madeN (k + 3)).drop 2 = 268435455 :: List.replicate k 0 := by
    refine List.ext_getElem (by simp [madeN]) fun i h1 h2 => ?_
    simp only [madeN, List.getElem_drop, List.getElem_map, List.getElem_range]
    rcases i with _ | i
    · rfl
    · rw [if_neg (by omega), List.getElem_cons_succ, List.getElem_replicate]
  rw [this, List.count_cons_of_ne (by decide), List.count_replicate_self]
  omega
theorem made_open (e s L : Nat) (cl : Int) (hD : 4 + 2 * L < s) (hL : 1 ≤ L) (hck : ckB (bootM e s L) = 0) (hcl : clusW (bootM e s L) = cl) : openS (madeB e s L cl) = (some ⟨bootM e s L, madeN (clN (bootM e s L)), cl - 1, 3⟩, 0) := by
  have hm := made_sub e s L cl hD hL
  have hg := ck_good hck
  have hn0 := hg.n0
  have hn1 := hg.n1
  have hs1 := hg.s1
  rw [hcl] at hn0 hn1
  simp only [bootM] at hn1 hs1
  have hcN : clN (bootM e s L) = cl.toNat + 2 := by unfold clN; rw [hcl]
  generalize madeB e s L cl = m at *
  have hp : parseS (sub m 0 512) (ckB (bootOf (sub m 0 512))) = (bootM e s L, 0) := by
    rw [hm.b0]; exact parse_back (bootM e s L) hck _ (boot_sub _ _ _ _ _ _ _ _ _ (zeros_length 512))
  have hc : countsS (sub m (512 * (bootM e s L).b6.toNat) 512) = ((cl - 1, 3), 0) := by
    show countsS (sub m (512 * 1) 512) = _
    rw [show 512 * 1 = 512 from rfl, hm.c0]
    exact counts_back _ _ (by omega) (by omega) (by decide) (by decide)
  have ht0 : tabB m (bootM e s L) 0 = tab0 (512 * L) := by
    unfold tabB bootM; simp only [Int.toNat_natCast, Nat.zero_mul, Nat.add_zero]; exact hm.t0
  have ht1 : tabB m (bootM e s L) 1 = tab0 (512 * L) := by
    unfold tabB bootM; simp only [Int.toNat_natCast, Nat.one_mul]; exact hm.t1
  have hnx : nextS (tabB m (bootM e s L) 0) (clN (bootM e s L)) (clN (bootM e s L)) = madeN (clN (bootM e s L)) := by
    rw [ht0]; exact next_tab0 _ _ (by rw [hcN]; omega)
  rw [openS_f (by rw [hm.len]; omega) hp hc rfl (by simp only [bootM]; rw [hm.len]; omega) (by
    intro h
    exact h.2 (by show sub m (512 * 2) 512 = _; rw [show 512 * 2 = 1024 from rfl, hm.b1, hm.b0])) rfl (by rw [ht0, ht1]; exact fun h => h.2 rfl), hnx, if_neg]
  rintro ⟨_, h2⟩
  apply h2
  rw [madeN_count _ (by rw [hcN]; omega), hcN]
  omega
end Go.Proofs.Ytfgeeigfbkiibaa.X
namespace Go.Proofs.Ytfgeeigfbkiibaa.X
open Go.RowKit Go.Proofs.YtfgeeigfbkiibaaW.PrintWords Go.Proofs.YtfgeeigfbkiibaaW.PrintLast Go.Proofs.YtfgeeigfbkiibaaW.PrintMore
open Go.Proofs.Ytfgeeigfbkiibaa.XFat
set_option linter.unusedVariables false
set_option linter.unusedSimpArgs false
theorem normL_snoc (l : List S86) (x : S86) : normL (l ++ [x]) = norm1 (normL l) x := by
  unfold normL; rw [List.foldl_append]; rfl
theorem rd_madeN (N t : Nat) (h : t < N) : rd (madeN N) t = if t = 2 then 268435455 else 0 := by
  unfold rd madeN
  rw [Int.toNat_natCast, List.getD_eq_getElem?_getD, List.getElem?_map, List.getElem?_range h]
  rfl
theorem atF_succ (b : Boot) (t : Nat) : atF b ((t + 1 : Nat) : Int) = atF b t + b.b0 * 512 := by
  unfold atF
  have : (((t + 1 : Nat) : Int) - 2) * b.b0 = ((t : Int) - 2) * b.b0 + b.b0 := by
    rw [show (((t + 1 : Nat) : Int) - 2) = ((t : Int) - 2) + 1 by omega, Int.add_mul, Int.one_mul]
  rw [this]; omega
theorem spL_made (b : Boot) (hb : 1 ≤ b.b0) (N t : Nat) (h : t ≤ N) : normL (spL b (madeN N) t) = if t ≤ 3 then [] else [⟨atF b 3, atF b t⟩] := by
  induction t with
  | zero => rfl
  | succ t ih =>
    have hi := ih (by omega)
    unfold spL
    by_cases hc : 2 ≤ t ∧ rd (madeN N) t = 0
    · rw [if_pos hc, normL_snoc, hi]
      have h3 : 3 ≤ t := by
        rcases Nat.lt_or_ge t 3 with h3 | h3
        · have ht : t = 2 := by omega
          subst ht
          have := hc.2
          rw [rd_madeN N 2 (by omega)] at this
          simp at this
        · exact h3
      have hpos : ¬ (atF b t + b.b0 * 512 ≤ atF b t) := by omega
      rw [if_neg (show ¬ (t + 1 ≤ 3) by omega), atF_succ]
      by_cases h4 : t ≤ 3
      · obtain rfl : t = 3 := by omega
        rw [if_pos h4]; unfold norm1; rw [if_neg hpos]; rfl
      · rw [if_neg h4]; unfold norm1; rw [if_neg hpos]
        simp only [List.getLast?_singleton, Int.le_refl, if_true, List.dropLast_singleton, List.nil_append]
        have : mx (atF b t) (atF b t + b.b0 * 512) = atF b t + b.b0 * 512 := by unfold mx; split <;> omega
        rw [this]
    · rw [if_neg hc, List.append_nil, hi]
      have h2 : t ≤ 2 := by
        rcases Nat.lt_or_ge t 3 with h3 | h3
        · omega
        · exfalso; apply hc; exact ⟨by omega, by rw [rd_madeN N t (by omega), if_neg (by omega)]⟩
      rw [if_pos (by omega), if_pos (by omega)]
theorem ckM : ckB (bootM 1 64 1) = 0 := by kernel_rfl
theorem clM : clusW (bootM 1 64 1) = 58 := by kernel_rfl
theorem one_isB (x : Int) (h : 0 ≤ x ∧ x < 256) : IsB [x] := by intro y hy; rw [List.mem_singleton] at hy; omega
theorem magic_isB : IsB [70, 65, 84, 51, 50, 32, 32, 32] := by intro x hx; simp only [List.mem_cons, List.not_mem_nil, or_false] at hx; omega
theorem bootBytes_isB (b0 b1 b2 b3 b4 b5 b6 b7 : Int) (l : List Int) (h : IsB l) : IsB (bootBytes b0 b1 b2 b3 b4 b5 b6 b7 l) :=
  (spl_isB _ (spl_isB _ (spl_isB _ (spl_isB _ (spl_isB _ (spl_isB _ (spl_isB _ (spl_isB _ (spl_isB _ (spl_isB _ (spl_isB _ (spl_isB _ (spl_isB _ (spl_isB _ (spl_isB _ (spl_isB _ h (le_isB _ _)) (one_isB _ (by omega))) (one_isB _ (by omega))) (le_isB _ _)) (le_isB _ _)) (le_isB _ _)) (le_isB _ _)) (le_isB _ _)) (le_isB _ _)) (le_isB _ _)) (le_isB _ _)) (le_isB _ _)) (le_isB _ _)) magic_isB) (one_isB _ (by omega))) (one_isB _ (by omega)))
theorem countBytes_isB (a b : Int) : IsB (countBytes a b) := (spl_isB _ (spl_isB _ (spl_isB _ (spl_isB _ (spl_isB _ (zeros_isB _) (le_isB _ _)) (le_isB _ _)) (le_isB _ _)) (le_isB _ _)) (le_isB _ _))
theorem madeB_isB (e s L : Nat) (cl : Int) : IsB (madeB e s L cl) := by
  unfold madeB
  simp only [tabs]
  exact (spl_isB _ (spl_isB _ (spl_isB _ (spl_isB _ (spl_isB _ (spl_isB _ (spl_isB _ (spl_isB _ (spl_isB _ (zeros_isB _) (bootBytes_isB _ _ _ _ _ _ _ _ _ (zeros_isB _))) (countBytes_isB _ _)) (bootBytes_isB _ _ _ _ _ _ _ _ _ (zeros_isB _))) (le_isB _ _)) (le_isB _ _)) (le_isB _ _)) (le_isB _ _)) (le_isB _ _)) (le_isB _ _))
theorem dataM : dataW (bootM 1 64 1) = 6 := by kernel_rfl
theorem at3M : atF (bootM 1 64 1) 3 = 3584 := by kernel_rfl
set_option maxHeartbeats 4000000 in
set_option maxRecDepth 100000 in
theorem made_go (w : World) : Calls Try.prog 9 #[] w fun e w' => e = .returned (.bool true) ∧ Below w.heap.size w w' := by
  have HM := Aside0.mk (make_yes 64 1 1 58 w (by decide) (by decide) (by decide) (by decide) (by decide) (by decide) (by decide) (by decide) (fun W => by have := Check_calls (bootM 1 64 1) W; rw [ckM] at this; exact this) (fun W => by have := Clus_calls (bootM 1 64 1) W; rw [clM] at this; exact this))
  have HS := made_sub 1 64 1 58 (by decide) (by decide)
  have HIO := Aside0.mk (made_open 1 64 1 58 (by decide) (by decide) ckM clM)
  have HIB := Aside0.mk (madeB_isB 1 64 1 58)
  have hM : tabs 1 (spl (spl (spl (zeros (64 * 512)) 0 (bootBytes ((1 : Nat) : Int) 4 2 ((64 : Nat) : Int) ((1 : Nat) : Int) 2 1 2 (zeros 512))) 512 (countBytes (58 - 1) 3)) 1024 (bootBytes ((1 : Nat) : Int) 4 2 ((64 : Nat) : Int) ((1 : Nat) : Int) 2 1 2 (zeros 512))) 2 = madeB 1 64 1 58 := rfl
  rw [hM] at HM
  clear hM
  obtain ⟨m, hm⟩ : ∃ m, m = madeB 1 64 1 58 := ⟨_, rfl⟩
  rw [← hm] at HM HIO HIB
  have HL : Aside0 (m.length = 32768) := ⟨by rw [hm]; exact HS.len⟩
  clear HS hm
  have hcN : clN (bootM 1 64 1) = 60 := by unfold clN; rw [clM]; rfl
  rw [hcN] at HIO
  clear hcN
  go_enter Try.func9, Try.ntmps9
  go_wp2_with fail
  refine HM.out.mono ?_
  rintro e w1 ⟨v1, rfl, ho, hb⟩
  obtain ⟨A1, c1, rfl⟩ := ho.slice
  have hr := ho.reads
  have hc := ho.cap
  rw [HL.out] at hr hc ⊢
  have HO := Aside0.mk (open_go A1 c1 m w1 (by rw [HL.out]; exact hr) (by rw [HL.out]; exact hc) (by rw [HL.out]; decide) (by rw [HL.out]; decide) HIB.out)
  rw [HL.out] at HO
  have HB := Aside0.mk hb
  clear ho hr hc hb
  go_wp2_with fail
  refine HO.out.mono ?_
  rintro e w2 ⟨hb, hp⟩
  rcases hp with ⟨h1, _⟩ | ⟨v, gv, h1, rfl, hv⟩
  · rw [HIO.out] at h1; cases h1
  rw [HIO.out] at h1
  obtain rfl := (Option.some.inj (Prod.mk.inj h1).1)
  replace HB := Aside0.mk (below_step HB.out hb)
  obtain ⟨hgv, gn, N, hne, hN3, hN4, hv1, h32⟩ := hv
  have hNN : N = 60 := by have := h32.n; rw [← this]; simp [madeN]
  subst hNN
  have HV := Aside0.mk hv1
  have H32 := Aside0.mk h32
  have HNE := Aside0.mk hne
  clear h1 hb hgv hN3 hN4 hv1 h32 hne HO HM HIO HIB
  change Aside0 (w2.heap[gv]? = some (.cells #[.int .i64 1, .int .i64 4, .int .i64 2, .int .i64 64, .int .i64 1, .int .i64 2, .int .i64 1, .int .i64 2, .slice (some ⟨gn, 0, none⟩) 60 60, .int .i64 57, .int .i64 3] 58 (0, 0))) at HV
  change Aside0 (Own32 w2 w1.heap.size (.slice (some ⟨gn, 0, none⟩) 60 60) (madeN 60)) at H32
  have y0 : w2.cell? ⟨gv, 0, none⟩ = some (.int .i64 1) := (blk_cell HV.out 0).trans rfl
  have y1 : w2.cell? ⟨gv, 1, none⟩ = some (.int .i64 4) := (blk_cell HV.out 1).trans rfl
  have y2 : w2.cell? ⟨gv, 2, none⟩ = some (.int .i64 2) := (blk_cell HV.out 2).trans rfl
  have y3 : w2.cell? ⟨gv, 3, none⟩ = some (.int .i64 64) := (blk_cell HV.out 3).trans rfl
  have y4 : w2.cell? ⟨gv, 4, none⟩ = some (.int .i64 1) := (blk_cell HV.out 4).trans rfl
  have y5 : w2.cell? ⟨gv, 5, none⟩ = some (.int .i64 2) := (blk_cell HV.out 5).trans rfl
  have y6 : w2.cell? ⟨gv, 6, none⟩ = some (.int .i64 1) := (blk_cell HV.out 6).trans rfl
  have y7 : w2.cell? ⟨gv, 7, none⟩ = some (.int .i64 2) := (blk_cell HV.out 7).trans rfl
  have HD := Aside0.mk (fun W => by have := Data_calls (bootM 1 64 1) W; rw [dataM] at this; exact this)
  have HCl := Aside0.mk (fun W => by have := Clus_calls (bootM 1 64 1) W; rw [clM] at this; exact this)
  have HSP : Aside0 (∀ W, Below w2.heap.size w2 W → Calls Try.prog 23 #[.pointer (some ⟨gv, 0, none⟩)] W fun e w' => ∃ A c, e = .returned (.slice A 1 c) ∧ Row w' W.heap.size (.slice A 1 c) [⟨3584, atF (bootM 1 64 1) 60⟩] ∧ Below W.heap.size W w') := ⟨fun W hW => by
    have := space_go gv gn 60 1 4 2 64 1 2 1 2 57 3 (madeN 60) w1.heap.size W HNE.out (box_below HV.out hW) (H32.out.below hW) (by decide) (ck_good ckM) (by unfold clN; rw [show clusW ⟨1, 4, 2, 64, 1, 2, 1, 2⟩ = 58 from clM]; rfl)
    refine this.mono ?_
    rintro e w' ⟨u, rfl, hr, hb⟩
    rw [show normL (spL ⟨1, 4, 2, 64, 1, 2, 1, 2⟩ (madeN 60) 60) = [⟨3584, atF (bootM 1 64 1) 60⟩] by
      have := spL_made (bootM 1 64 1) (by decide) 60 60 (Nat.le_refl _)
      rw [if_neg (by decide), at3M] at this
      exact this] at hr
    obtain ⟨A, c, rfl⟩ := Kd.R_slice hr
    exact ⟨A, c, rfl, hr, hb⟩⟩
  go_wp2_with fail
  refine (HD.out _).mono ?_
  rintro e wa ⟨rfl, hba⟩
  have HA := Aside0.mk hba
  clear hba y0 y1 y2 y3 y4 y5 y6 y7
  have y0 : wa.cell? ⟨gv, 0, none⟩ = some (.int .i64 1) := (blk_cell (box_below HV.out HA.out) 0).trans rfl
  have y1 : wa.cell? ⟨gv, 1, none⟩ = some (.int .i64 4) := (blk_cell (box_below HV.out HA.out) 1).trans rfl
  have y2 : wa.cell? ⟨gv, 2, none⟩ = some (.int .i64 2) := (blk_cell (box_below HV.out HA.out) 2).trans rfl
  have y3 : wa.cell? ⟨gv, 3, none⟩ = some (.int .i64 64) := (blk_cell (box_below HV.out HA.out) 3).trans rfl
  have y4 : wa.cell? ⟨gv, 4, none⟩ = some (.int .i64 1) := (blk_cell (box_below HV.out HA.out) 4).trans rfl
  have y5 : wa.cell? ⟨gv, 5, none⟩ = some (.int .i64 2) := (blk_cell (box_below HV.out HA.out) 5).trans rfl
  have y6 : wa.cell? ⟨gv, 6, none⟩ = some (.int .i64 1) := (blk_cell (box_below HV.out HA.out) 6).trans rfl
  have y7 : wa.cell? ⟨gv, 7, none⟩ = some (.int .i64 2) := (blk_cell (box_below HV.out HA.out) 7).trans rfl
  go_wp2_with fail
  refine (HCl.out _).mono ?_
  rintro e wb ⟨rfl, hbb⟩
  have HBb := Aside0.mk (below_step HA.out hbb)
  clear hbb y0 y1 y2 y3 y4 y5 y6 y7
  go_wp2_with fail
  refine (HSP.out _ HBb.out).mono ?_
  rintro e wc ⟨A4, c4, rfl, hr4, hbc⟩
  have HBc := Aside0.mk (below_step HBb.out hbc)
  clear hbc hr4
  go_wp2_with fail
  refine (HSP.out _ HBc.out).mono ?_
  rintro e wd ⟨A5, c5, rfl, hr5, hbd⟩
  have HBd := Aside0.mk (below_step HB.out (below_step HBc.out hbd))
  obtain ⟨g5, cap5, he5, _⟩ := Kd.R_form hr5 (by decide)
  injection he5 with h51 h52 h53
  clear h52 h53
  subst h51
  obtain ⟨cc, hcl, hMM, hcc, hfr⟩ := Kd.R_elem hr5 z86 0 (by decide) (by decide)
  obtain rfl := k86_openM hMM
  have q0 : wd.cell? ⟨g5, 0, none⟩ = some (.int .i64 3584) := hcc 0 _ rfl
  clear hr5 hbd hMM hcl hcc hfr
  go_wp2_with fail
  go_ret
  exact ⟨rfl, HBd.out⟩
end Go.Proofs.Ytfgeeigfbkiibaa.X
