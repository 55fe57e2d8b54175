/- For every slice of bytes the law FnHexText returns true (its printed function does): a string is decoded from its hexadecimal encoding, and longer strings are rejected. -/
import Derived.Test.YtkfolpcmehmmlaaDoorPFnHexTextx2
import Derived.Test.YtkfolpcmehmmlaaDoorKit
namespace Go.Proofs.YtkfolpcmehmmlaaDoor.Pure
open Go.RowKit Go.Proofs.YtkfolpcmehmmlaaDoor.PFnHexText Go.Proofs.YtkfolpcmehmmlaaDoorW.PrintWords Go.Proofs.YtkfolpcmehmmlaaDoorW.PrintLast Go.Proofs.YtkfolpcmehmmlaaDoorW.PrintMore Go.Proofs.YtkfolpcmehmmlaaDoor.Kit
set_option linter.unusedVariables false
set_option linter.unusedSimpArgs false

/-- A half byte's digit. -/
def figM (n : Int) : Int := if n < 10 then 48 + n else 87 + n
def encM (l : List Int) : List Int := l.flatMap fun b => [figM (b / 16), figM (b % 16)]
theorem encM_nil : encM [] = [] := rfl
theorem encM_cons (b : Int) (l : List Int) : encM (b :: l) = [figM (b / 16), figM (b % 16)] ++ encM l := by simp [encM]
theorem encM_length (l : List Int) : (encM l).length = 2 * l.length := by
  induction l with
  | nil => rfl
  | cons b l ih => rw [encM_cons, List.length_append, ih]; simp; omega
theorem bytes_drop (s : ByteArray) (i : Nat) (h : i < s.size) : (bytesOf s).drop i = bt s i :: (bytesOf s).drop (i + 1) := by
  have hl : i < (bytesOf s).length := by rw [bytesOf_length]; exact h
  rw [List.drop_eq_getElem_cons hl]
  congr 1
  have := rd_bytesOf s i
  rw [← this]
  simp [rd, List.getD_eq_getElem?_getD, List.getElem?_eq_getElem hl]
theorem bytes_drop_end (s : ByteArray) (i : Nat) (h : s.size ≤ i) : (bytesOf s).drop i = [] := List.drop_eq_nil_of_le (by rw [bytesOf_length]; exact h)
theorem bytes_range (s : ByteArray) : ∀ x ∈ bytesOf s, 0 ≤ x ∧ x ≤ 255 := by
  intro x hx
  simp only [bytesOf, List.mem_map] at hx
  obtain ⟨b, _, rfl⟩ := hx
  have := b.toNat_lt
  omega
theorem strOf_bytes (s : ByteArray) : strOfNums (bytesOf s) = s := by
  cases s with
  | mk a =>
    have e : (fun n : Int => UInt8.ofNat n.toNat) ∘ (fun b : UInt8 => (b.toNat : Int)) = id := by
      funext b
      simp
    simp [strOfNums, bytesOf, e]
theorem table_eq : ∀ n : Fin 16, bt (⟨#[48, 49, 50, 51, 52, 53, 54, 55, 56, 57, 97, 98, 99, 100, 101, 102]⟩ : ByteArray) ((n.val : Nat) : Int) = figM ((n.val : Nat) : Int) := by decide +kernel
theorem table_at (n : Int) (h0 : 0 ≤ n) (h1 : n < 16) : bt (⟨#[48, 49, 50, 51, 52, 53, 54, 55, 56, 57, 97, 98, 99, 100, 101, 102]⟩ : ByteArray) n = figM n := by
  have h := table_eq ⟨n.toNat, by omega⟩
  have e : ((n.toNat : Nat) : Int) = n := by omega
  simp only [e] at h
  exact h
theorem impl_enc_loop (s : ByteArray) (hs : s.size ≤ 20000) (d : Nat) : ∀ (i : Nat) (acc : List Int), i + d = s.size → acc.length = 2 * i →
    Ev (fun k => impl_EncodeHex.l0 k s acc i) (strOfNums (acc ++ encM ((bytesOf s).drop i)), true) := by
  induction d with
  | zero =>
    intro i acc hi ha
    refine Ev.step (f := fun _ => some (strOfNums acc, true)) (fun k => by rw [impl_EncodeHex.l0, if_neg (by omega)]) (ev_some ?_)
    rw [bytes_drop_end s i (by omega), encM_nil, List.append_nil]
  | succ d ih =>
    intro i acc hi ha
    have hr := bt_range s i
    have e2 : Go.bits .and .u8 (bt s i) 15 = bt s i % 16 := u8_and15 _ (by omega) (by omega)
    refine Ev.step (f := fun k => impl_EncodeHex.l0 k s (acc ++ [figM (bt s i / 16), figM (bt s i % 16)]) ((i + 1 : Nat) : Int)) (fun k => ?_) ?_
    · rw [impl_EncodeHex.l0, if_pos (by omega), if_pos (by omega), e2, if_pos (by omega), if_pos (by omega), if_pos (by omega), if_pos (by omega), Option.bind_some,
        table_at _ (by omega) (by omega), table_at _ (by omega) (by omega), if_pos (by simp only [List.length_cons, List.length_nil]; omega), w64 (by omega) (by omega)]
      rfl
    · rw [bytes_drop s i (by omega), encM_cons, ← List.append_assoc]
      exact ih (i + 1) _ (by omega) (by simp only [List.length_append, List.length_cons, List.length_nil]; omega)
/-- What EncodeHex returns. -/
def encR (s : ByteArray) : ByteArray × Bool := if (s.size : Int) > 20000 then (⟨#[]⟩, false) else (strOfNums (encM (bytesOf s)), true)
theorem impl_enc_ev (s : ByteArray) : Ev (fun k => impl_EncodeHex.f k s) (encR s) := by
  unfold impl_EncodeHex.f encR
  by_cases h : (s.size : Int) > 20000
  · simp only [if_pos h]; exact Ev.now _
  · simp only [if_neg h]
    exact impl_enc_loop s (by omega) s.size 0 [] (by omega) rfl
/-- A digit's value, -1 of other bytes. -/
def hvM (c : Int) : Int := if 48 ≤ c ∧ c ≤ 57 then c - 48 else if 97 ≤ c ∧ c ≤ 102 then c - 87 else -1
def decM : List Int → List Int → ByteArray × Bool
  | acc, a :: b :: l => if hvM a < 0 then (⟨#[]⟩, false) else if hvM b < 0 then (⟨#[]⟩, false) else decM (acc ++ [16 * hvM a + hvM b]) l
  | acc, _ => (strOfNums acc, true)
theorem hvM_range (c : Int) : -1 ≤ hvM c ∧ hvM c ≤ 15 := by unfold hvM; (repeat' split) <;> omega
theorem digit_all : ∀ n : Fin 256, impl_digit.f 20 ((n.val : Nat) : Int) = some (hvM ((n.val : Nat) : Int)) := by decide +kernel
theorem digit_ev (c : Int) (h0 : 0 ≤ c) (h1 : c ≤ 255) : Ev (fun k => impl_digit.f k c) (hvM c) := by
  have h := digit_all ⟨c.toNat, by omega⟩
  have e : ((c.toNat : Nat) : Int) = c := by omega
  simp only [e] at h
  exact Ev.of (impl_digit.mono c) h
theorem impl_dec_loop (s : ByteArray) (hs : s.size ≤ 40000) (d : Nat) : ∀ (i : Nat) (acc : List Int), i + 2 * d = s.size → acc.length ≤ i →
    Ev (fun k => impl_DecodeHex.l0 k s acc i) (decM acc ((bytesOf s).drop i)) := by
  induction d with
  | zero =>
    intro i acc hi ha
    refine Ev.step (f := fun _ => some (strOfNums acc, true)) (fun k => by rw [impl_DecodeHex.l0, if_neg (by omega)]) (ev_some ?_)
    rw [bytes_drop_end s i (by omega)]; rfl
  | succ d ih =>
    intro i acc hi ha
    have hr := bt_range s i
    have hr1 := bt_range s ((i + 1 : Nat) : Int)
    have e1 : wrap64 ((i : Int) + 1) = ((i + 1 : Nat) : Int) := w64 (by omega) (by omega)
    have e2 : wrap64 ((i : Int) + 2) = ((i + 2 : Nat) : Int) := w64 (by omega) (by omega)
    have g1 := hvM_range (bt s i)
    have g2 := hvM_range (bt s ((i + 1 : Nat) : Int))
    rw [bytes_drop s i (by omega), bytes_drop s (i + 1) (by omega)]
    refine Ev.step (fun k => by rw [impl_DecodeHex.l0, if_pos (show (i : Int) < (s.size : Int) by omega), if_pos (show (0 : Int) ≤ (i : Int) by omega)]) ?_
    refine ev_bind _ (digit_ev _ hr.1 hr.2) ?_
    simp only [e1, if_pos (show (0 : Int) ≤ ((i + 1 : Nat) : Int) by omega), if_pos (show ((i + 1 : Nat) : Int) < (s.size : Int) by omega)]
    refine ev_bind _ (digit_ev _ hr1.1 hr1.2) ?_
    by_cases c1 : hvM (bt s i) < 0
    · simp only [if_pos c1, decM]; exact Ev.now _
    · by_cases c2 : hvM (bt s ((i + 1 : Nat) : Int)) < 0
      · simp only [if_neg c1, if_pos c2, decM]; exact Ev.now _
      · have e3 : (wrap64 ((wrap64 (16 * hvM (bt s i))) + hvM (bt s ((i + 1 : Nat) : Int)))) % 256 = 16 * hvM (bt s i) + hvM (bt s ((i + 1 : Nat) : Int)) := by
          rw [w64 (x := 16 * hvM (bt s i)) (by omega) (by omega), w64 (by omega) (by omega)]
          omega
        simp only [if_neg c1, if_neg c2, if_pos (show acc.length < 140737488355328 by omega), e2, e3, decM]
        exact ih (i + 2) _ (by omega) (by simp only [List.length_append, List.length_cons, List.length_nil]; omega)
/-- What DecodeHex returns. -/
def decR (s : ByteArray) : ByteArray × Bool := if (s.size : Int) > 40000 then (⟨#[]⟩, false) else if (s.size : Int) % 2 = 0 then decM [] (bytesOf s) else (⟨#[]⟩, false)
theorem impl_dec_ev (s : ByteArray) : Ev (fun k => impl_DecodeHex.f k s) (decR s) := by
  unfold impl_DecodeHex.f decR
  by_cases h2 : (s.size : Int) % 2 = 0
  · simp only [if_pos h2]
    by_cases h : (s.size : Int) > 40000
    · have e : decide ((s.size : Int) > 40000) = true := decide_eq_true h
      simp only [e, if_pos h]
      exact Ev.step (fun k => by rw [impl_DecodeHex.j0, if_pos rfl]) (Ev.now _)
    · have e : decide ((s.size : Int) > 40000) = false := decide_eq_false h
      simp only [e, if_neg h]
      refine Ev.step (fun k => by rw [impl_DecodeHex.j0, if_neg (by decide)]) ?_
      exact impl_dec_loop s (by omega) (s.size / 2) 0 [] (by omega) (Nat.le_refl _)
  · simp only [if_neg h2]
    have : (if (s.size : Int) > 40000 then ((⟨#[]⟩, false) : ByteArray × Bool) else (⟨#[]⟩, false)) = (⟨#[]⟩, false) := by split <;> rfl
    rw [this]
    exact Ev.step (fun k => by rw [impl_DecodeHex.j0, if_pos rfl]) (Ev.now _)
/-- A string of these bytes. -/
def mkB (l : List UInt8) : ByteArray := ⟨l.toArray⟩
theorem mkB_append (a b : List UInt8) : mkB a ++ mkB b = mkB (a ++ b) := by
  apply ByteArray.ext
  rw [ByteArray.data_append]
  simp [mkB]
theorem mkB_size (l : List UInt8) : (mkB l).size = l.length := by simp [mkB, ByteArray.size]
theorem mkB_nums (l : List Int) : strOfNums l = mkB (l.map fun n => UInt8.ofNat n.toNat) := by simp [mkB, strOfNums]
theorem mkB_list (l : List UInt8) : (mkB l).toList = l := by rw [ByteArray.toList_eq]; simp [mkB]
theorem impl_fmt (n : Int) (h0 : -9223372036854775808 ≤ n) (h1 : n ≤ 9223372036854775807) : impl_FormatInt.f n = some (mkB (Go.Lib.itoa n)) := by
  unfold impl_FormatInt.f strconv_Itoa.f
  rw [if_pos ⟨h0, h1⟩]; rfl
theorem byte_ok (b : List Int) (i h : Int) (hi : 0 ≤ i) (hb : b.length ≤ 140737488351232) :
    ∃ x i' h', spec_l01Byte.f b i h = some (x, i', h') ∧ 0 ≤ x ∧ x ≤ 255 ∧ 0 ≤ i' := by
  unfold spec_l01Byte.f
  by_cases h1 : i < (b.length : Int)
  · rw [if_pos h1, if_pos hi]
    refine ⟨_, _, _, rfl, (mask255 _).1, (mask255 _).2, ?_⟩
    rw [w64 (by omega) (by omega)]; omega
  · rw [if_neg h1]
    exact ⟨_, _, _, rfl, (mask255 _).1, (mask255 _).2, hi⟩
theorem below_ok (b : List Int) (i h n : Int) (hi : 0 ≤ i) (hb : b.length ≤ 140737488351232) :
    ∃ x i' h', spec_l01Below.f b i h n = some (x, i', h') ∧ (n ≤ 0 → x = 0) ∧ (0 < n → 0 ≤ x ∧ x < n) ∧ 0 ≤ i' := by
  unfold spec_l01Below.f
  by_cases h0 : n ≤ 0
  · rw [if_pos h0]
    exact ⟨_, _, _, rfl, fun _ => rfl, fun hn => by omega, hi⟩
  · rw [if_neg h0]
    by_cases h1 : n ≤ 256
    · rw [if_pos h1]
      obtain ⟨x, i', h', e, hx0, hx1, hi'⟩ := byte_ok b i h hi hb
      rw [e, Option.bind_some]
      simp only [if_neg (show ¬ n = 0 by omega)]
      have hm := Int.tmod_eq_emod_of_nonneg (b := n) hx0
      have := Int.emod_nonneg x (show n ≠ 0 by omega)
      have := Int.emod_lt_of_pos x (show 0 < n by omega)
      exact ⟨_, _, _, rfl, fun hn => by omega, fun _ => by rw [hm]; omega, hi'⟩
    · rw [if_neg h1]
      obtain ⟨x, i1, g1, e1, hx0, hx1, hi1⟩ := byte_ok b i h hi hb
      obtain ⟨y, i2, g2, e2, hy0, hy1, hi2⟩ := byte_ok b i1 g1 hi1 hb
      obtain ⟨z, i3, g3, e3, hz0, hz1, hi3⟩ := byte_ok b i2 g2 hi2 hb
      obtain ⟨v, i4, g4, e4, hv0, hv1, hi4⟩ := byte_ok b i3 g3 hi3 hb
      simp only [e1, e2, e3, e4, Option.bind_some, if_neg (show ¬ n = 0 by omega)]
      have w1 : wrap64 (x * 16777216) = x * 16777216 := w64 (by omega) (by omega)
      have w2 : wrap64 (y * 65536) = y * 65536 := w64 (by omega) (by omega)
      have w3 : wrap64 (z * 256) = z * 256 := w64 (by omega) (by omega)
      have w4 : wrap64 (x * 16777216 + y * 65536) = x * 16777216 + y * 65536 := w64 (by omega) (by omega)
      have w5 : wrap64 (x * 16777216 + y * 65536 + z * 256) = x * 16777216 + y * 65536 + z * 256 := w64 (by omega) (by omega)
      have w6 : wrap64 (x * 16777216 + y * 65536 + z * 256 + v) = x * 16777216 + y * 65536 + z * 256 + v := w64 (by omega) (by omega)
      rw [w1, w2, w3, w4, w5, w6]
      have hm := Int.tmod_eq_emod_of_nonneg (a := x * 16777216 + y * 65536 + z * 256 + v) (b := n) (by omega)
      have := Int.emod_nonneg (x * 16777216 + y * 65536 + z * 256 + v) (show n ≠ 0 by omega)
      have := Int.emod_lt_of_pos (x * 16777216 + y * 65536 + z * 256 + v) (show 0 < n by omega)
      exact ⟨_, _, _, rfl, fun hn => by omega, fun _ => by rw [hm]; omega, hi4⟩
theorem new_loop (b : List Int) (hb : b.length ≤ 140737488351232) (d : Nat) : ∀ (i : Nat) (h : Int), i + d = b.length → ∃ h', Ev (fun k => spec_l01New.l0 k b h i) (b, 0, h') := by
  induction d with
  | zero =>
    intro i h hi
    exact ⟨h, Ev.step (f := fun _ => some (b, 0, h)) (fun k => by rw [spec_l01New.l0, if_neg (by omega)]) (Ev.now _)⟩
  | succ d ih =>
    intro i h hi
    by_cases h4 : (i : Int) < 4000
    · obtain ⟨h', hev⟩ := ih (i + 1) (Go.bits .and .i64 (wrap64 ((wrap64 ((wrap64 (h * 131)) + (wrap64 (rd b i)))) + 7)) 1073741823) (by omega)
      refine ⟨h', Ev.step (fun k => ?_) hev⟩
      have e : wrap64 ((i : Int) + 1) = ((i + 1 : Nat) : Int) := w64 (by omega) (by omega)
      rw [spec_l01New.l0, if_pos (by omega), if_pos h4, if_pos (by omega), e]
    · exact ⟨h, Ev.step (f := fun _ => some (b, 0, h)) (fun k => by rw [spec_l01New.l0, if_pos (by omega), if_neg h4]) (Ev.now _)⟩
theorem new_ok (b : List Int) (hb : b.length ≤ 140737488351232) : ∃ h', Ev (fun k => spec_l01New.f k b) (b, 0, h') := by
  unfold spec_l01New.f
  exact new_loop b hb b.length 0 _ (by omega)
theorem once_ok (b : List Int) (i h n : Int) (hi : 0 ≤ i) (hb : b.length ≤ 140737488351232) :
    ∃ (x : Bool) (i' h' : Int), spec_l01Once.f b i h n = some (x, i', h') ∧ 0 ≤ i' := by
  unfold spec_l01Once.f
  obtain ⟨x, i1, h1, e1, _, _, hi1⟩ := below_ok b i h n hi hb
  rw [e1, Option.bind_some]
  exact ⟨_, _, _, rfl, hi1⟩
theorem long_loop (n x : Int) (hn : n ≤ 100000) (d : Nat) : ∀ (i : Nat) (l : List Int), (i : Int) + d = n → (l.length : Int) = n → ∃ l' : List Int, Ev (fun k => spec_l01Long.l0 k n x l i) (strOfNums l') ∧ (l'.length : Int) = n ∧ ∀ P : Int → Prop, P x → (∀ (j : Nat) y, j < i → l[j]? = some y → P y) → ∀ y ∈ l', P y := by
  induction d with
  | zero =>
    intro i l hi hl
    refine ⟨l, Ev.step (f := fun _ => some (strOfNums l)) (fun k => by rw [spec_l01Long.l0, if_neg (by omega)]) (Ev.now _), hl, fun P _ hP y hy => ?_⟩
    obtain ⟨j, hj⟩ := List.getElem?_of_mem hy
    exact hP j y (by have := (List.getElem?_eq_some_iff.1 hj).1; omega) hj
  | succ d ih =>
    intro i l hi hl
    have e1 : wrap64 ((i : Int) + 1) = ((i + 1 : Nat) : Int) := w64 (by omega) (by omega)
    obtain ⟨l', h1, h2, h3⟩ := ih (i + 1) (l.set i x) (by omega) (by rw [List.length_set]; exact hl)
    refine ⟨l', Ev.step (fun k => by rw [spec_l01Long.l0, if_pos (by omega), if_pos (by omega), if_pos (by omega), Int.toNat_natCast, e1]) h1, h2, fun P hx hP => h3 P hx (fun j y hj hy => ?_)⟩
    by_cases c : j = i
    · subst c; rw [List.getElem?_set_self (by omega)] at hy; obtain rfl := Option.some.inj hy; exact hx
    · rw [List.getElem?_set_ne (Ne.symm c)] at hy; exact hP j y (by omega) hy
theorem long_ok (n x : Int) (h0 : 0 ≤ n) (hn : n ≤ 100000) : ∃ l : List Int, Ev (fun k => spec_l01Long.f k n x) (strOfNums l) ∧ (l.length : Int) = n ∧ ∀ y ∈ l, y = x := by
  unfold spec_l01Long.f
  simp only [if_pos h0, if_pos (show n.toNat ≤ 281474976710656 by omega)]
  obtain ⟨l, h1, h2, h3⟩ := long_loop n x hn n.toNat 0 (List.replicate n.toNat 0) (by omega) (by rw [List.length_replicate]; omega)
  exact ⟨l, h1, h2, h3 (fun y => y = x) rfl (fun j y hj => by omega)⟩
theorem text_loop (b : List Int) (hb : b.length ≤ 140737488351232) (n : Int) (hn : n ≤ 5000) (d : Nat) : ∀ (j i h : Int) (l : List Int), 0 ≤ j → j + d = n → (l.length : Int) = j → 0 ≤ i → ∃ l' i' h', Ev (fun k => spec_l01Text.l0 k n l j b i h) (strOfNums l', i', h') ∧ (l'.length : Int) = n ∧ 0 ≤ i' := by
  induction d with
  | zero =>
    intro j i h l h0 hj hl hi
    exact ⟨l, i, h, Ev.step (f := fun _ => some (strOfNums l, i, h)) (fun k => by rw [spec_l01Text.l0, if_neg (by omega)]) (Ev.now _), by omega, hi⟩
  | succ d ih =>
    intro j i h l h0 hj hl hi
    have e1 : wrap64 (j + 1) = j + 1 := w64 (by omega) (by omega)
    obtain ⟨x, i1, h1, e2, _, _, hi1⟩ := byte_ok b i h hi hb
    obtain ⟨l', i', h', e3, e4, e5⟩ := ih (j + 1) i1 h1 (l ++ [x % 256]) (by omega) (by omega) (by simp; omega) hi1
    exact ⟨l', i', h', Ev.step (fun k => by rw [spec_l01Text.l0, if_pos (by omega), e2, Option.bind_some, if_pos (by omega), e1]) e3, e4, e5⟩
theorem text_ok (b : List Int) (hb : b.length ≤ 140737488351232) (i h n : Int) (h0 : 0 ≤ n) (hn : n ≤ 5000) (hi : 0 ≤ i) : ∃ l i' h', Ev (fun k => spec_l01Text.f k b i h n) (strOfNums l, i', h') ∧ (l.length : Int) = n ∧ 0 ≤ i' := by
  unfold spec_l01Text.f
  simp only [if_neg (show ¬ n > 5000 by omega)]
  obtain ⟨l, i', h', e1, e2, e3⟩ := text_loop b hb n hn n.toNat 0 i h [] (by omega) (by omega) rfl hi
  exact ⟨l, i', h', Ev.step (fun k => by rw [spec_l01Text.j0]) e1, e2, e3⟩
theorem bytes_strOf (l : List Int) (h : ∀ x ∈ l, 0 ≤ x ∧ x ≤ 255) : bytesOf (strOfNums l) = l := by
  have e : ∀ x ∈ l, ((fun b : UInt8 => (b.toNat : Int)) ∘ (fun n : Int => UInt8.ofNat n.toNat)) x = x := by
    intro x hx
    have := h x hx
    simp only [Function.comp, UInt8.toNat_ofNat']
    omega
  unfold bytesOf strOfNums
  simp only [List.map_map]
  rw [List.map_congr_left e, List.map_id']
theorem size_strOf (l : List Int) : (strOfNums l).size = l.length := by simp [strOfNums, ByteArray.size]
theorem figM_val : ∀ n : Fin 16, hvM (figM ((n.val : Nat) : Int)) = ((n.val : Nat) : Int) := by decide +kernel
theorem figM_at (n : Int) (h0 : 0 ≤ n) (h1 : n ≤ 15) : hvM (figM n) = n := by
  have h := figM_val ⟨n.toNat, by omega⟩
  have e : ((n.toNat : Nat) : Int) = n := by omega
  simp only [e] at h
  exact h
theorem dec_enc : ∀ (l acc : List Int), (∀ x ∈ l, 0 ≤ x ∧ x ≤ 255) → decM acc (encM l) = (strOfNums (acc ++ l), true)
  | [], acc, _ => by rw [encM_nil, List.append_nil]; rfl
  | x :: l, acc, h => by
    have hx := h x (by simp)
    rw [encM_cons, List.cons_append, List.cons_append, List.nil_append, decM, figM_at _ (by omega) (by omega), figM_at _ (by omega) (by omega), if_neg (by omega), if_neg (by omega), show 16 * (x / 16) + x % 16 = x by omega, dec_enc l _ (fun y hy => h y (by simp [hy])), List.append_assoc]
    rfl
theorem encM_range (l : List Int) (h : ∀ x ∈ l, 0 ≤ x ∧ x ≤ 255) : ∀ y ∈ encM l, 0 ≤ y ∧ y ≤ 255 := by
  intro y hy
  simp only [encM, List.mem_flatMap, List.mem_cons, List.not_mem_nil, or_false] at hy
  obtain ⟨x, hx, hy⟩ := hy
  have := h x hx
  unfold figM at hy
  rcases hy with rfl | rfl <;> split <;> omega
theorem draw_enc_ok (b : List Int) (hb : b.length ≤ 140737488351232) : ∃ s, Ev (fun k => spec_DrawEncodeHex.f k b) s ∧ s.size ≤ 30000 := by
  unfold spec_DrawEncodeHex.f
  obtain ⟨h', hn⟩ := new_ok b hb
  obtain ⟨q, i1, h1, e1, hi1⟩ := once_ok b 0 h' 60 (by omega) hb
  cases q with
  | true =>
    obtain ⟨x, i2, h2, e2, _, hx, hi2⟩ := below_ok b i1 h1 2 hi1 hb
    have hx2 := hx (by omega)
    have e3 : wrap64 (20000 + x) = 20000 + x := w64 (by omega) (by omega)
    obtain ⟨l, e4, e5, _⟩ := long_ok (20000 + x) 200 (by omega) (by omega)
    refine ⟨strOfNums l, ev_bind _ hn ?_, by rw [size_strOf]; omega⟩
    simp only [e1, e2, e3, Option.bind_some, if_true]
    exact ev_bind _ e4 (Ev.now _)
  | false =>
    obtain ⟨x, i2, h2, e2, _, hx, hi2⟩ := below_ok b i1 h1 30 hi1 hb
    have hx2 := hx (by omega)
    obtain ⟨l, i3, h3, e4, e5, _⟩ := text_ok b hb i2 h2 x (by omega) (by omega) hi2
    refine ⟨strOfNums l, ev_bind _ hn ?_, by rw [size_strOf]; omega⟩
    simp only [e1, e2, Option.bind_some, if_neg (show ¬ (false = true) by decide)]
    exact ev_bind _ e4 (Ev.now _)
theorem FnHexText : laws_FnHexText.Pure := by
  intro b _ hb _
  refine Ev.rounds ?_
  unfold laws_FnHexText.f laws_big.f
  simp only [Option.bind_some]
  by_cases h : (b.length : Int) > 1048576
  · have e : decide ((b.length : Int) > 1048576) = true := decide_eq_true h
    simp only [e, if_true]; exact Ev.now _
  · have e : decide ((b.length : Int) > 1048576) = false := decide_eq_false h
    simp only [e, if_neg (show ¬ (false = true) by decide)]
    obtain ⟨s, hs, hz⟩ := draw_enc_ok b (by omega)
    refine ev_bind _ hs ?_
    refine ev_bind _ (impl_enc_ev s) ?_
    unfold encR
    by_cases c : (s.size : Int) > 20000
    · rw [if_pos c]
      have e10 : Go.Lib.itoa 10 = [49, 48] := by
        rw [Go.Lib.itoa, if_neg (by omega), Go.Lib.decDigits, dif_neg (by decide), Go.Lib.decDigits_one (by decide)]; decide
      rw [impl_fmt 10 (by omega) (by omega), e10]
      simp only [if_pos c, Bool.false_eq_true, if_false, Option.bind_some]
      have e2 : (⟨#[]⟩ : ByteArray).toList = [] := mkB_list []
      rw [if_pos e2]
      exact ev_some (by rw [mkB_list]; rfl)
    · rw [if_neg c]
      simp only [if_neg c, if_true]
      refine ev_bind _ (impl_dec_ev _) ?_
      have hr := bytes_range s
      have hl : (encM (bytesOf s)).length = 2 * s.size := by rw [encM_length, bytesOf_length]
      have e3 : decR (strOfNums (encM (bytesOf s))) = (s, true) := by
        unfold decR
        rw [size_strOf, hl, if_neg (by omega), if_pos (by omega), bytes_strOf _ (encM_range _ hr), dec_enc _ _ hr, List.nil_append, strOf_bytes]
      rw [e3]
      simp only [if_true]
      refine ev_some ?_
      rw [size_strOf, hl, w64 (by omega) (by omega)]
      simp

end Go.Proofs.YtkfolpcmehmmlaaDoor.Pure
