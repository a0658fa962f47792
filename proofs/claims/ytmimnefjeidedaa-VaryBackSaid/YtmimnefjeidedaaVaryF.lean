/- Chapter 03: the numbers that bytes begin with; two lists. -/
import Derived.Test.YtmimnefjeidedaaVaryE
import Derived.Test.YtmimnefjeidedaaCut
import Derived.BigQuiet
import Derived.Deep.QuietTactic
namespace Go.Proofs.Ytmimnefjeidedaa
open Go.RowKit

theorem info64 : (Try.prog.info? 2).map (fun i => (i.zero, i.size, i.bytes)) = some (some (.int .i64 0), 1, 8) := by kernel_rfl

theorem takeF_bd (xs : List Int) (i : Nat) (u : Int) (hB : ∀ x ∈ xs, 0 ≤ x ∧ x ≤ 255) (h0 : 0 ≤ u) (hu : u < 128 ^ i) (hi : i ≤ 9) (he : (takeF i u xs).2.2 = 0) :
    (i : Int) + 1 ≤ (takeF i u xs).2.1 ∧ (takeF i u xs).2.1 ≤ i + xs.length ∧ 0 ≤ (takeF i u xs).1 ∧ (takeF i u xs).1 ≤ 18446744073709551615 := by
  induction xs generalizing i u with
  | nil => simp [takeF] at he
  | cons c r ih =>
    have hc := hB c (by simp)
    by_cases g : (i = 9 ∧ 1 < c) ∨ (c = 0 ∧ 0 < i)
    · rw [takeF_form _ _ _ _ g] at he; simp at he
    · by_cases g1 : c < 128
      · rw [takeF_ok _ _ _ _ g g1]
        have g9 : ¬ (i = 9 ∧ 1 < c) := fun h => g (.inl h)
        have hw := word_fits c u i hi hc g9 hu
        have e : c % 128 = c := by omega
        rw [e, Int.mul_comm] at hw
        refine ⟨Int.le_refl _, ?_, ?_, ?_⟩
        · simp; omega
        · show 0 ≤ u + c * 128 ^ i; omega
        · show u + c * 128 ^ i ≤ _; omega
      · rw [takeF_more _ _ _ _ g g1] at he ⊢
        have hi9 : i ≠ 9 := fun h => g (.inl ⟨h, by omega⟩)
        have hnx := pow_next u (c - 128) i h0 hu (by omega) (by omega)
        have := ih (i + 1) (u + (c - 128) * 128 ^ i) (fun x hx => hB x (by simp [hx])) hnx.1 hnx.2 (by omega) he
        simp only [List.length_cons]
        omega
theorem takeP_bd (xs : List Int) (hB : ∀ x ∈ xs, 0 ≤ x ∧ x ≤ 255) (he : (takeP xs).2.2 = 0) : 1 ≤ (takeP xs).2.1 ∧ (takeP xs).2.1 ≤ xs.length ∧ 0 ≤ (takeP xs).1 ∧ (takeP xs).1 ≤ 18446744073709551615 := by
  have := takeF_bd xs 0 0 hB (by omega) (by omega) (by omega) he
  unfold takeP
  omega

/-- The numbers that some bytes begin with: k more, 'out' being there, 'at' bytes being gone. -/
def parseF : Nat → List Int → Nat → List Int → List Int × Int × Int
  | 0, out, at_, _ => (out, at_, 0)
  | k + 1, out, at_, ys => if (takeP ys).2.2 = 0 then parseF k (out ++ [zagP (takeP ys).1]) (at_ + (takeP ys).2.1.toNat) (ys.drop (takeP ys).2.1.toNat) else ([], 0, (takeP ys).2.2)
def parseP (n : Int) (xs : List Int) : List Int × Int × Int := if n < 0 then ([], 0, 1) else parseF n.toNat [] 0 xs
def Parses (w : World) (n : Int) (xs : List Int) (e : Ending) (w' : World) : Prop :=
  ∃ A' c', e = .returned (.tuple #[.slice A' (parseP n xs).1.length c', .int .i64 (parseP n xs).2.1, .int .i64 (parseP n xs).2.2]) ∧ Row .i64 w' w'.heap.size A' (parseP n xs).1.length (parseP n xs).1 ∧ Below w.heap.size w w'
theorem parses_of {w w' : World} {n : Int} {xs out : List Int} {a b : Int} {A' : Option Addr} {c' m : Nat} (h : (out, a, b) = parseP n xs) (hm : m = out.length) (hr : Row .i64 w' w'.heap.size A' m out) (hb : Below w.heap.size w w') : Parses w n xs (.returned (.tuple #[.slice A' m c', .int .i64 a, .int .i64 b])) w' := by
  subst hm
  unfold Parses
  rw [← h]
  exact ⟨A', c', rfl, hr, hb⟩
theorem parseF_len (k : Nat) (out : List Int) (a : Nat) (ys : List Int) (hB : ∀ x ∈ ys, 0 ≤ x ∧ x ≤ 255) : (parseF k out a ys).1.length ≤ out.length + ys.length := by
  induction k generalizing out a ys with
  | zero => simp [parseF]
  | succ k ih =>
    rw [parseF]
    split
    · next he =>
      have hb := takeP_bd ys hB he
      have h := ih (out ++ [zagP (takeP ys).1]) (a + (takeP ys).2.1.toNat) (ys.drop (takeP ys).2.1.toNat) (fun x hx => hB x (List.mem_of_mem_drop hx))
      simp only [List.length_append, List.length_cons, List.length_nil, List.length_drop] at h
      omega
    · simp
theorem parseP_len (N : Int) (xs : List Int) (hB : ∀ x ∈ xs, 0 ≤ x ∧ x ≤ 255) : (parseP N xs).1.length ≤ xs.length := by
  unfold parseP
  split
  · simp
  · have := parseF_len N.toNat [] 0 xs hB; simpa using this
theorem zag_bd (u : Int) (h : 0 ≤ u ∧ u ≤ 18446744073709551615) : -9223372036854775808 ≤ zagP u ∧ zagP u ≤ 9223372036854775807 := by
  unfold zagP; split <;> omega

theorem va_Same (A : Option Addr) (n c : Nat) (xs : List Int) (A' : Option Addr) (n' c' : Nat) (ys : List Int) (w : World) (h : Row .i64 w w.heap.size A n xs) (h' : Row .i64 w w.heap.size A' n' ys) (hn : n ≤ 100000) (he : xs = ys) :
    Calls Try.prog 45 #[.slice A n c, .slice A' n' c'] w fun e w' => e = .returned (.bool true) ∧ Below w.heap.size w w' := by
  subst he
  obtain rfl : n = n' := h.1.symm.trans h'.1
  go_enter Try.func45, Try.ntmps45
  go_wp2
  go_loopw [5] (fun i wr => ∃ j : Nat, j ≤ n ∧ i = .int .i64 j ∧ Below w.heap.size w wr) (fun i _ => n - (intOf i).toNat)
  case atStart => exact ⟨0, Nat.zero_le _, rfl, Below.refl _ _⟩
  case round =>
    obtain ⟨j, hj, rfl, hbe⟩ := hrel
    have r1 := h.below hbe
    have r2 := h'.below hbe
    by_cases hlt : j < n
    · obtain ⟨ad, rfl, _, hc⟩ := r1.at_ hlt
      obtain ⟨ad', rfl, _, hc'⟩ := r2.at_ hlt
      have q0 : (0 : Int) ≤ (j : Int) := by omega
      have q1 : (j : Int) < (n : Int) := by omega
      go_wp2_with fail
      go_quiet (fail)
      go_wp2
      go_roundw
      case rel => exact ⟨j + 1, by omega, by go_num, hbe.drewN' _⟩
      case measure => simp [intOf]; omega
    · obtain rfl : j = n := by omega
      go_wp2
      go_ret
      exact ⟨rfl, hbe⟩

theorem va_Parse (A : Option Addr) (n cap : Nat) (xs : List Int) (N : Int) (w : World) (h : Row .u8 w w.heap.size A n xs) (hB : ∀ x ∈ xs, 0 ≤ x ∧ x ≤ 255) (hn : n ≤ 100000) (hcap : n ≤ cap) (hN : N ≤ 9223372036854775807) :
    Calls Try.prog 42 #[.slice A n cap, .int .i64 N] w (Parses w N xs) := by
  by_cases gN : N < 0
  · have HP : Hid ((([], 0, 1) : List Int × Int × Int) = parseP N xs) := by show _ = _; unfold parseP; rw [if_pos gN]
    go_enter Try.func42, Try.ntmps42
    go_wp2
    go_ret3
    exact parses_of HP.out rfl Row.none_ (Below.refl _ _)
  obtain ⟨M, rfl⟩ := Int.eq_ofNat_of_zero_le (show 0 ≤ N by omega)
  have HP : Hid (parseF M [] 0 xs = parseP (M : Int) xs) := by show _ = _; unfold parseP; rw [if_neg gN]; simp
  have gN' : decide ((M : Int) < 0) = false := by simp
  clear gN
  obtain ⟨i0, hi, hz, hz1, hz2⟩ := info_parts info8v
  obtain ⟨i1, ki, kz, kz1, kz2⟩ := info_parts info64
  have HB := hid hB
  have HL := hid h.1
  clear hB
  go_enter Try.func42, Try.ntmps42
  go_wp2
  go_loopw [7, 8, 9, 10, 11, 15] (fun o t _ _ _ i wr => ∃ (k j a m : Nat) (ys : List Int) (A1 : Option Addr) (c1 : Nat), j + k = M ∧ a ≤ n ∧ m ≤ a ∧ i = .int .i64 j ∧ t = .int .i64 a ∧ o = .slice A1 m c1 ∧ Hid (parseF k ys a (xs.drop a) = parseP (M : Int) xs) ∧ Own .i64 wr w.heap.size 2 A1 m c1 ys ∧ Below w.heap.size w wr) (fun _ _ _ _ _ i _ => M - (intOf i).toNat)
  case atStart => exact ⟨M, 0, 0, 0, [], none, 0, by omega, by omega, by omega, rfl, rfl, rfl, HP, Own.nil_ _ _ _ _, Below.refl _ _⟩
  case round =>
    obtain ⟨k, j, a, m, ys, A1, c1, hjk, ha, hma, rfl, rfl, rfl, ht, ho, hbe⟩ := hrel
    have hs1 := hbe.size
    by_cases hlt : j < M
    · obtain ⟨k, rfl⟩ : ∃ k', k = k' + 1 := ⟨k - 1, by omega⟩
      have hsl := run_cut (P := Try.prog) 22 5 i0 Try.underlying22 hi hz1 A n cap a ha
      have hbd := takeP_bd (xs.drop a) (fun x hx => HB.out x (List.mem_of_mem_drop hx))
      have HF : Hid (parseF (k + 1) ys a (xs.drop a) = if (takeP (xs.drop a)).2.2 = 0 then parseF k (ys ++ [zagP (takeP (xs.drop a)).1]) (a + (takeP (xs.drop a)).2.1.toNat) ((xs.drop a).drop (takeP (xs.drop a)).2.1.toNat) else ([], 0, (takeP (xs.drop a)).2.2)) := rfl
      go_wp2_with fail
      clear hsl
      refine (va_Take _ _ _ (xs.drop a) _ (((h.below hbe).more hs1).cut ha hcap) (fun x hx => HB.out x (List.mem_of_mem_drop hx)) (by omega)).mono ?_
      rintro e w' h2
      unfold Takes at h2
      obtain ⟨rfl, rfl⟩ := h2
      have hld : (xs.drop a).length = n - a := by rw [List.length_drop, HL.out]
      rw [hld] at hbd
      clear hld
      generalize takeP (xs.drop a) = T at *
      obtain ⟨v, kk, er⟩ := T
      simp only at hbd HF ⊢
      by_cases ge : er = 0
      · subst ge
        obtain ⟨h1, h2, h3, h4⟩ := hbd rfl
        obtain ⟨kn, rfl⟩ := Int.eq_ofNat_of_zero_le (show 0 ≤ kk by omega)
        have HF2 : Hid (parseF k (ys ++ [zagP v]) (a + kn) (xs.drop (a + kn)) = parseP (M : Int) xs) := by
          show _ = _
          rw [← ht.out, HF.out, if_pos rfl, Int.toNat_natCast, List.drop_drop]
        clear hbd HF ht
        go_wp2_with fail
        refine (va_Zag v _ ⟨h3, h4⟩).mono ?_
        rintro e w' ⟨rfl, rfl⟩
        have hzb := zag_bd v ⟨h3, h4⟩
        generalize zagP v = z at *
        go_wp2_with (first
          | (at_builtin; refine wpList_app rfl (.tmp 28) (.tmp 31) _ rfl w.heap.size 2 i1 0 8 Try.underlying52 ki kz kz1 kz2 A1 m c1 ys rfl (ho.alloc _) (wr.heap.size + 1) (some ⟨wr.heap.size, 0, none⟩) 1 1 [z] rfl (Row.blk (Blk.new _ _ _) rfl (by omega)) (by unfold maxLen; omega) (by omega) (by simp; omega) ?_; intro A2 c2 w2 ho2 hg2; have be2 := own_below_alloc hbe ho _ hg2 hs1))
        go_roundw
        case rel => exact ⟨k, j + 1, a + kn, m + 1, ys ++ [z], A2, c2, by omega, by omega, by omega, by go_num, by go_num, rfl, HF2, ho2, be2⟩
        case measure => simp [intOf]; omega
      · have ge' : (er != 0) = true := by simpa using ge
        have HE : Hid ((([], 0, er) : List Int × Int × Int) = parseP (M : Int) xs) := by
          show _ = _
          rw [← ht.out, HF.out, if_neg ge]
        clear HF ge hbd
        go_wp2
        go_ret3
        exact parses_of HE.out rfl Row.none_ hbe
    · obtain rfl : k = 0 := by omega
      have HE : Hid ((ys, (a : Int), 0) = parseP (M : Int) xs) := by show _ = _; rw [← ht.out]; rfl
      have HY := hid ho.len
      have hr := ho.row
      clear ht ho
      go_wp2
      go_ret3
      exact parses_of HE.out HY.out.symm hr hbe

theorem var_Parse (A : Option Addr) (n cap : Nat) (xs : List Int) (N : Int) (w : World) (h : Row .u8 w w.heap.size A n xs) (hB : ∀ x ∈ xs, 0 ≤ x ∧ x ≤ 255) (hn : n ≤ 100000) (hcap : n ≤ cap) (hN : N ≤ 9223372036854775807) :
    Calls Try.prog 43 #[.slice A n cap, .int .i64 N] w (Parses w N xs) := by
  by_cases gN : N < 0
  · have HP : Hid ((([], 0, 1) : List Int × Int × Int) = parseP N xs) := by show _ = _; unfold parseP; rw [if_pos gN]
    go_enter Try.func43, Try.ntmps43
    go_wp2
    go_ret3
    exact parses_of HP.out rfl Row.none_ (Below.refl _ _)
  obtain ⟨M, rfl⟩ := Int.eq_ofNat_of_zero_le (show 0 ≤ N by omega)
  have HP : Hid (parseF M [] 0 xs = parseP (M : Int) xs) := by show _ = _; unfold parseP; rw [if_neg gN]; simp
  have gN' : decide ((M : Int) < 0) = false := by simp
  clear gN
  obtain ⟨i0, hi, hz, hz1, hz2⟩ := info_parts info8v
  obtain ⟨i1, ki, kz, kz1, kz2⟩ := info_parts info64
  have HB := hid hB
  have HL := hid h.1
  clear hB
  go_enter Try.func43, Try.ntmps43
  go_wp2
  go_loopw [7, 8, 9, 10, 11, 12] (fun o t i _ _ _ wr => ∃ (k j a m : Nat) (ys : List Int) (A1 : Option Addr) (c1 : Nat), j + k = M ∧ a ≤ n ∧ m ≤ a ∧ i = .int .i64 j ∧ t = .int .i64 a ∧ o = .slice A1 m c1 ∧ Hid (parseF k ys a (xs.drop a) = parseP (M : Int) xs) ∧ Own .i64 wr w.heap.size 2 A1 m c1 ys ∧ Below w.heap.size w wr) (fun _ _ i _ _ _ _ => M - (intOf i).toNat)
  case atStart => exact ⟨M, 0, 0, 0, [], none, 0, by omega, by omega, by omega, rfl, rfl, rfl, HP, Own.nil_ _ _ _ _, Below.refl _ _⟩
  case round =>
    obtain ⟨k, j, a, m, ys, A1, c1, hjk, ha, hma, rfl, rfl, rfl, ht, ho, hbe⟩ := hrel
    have hs1 := hbe.size
    by_cases hlt : j < M
    · obtain ⟨k, rfl⟩ : ∃ k', k = k' + 1 := ⟨k - 1, by omega⟩
      have hsl := run_cut (P := Try.prog) 22 5 i0 Try.underlying22 hi hz1 A n cap a ha
      have hbd := takeP_bd (xs.drop a) (fun x hx => HB.out x (List.mem_of_mem_drop hx))
      have HF : Hid (parseF (k + 1) ys a (xs.drop a) = if (takeP (xs.drop a)).2.2 = 0 then parseF k (ys ++ [zagP (takeP (xs.drop a)).1]) (a + (takeP (xs.drop a)).2.1.toNat) ((xs.drop a).drop (takeP (xs.drop a)).2.1.toNat) else ([], 0, (takeP (xs.drop a)).2.2)) := rfl
      go_wp2_with fail
      clear hsl
      refine (var_Take _ _ _ (xs.drop a) _ (((h.below hbe).more hs1).cut ha hcap) (fun x hx => HB.out x (List.mem_of_mem_drop hx)) (by omega)).mono ?_
      rintro e w' h2
      unfold Takes at h2
      obtain ⟨rfl, rfl⟩ := h2
      have hld : (xs.drop a).length = n - a := by rw [List.length_drop, HL.out]
      rw [hld] at hbd
      clear hld
      generalize takeP (xs.drop a) = T at *
      obtain ⟨v, kk, er⟩ := T
      simp only at hbd HF ⊢
      by_cases ge : er = 0
      · subst ge
        obtain ⟨h1, h2, h3, h4⟩ := hbd rfl
        obtain ⟨kn, rfl⟩ := Int.eq_ofNat_of_zero_le (show 0 ≤ kk by omega)
        have HF2 : Hid (parseF k (ys ++ [zagP v]) (a + kn) (xs.drop (a + kn)) = parseP (M : Int) xs) := by
          show _ = _
          rw [← ht.out, HF.out, if_pos rfl, Int.toNat_natCast, List.drop_drop]
        clear hbd HF ht
        go_wp2_with fail
        refine (var_Zag v _ ⟨h3, h4⟩).mono ?_
        rintro e w' ⟨rfl, rfl⟩
        have hzb := zag_bd v ⟨h3, h4⟩
        generalize zagP v = z at *
        go_wp2_with (first
          | (at_builtin; refine wpList_app rfl (.tmp 31) (.tmp 34) _ rfl w.heap.size 2 i1 0 8 Try.underlying52 ki kz kz1 kz2 A1 m c1 ys rfl (ho.alloc _) (wr.heap.size + 1) (some ⟨wr.heap.size, 0, none⟩) 1 1 [z] rfl (Row.blk (Blk.new _ _ _) rfl (by omega)) (by unfold maxLen; omega) (by omega) (by simp; omega) ?_; intro A2 c2 w2 ho2 hg2; have be2 := own_below_alloc hbe ho _ hg2 hs1))
        go_roundw
        case rel => exact ⟨k, j + 1, a + kn, m + 1, ys ++ [z], A2, c2, by omega, by omega, by omega, by go_num, by go_num, rfl, HF2, ho2, be2⟩
        case measure => simp [intOf]; omega
      · have ge' : (er != 0) = true := by simpa using ge
        have HE : Hid ((([], 0, er) : List Int × Int × Int) = parseP (M : Int) xs) := by
          show _ = _
          rw [← ht.out, HF.out, if_neg ge]
        clear HF ge hbd
        go_wp2
        go_ret3
        exact parses_of HE.out rfl Row.none_ hbe
    · obtain rfl : k = 0 := by omega
      have HE : Hid ((ys, (a : Int), 0) = parseP (M : Int) xs) := by show _ = _; rw [← ht.out]; rfl
      have HY := hid ho.len
      have hr := ho.row
      clear ht ho
      go_wp2
      go_ret3
      exact parses_of HE.out HY.out.symm hr hbe
end Go.Proofs.Ytmimnefjeidedaa
