/- Chapter 08: the places of a word's parts; its parts. -/
import Derived.Test.YtfogjfmpgfcolaaBitsH
namespace Go.Proofs.Ytfogjfmpgfcolaa
open Go.RowKit
set_option linter.unusedVariables false
set_option linter.unusedSimpArgs false

/-- Are the widths right? -/
def okF : Int → List Int → Bool
  | l, [] => l == 0
  | l, n :: r => if n < 1 ∨ l < n then false else okF (l - n) r
def splitF (u : Int) : Int → List Int → List Int
  | _, [] => []
  | l, n :: r => getP u (l - n) n :: splitF u (l - n) r
theorem splitF_len (u : Int) : ∀ (ws : List Int) (l : Int), (splitF u l ws).length = ws.length
  | [], _ => rfl
  | n :: r, l => by simp only [splitF, List.length_cons, splitF_len u r]
theorem drop_at (ws : List Int) (j : Nat) (h : j < ws.length) : ws.drop j = ws[j]?.getD 0 :: ws.drop (j + 1) := by
  rw [List.drop_eq_getElem_cons h]; simp [h]

def Placed (base g : Nat) (u : Int) (ws : List Int) (w : World) (e : Ending) (w' : World) : Prop :=
  (okF 32 ws = false ∧ e = .returned (.bool false) ∧ w = w') ∨
  (okF 32 ws = true ∧ e = .returned (.bool true) ∧ ∃ A c, Blk w' g 80 #[.slice A ws.length c] ∧ Own .u32 w' base 33 A ws.length c (splitF u 32 ws) ∧ Rest base g w w')

set_option maxHeartbeats 8000000 in
theorem p_Split (base g h B0 : Nat) (A : Option Addr) (n c : Nat) (ws : List Int) (u : Int) (w : World) (hu : 0 ≤ u ∧ u ≤ 4294967295) (hw : Row .i64 w B0 A n ws) (hB0 : B0 ≤ w.heap.size) (hx : ∀ x ∈ ws, -9223372036854775808 ≤ x ∧ x ≤ 9223372036854775807) (hn : n ≤ 40)
    (hg : Blk w g 80 #[.slice none 0 0]) (hh : Blk w h 33 #[.int .u32 u]) (hgb : g < base) (hhb : h < base) (hgh : g ≠ h) (hbase : base ≤ w.heap.size) (hBg : B0 ≤ g) :
    Calls Try.prog 91 #[.slice A n c, .func (.func 97) #[] #[.pointer (some ⟨g, 0, none⟩), .pointer (some ⟨h, 0, none⟩)]] w (Placed base g u ws w) := by
  have HX := hid hx
  clear hx
  have hlen := hw.1
  have HC := hid fun (A : Option Addr) n c ys k a m w hg hh ho hb hn => c_Split base g h A n c ys u k a m w hu hg hh ho hgb hhb hgh hb hn
  go_enter Try.func91, Try.ntmps91
  go_wp2
  go_loop [5, 12] (fun l i => ∃ (j : Nat) (lv : Int), j ≤ n ∧ i = .int .i64 j ∧ l = .int .i64 lv ∧ (0 ≤ lv ∧ lv ≤ 32) ∧ Hid (okF 32 ws = okF lv (ws.drop j))) (fun _ i => n - (intOf i).toNat)
  case atStart => exact ⟨0, 32, by omega, rfl, rfl, by omega, rfl⟩
  case round =>
    obtain ⟨j, lv, hj, rfl, rfl, hlv, hok⟩ := hrel
    by_cases hlt : j < n
    · obtain ⟨ad, rfl, _, hc⟩ := hw.at_ hlt
      have hjl : j < ws.length := by omega
      have hxx : -9223372036854775808 ≤ ws[j]?.getD 0 ∧ ws[j]?.getD 0 ≤ 9223372036854775807 := by
        have := HX.out ws[j] (List.getElem_mem hjl)
        simpa [hjl] using this
      have hd := drop_at ws j hjl
      have ho := hok.out
      rw [hd] at ho
      simp only [okF] at ho
      generalize ws[j]?.getD 0 = x at *
      clear hd
      have ej : IntKind.i64.wrap ((j : Int) + 1) = ((j + 1 : Nat) : Int) := (IntWalk.i64_in _ (by omega)).trans (by omega)
      have mj : n - (j + 1) < n - j := by omega
      by_cases g1 : x < 1
      · have d1 : decide (x < 1) = true := by simpa using g1
        rw [if_pos (.inl g1)] at ho
        have HO := hid ho
        clear ho g1
        go_wp2
        go_ret
        exact .inl ⟨HO.out, rfl, rfl⟩
      · have d1 : decide (x < 1) = false := by simpa using g1
        by_cases g2 : lv < x
        · have d2 : decide (lv < x) = true := by simpa using g2
          rw [if_pos (.inr g2)] at ho
          have HO := hid ho
          clear ho g1 g2
          go_wp2
          go_ret
          exact .inl ⟨HO.out, rfl, rfl⟩
        · have d2 : decide (lv < x) = false := by simpa using g2
          rw [if_neg (by omega)] at ho
          have HO := hid ho
          have u1 : IntKind.i64.wrap (lv - x) = lv - x := IntWalk.i64_in _ (by omega)
          clear ho
          go_wp2
          go_round
          case rel => exact ⟨j + 1, lv - x, by omega, rfl, rfl, by omega, HO⟩
          case measure => simpa [intOf] using mj
    · obtain rfl : j = n := by omega
      have hd : ws.drop j = [] := List.drop_eq_nil_of_le (by omega)
      have ho := hok.out
      rw [hd] at ho
      simp only [okF] at ho
      by_cases g0 : lv = 0
      · subst g0
        have HO : Hid (okF 32 ws = true) := hid (by rw [ho]; rfl)
        clear ho hd hok
        go_wp2
        go_loopw [5, 31] (fun l i wr => ∃ (j : Nat) (lv : Int) (A' : Option Addr) (c' : Nat) (ys : List Int), j ≤ ws.length ∧ i = .int .i64 j ∧ l = .int .i64 lv ∧ (0 ≤ lv ∧ lv ≤ 32) ∧ Hid (okF lv (ws.drop j) = true ∧ splitF u 32 ws = ys ++ splitF u lv (ws.drop j)) ∧
          Blk wr g 80 #[.slice A' j c'] ∧ Blk wr h 33 #[.int .u32 u] ∧ Own .u32 wr base 33 A' j c' ys ∧ Rest base g w wr) (fun _ i _ => ws.length - (intOf i).toNat)
        case atStart => exact ⟨0, 32, none, 0, [], by omega, rfl, rfl, by omega, ⟨HO.out, rfl⟩, hg, hh, Own.nil_ _ _ _ _, ⟨Nat.le_refl _, fun _ _ _ _ h => h⟩⟩
        case round =>
          clear hg hh
          obtain ⟨k, lv, A', c', ys, hk, rfl, rfl, hlv, hi, hg, hh, ho, hR⟩ := hrel
          have hwr := hw.below (hR.2 w B0 hBg (by omega) (Below.refl _ w))
          have hbr : base ≤ wr.heap.size := Nat.le_trans hbase hR.1
          by_cases hlt2 : k < ws.length
          · obtain ⟨ad, rfl, _, hc⟩ := hwr.at_ (show k < j by omega)
            have hd := drop_at ws k hlt2
            obtain ⟨o1, o2⟩ := hi.out
            rw [hd] at o1 o2
            simp only [okF, splitF] at o1 o2
            generalize ws[k]?.getD 0 = x at *
            clear hd hi
            have hxx : ¬ (x < 1 ∨ lv < x) := fun hh => by rw [if_pos hh] at o1; cases o1
            rw [if_neg hxx] at o1
            have hI : Hid (okF (lv - x) (ws.drop (k + 1)) = true ∧ splitF u 32 ws = (ys ++ [getP u (lv - x) x]) ++ splitF u (lv - x) (ws.drop (k + 1))) := hid ⟨o1, by rw [o2]; simp⟩
            clear o1 o2
            have u1 : IntKind.i64.wrap (lv - x) = lv - x := IntWalk.i64_in _ (by omega)
            have ej : IntKind.i64.wrap ((k : Int) + 1) = ((k + 1 : Nat) : Int) := (IntWalk.i64_in _ (by omega)).trans (by omega)
            have mj : ws.length - (k + 1) < ws.length - k := by omega
            have hkl : (k : Int) < (j : Int) := by omega
            go_wp2_with fail
            refine (HC.out A' k c' ys k (lv - x) x wr hg hh ho hbr (by omega)).mono ?_
            rintro e w2 ⟨rfl, A2, c2, hg2, hh2, ho2, hR2⟩
            go_wp2
            go_round
            case rel => exact ⟨k + 1, lv - x, A2, c2, _, by omega, rfl, rfl, by omega, hI, hg2, hh2, ho2, hR.trans hR2⟩
            case measure => simpa [intOf] using mj
          · obtain rfl : k = ws.length := by omega
            have hd : ws.drop ws.length = [] := List.drop_eq_nil_of_le (Nat.le_refl _)
            obtain ⟨o1, o2⟩ := hi.out
            rw [hd] at o2
            simp only [splitF, List.append_nil] at o2
            have O2 := hid o2
            clear hd hi o1 o2
            have hjl : ¬ ((ws.length : Int) < (j : Int)) := by omega
            go_wp2
            go_ret
            exact .inr ⟨HO.out, rfl, A', c', hg, by rw [O2.out]; exact ho, hR⟩
      · have g0' : (lv == 0) = false := by simpa using g0
        rw [g0'] at ho
        have HO := hid ho
        clear ho hd hok
        go_wp2
        go_ret
        exact .inl ⟨HO.out, rfl, rfl⟩

def splitP (u : Int) (ws : List Int) : List Int := if okF 32 ws = true then splitF u 32 ws else []
theorem b_Split (A : Option Addr) (n c : Nat) (ws : List Int) (u : Int) (w : World) (hu : 0 ≤ u ∧ u ≤ 4294967295) (hw : Row .i64 w w.heap.size A n ws) (hx : ∀ x ∈ ws, -9223372036854775808 ≤ x ∧ x ≤ 9223372036854775807) (hn : n ≤ 40) :
    Calls Try.prog 70 #[.int .u32 u, .slice A n c] w fun e w' => ∃ A' c', e = .returned (.tuple #[.slice A' (splitP u ws).length c', .bool (okF 32 ws)]) ∧ Row .u32 w' w'.heap.size A' (splitP u ws).length (splitP u ws) ∧ Below w.heap.size w w' := by
  have hmf : ∀ (fn : Fn) (first cap : Array Value) (w : World), (Instr.makeFunc fn first cap).run Try.prog w = .ok (.func fn first cap) w := fun _ _ _ _ => rfl
  have hh : Blk ((w.alloc (.cells #[.int .u32 u] 33)).alloc (.cells #[.slice none 0 0] 80)) w.heap.size 33 #[.int .u32 u] := (Blk.new w _ _).alloc _
  have hg : Blk ((w.alloc (.cells #[.int .u32 u] 33)).alloc (.cells #[.slice none 0 0] 80)) (w.heap.size + 1) 80 #[.slice none 0 0] := by have := Blk.new (w.alloc (.cells #[.int .u32 u] 33)) 80 #[.slice none 0 0]; simpa using this
  have hb : Below w.heap.size w ((w.alloc (.cells #[.int .u32 u] 33)).alloc (.cells #[.slice none 0 0] 80)) := ((Below.refl _ w).alloc (Nat.le_refl _) _).alloc (by simp) _
  have hs : ((w.alloc (.cells #[.int .u32 u] 33)).alloc (.cells #[.slice none 0 0] 80)).heap.size = w.heap.size + 2 := by simp
  go_enter Try.func70, Try.ntmps70
  go_wp2_with fail
  generalize (w.alloc (.cells #[.int .u32 u] 33)).alloc (.cells #[.slice none 0 0] 80) = W0 at *
  refine (p_Split (w.heap.size + 2) (w.heap.size + 1) w.heap.size w.heap.size A n c ws u W0 hu (hw.below hb) (by omega) hx hn hg hh (by omega) (by omega) (by omega) (by omega) (by omega)).mono ?_
  rintro e w1 (⟨o, rfl, rfl⟩ | ⟨o, rfl, A', c', hg1, ho1, hR⟩)
  · have HS : Hid (okF 32 ws = false ∧ splitP u ws = []) := hid ⟨o, by unfold splitP; rw [o]; rfl⟩
    have c0 : W0.cell? ⟨w.heap.size + 1, 0, none⟩ = some (.slice none 0 0) := hg.cell 0
    clear o
    go_wp2
    go_ret2
    exact ⟨none, 0, by rw [HS.out.1, HS.out.2]; rfl, by rw [HS.out.2]; exact Row.none_, hb⟩
  · have HS : Hid (okF 32 ws = true ∧ splitP u ws = splitF u 32 ws) := hid ⟨o, by unfold splitP; rw [o]; rfl⟩
    have c0 : w1.cell? ⟨w.heap.size + 1, 0, none⟩ = some (.slice A' ws.length c') := hg1.cell 0
    have hl := splitF_len u ws 32
    clear o
    go_wp2
    go_ret2
    exact ⟨A', c', by rw [HS.out.1, HS.out.2, hl]; rfl, by rw [HS.out.2, hl]; exact ho1.row, hR.2 w w.heap.size (by omega) (by omega) hb⟩
end Go.Proofs.Ytfogjfmpgfcolaa
