/- Contracts and laws, file 6: LxS, LxT, PrA, PrB, PrC -/
import Derived.Test.YtfncbemligfloaaGreatDoorMg05
import Derived.Deep.DeepCutAuto
import Derived.Deep.CutBlock
import Derived.Deep.RegionWith
/- Contracts of the reference's reading of texts: tokens. -/
namespace Go.Proofs.YtfncbemligfloaaGreatDoor
open Go.RowKit
set_option linter.unusedVariables false
set_option linter.unusedSimpArgs false
def bt (s : ByteArray) (i : Nat) : UInt8 := s.data.getD i 0
theorem bt_get {s : ByteArray} {i : Nat} (h : i < s.size) : s[i] = bt s i := by
  have h' : i < s.data.size := h
  rw [bt, Array.getD, dif_pos h']; rfl
theorem ext_one {s : ByteArray} {i : Nat} (h : i < s.size) : s.extract i (i + 1) = ⟨#[bt s i]⟩ := by
  have h' : i < s.data.size := h
  apply ByteArray.ext
  rw [ByteArray.data_extract]
  apply Array.ext
  · simp; omega
  · intro j h1 h2
    simp at h2
    subst h2
    simp [bt, Array.getD, h']
    intro h9; omega
def runD (p : UInt8 → Bool) (s : ByteArray) : Nat → Nat → Nat
  | 0, e => e
  | f + 1, e => if decide (e < s.size) && p (bt s e) then runD p s f (e + 1) else e
theorem runD_eq (p : UInt8 → Bool) (s : ByteArray) : ∀ (f a e : Nat), a ≤ e → e - a < f → (∀ i, a ≤ i → i < e → i < s.size ∧ p (bt s i) = true) → ¬ (e < s.size ∧ p (bt s e) = true) → runD p s f a = e
  | 0, a, e, h1, h2, _, _ => by omega
  | f + 1, a, e, h1, h2, h3, h4 => by
    rw [runD]
    by_cases h : a = e
    · subst h
      rw [if_neg (by simpa using h4)]
    · have := h3 a (Nat.le_refl _) (by omega)
      rw [if_pos (by simpa using this)]
      exact runD_eq p s f (a + 1) e (by omega) (by omega) (fun i hi hj => h3 i (by omega) hj) h4

set_option maxRecDepth 100000 in
set_option maxHeartbeats 4000000 in
theorem number1_any (c : UInt8) (hd : digitM c = true) (w : World) : Calls Tryz.prog 94 #[.string ⟨#[c]⟩] w fun e w' => e = .returned (.tuple #[vu64 (UInt64.ofNat (c.toNat - 48)), .bool true]) ∧ w = w' := by
  have hd2 : 48 ≤ c.toNat ∧ c.toNat ≤ 57 := by simpa [digitM] using hd
  obtain ⟨hd2, hd3⟩ := hd2
  go_enter Tryz.func94, Tryz.ntmps94
  go_wp2_with fail
  refine wp_loop_rounds 2 ?_
  rw [rounds_succ]
  go_wp2_with fail
  rw [rounds_succ]
  go_wp2_with fail
  have hv : (((((⟨#[c]⟩ : ByteArray)[0]'(show 0 < 1 by decide)).toNat : Int) - 48) % 256) = (((UInt64.ofNat (c.toNat - 48)).toNat : Nat) : Int) := by
    show ((c.toNat : Int) - 48) % 256 = _
    rw [UInt64.toNat_ofNat_of_lt' (by show c.toNat - 48 < 2 ^ 64; omega)]
    omega
  rw [hv]
  refine bodyPost_ret (v := .tuple #[vu64 (UInt64.ofNat (c.toNat - 48)), .bool true]) (by simp [results, Tryz.results94, go_sem]) rfl ⟨rfl, rfl⟩
theorem blk_put4 {w : World} {g : Nat} {a0 a1 a2 a3 : Value} {T : TypeId} (h : w.heap[g]? = some (.cells #[a0, a1, a2, a3] T (0, 0))) (v0 v1 v2 v3 : Value) :
    ((((w.setCell ⟨g, 0, none⟩ v0).setCell ⟨g, 1, none⟩ v1).setCell ⟨g, 2, none⟩ v2).setCell ⟨g, 3, none⟩ v3).heap[g]? = some (.cells #[v0, v1, v2, v3] T (0, 0)) := by
  have h0 : (w.setCell ⟨g, 0, none⟩ v0).heap[g]? = some (.cells #[v0, a1, a2, a3] T (0, 0)) := blk_set h 0 v0
  have h1 : ((w.setCell ⟨g, 0, none⟩ v0).setCell ⟨g, 1, none⟩ v1).heap[g]? = some (.cells #[v0, v1, a2, a3] T (0, 0)) := blk_set h0 1 v1
  have h2 : (((w.setCell ⟨g, 0, none⟩ v0).setCell ⟨g, 1, none⟩ v1).setCell ⟨g, 2, none⟩ v2).heap[g]? = some (.cells #[v0, v1, v2, a3] T (0, 0)) := blk_set h1 2 v2
  exact blk_set h2 3 v3
theorem fr_put4 {g : Nat} {w0 w : World} (h : Fr Non w0 w) (hg : w0.heap.size ≤ g) (v0 v1 v2 v3 : Value) : Fr Non w0 ((((w.setCell ⟨g, 0, none⟩ v0).setCell ⟨g, 1, none⟩ v1).setCell ⟨g, 2, none⟩ v2).setCell ⟨g, 3, none⟩ v3) :=
  (((h.setCell ⟨g, 0, none⟩ _ (.inr hg)).setCell ⟨g, 1, none⟩ _ (.inr hg)).setCell ⟨g, 2, none⟩ _ (.inr hg)).setCell ⟨g, 3, none⟩ _ (.inr hg)
def Tk.v (t : Tk) : Value := .agg #[vu8 t.kind, .string t.text, vu64 t.num, .int .i64 t.at_]
def oneS (s : ByteArray) (i : Nat) : Option (Tk × Nat) :=
  let e := runD digitM s (s.size + 1) i
  if i < e then (if e = i + 1 then some (⟨3, ⟨#[]⟩, UInt64.ofNat ((bt s i).toNat - 48), i⟩, 1) else none)
  else
    let e2 := runD partM s (s.size + 1) i
    if i < e2 then (if e2 - i ≤ 16 then some (⟨if wordM (s.extract i e2) then 2 else 1, s.extract i e2, 0, i⟩, e2 - i) else none)
    else (lexSign s i).map fun x => (⟨4, x, 0, i⟩, x.size)
theorem lex_pos : ∀ x ∈ lexSigns, 0 < x.size := by decide

set_option maxRecDepth 100000 in
set_option maxHeartbeats 4000000 in
theorem one_any (s : ByteArray) (i : Nat) (t : Tk) (n : Nat) (w : World) (hi : i < s.size) (hs : s.size ≤ 1099511627776) (h : oneS s i = some (t, n)) :
   Calls Tryz.prog 76 #[.string s, .int .i64 i] w fun e w' => e = .returned (.tuple #[t.v, .int .i64 n, .int .i64 0]) ∧ Fr Non w w' := by
  obtain ⟨W1, HW1⟩ : ∃ W1, W1 = w.alloc (.cells #[.int .u8 0, .string ⟨#[]⟩, .int .u64 0, .int .i64 0] 108) := ⟨_, rfl⟩
  have hf1 : Fr Non w W1 := by rw [HW1]; exact (fr_refl w).alloc _
  have hb1 : W1.heap[w.heap.size]? = some (.cells #[.int .u8 0, .string ⟨#[]⟩, .int .u64 0, .int .i64 0] 108 (0, 0)) := by rw [HW1]; exact blk_new _ _ _
  have HF1 := Lib.hid hf1; clear hf1
  have HB1 := Lib.hid hb1; clear hb1
  have H := Lib.hid h; clear h
  go_enter Tryz.func76, Tryz.ntmps76
  go_upto_region 1 with fail
  rw [← HW1]; clear HW1
  go_upto_block 0 with fail
  go_cut [7] (fun v7 wx => ∃ e : Nat, v7 = .int .i64 e ∧ wx = W1 ∧ runD digitM s (s.size + 1) i = e ∧ i ≤ e ∧ e ≤ s.size ∧ (i < e → digitM (bt s i) = true))
  case first =>
    go_wp2_with fail
    go_loop [7] (fun v => ∃ e : Nat, v = .int .i64 e ∧ i ≤ e ∧ e ≤ s.size ∧ ∀ j, i ≤ j → j < e → j < s.size ∧ digitM (bt s j) = true) (fun v => s.size - (intOf v).toNat)
    case atStart => exact ⟨i, rfl, by omega, by omega, fun j h1 h2 => by omega⟩
    case round =>
      obtain ⟨e, rfl, hie, hes, hall⟩ := hrel
      have HA := Lib.hid hall; clear hall
      by_cases hlt : e < s.size
      · cases hd : digitM s[e] with
        | true =>
          have HD := Lib.hid hd
          go_wp2_with fail
          refine (digit_any _ _).mono ?_
          rintro r w1 ⟨rfl, rfl⟩
          go_wp2_with fail
          go_round
          case rel => exact ⟨e + 1, by go_num, by omega, by omega, fun j h1 h2 => by
            rcases Nat.lt_or_eq_of_le (Nat.le_of_lt_succ h2) with h3 | rfl
            · exact HA.out j h1 h3
            · exact ⟨hlt, by rw [← bt_get hlt]; exact HD.out⟩⟩
          case measure => simp [intOf]; omega
        | false =>
          have HE := Lib.hid (runD_eq digitM s (s.size + 1) i e hie (by omega) HA.out (fun h9 => by rw [← bt_get h9.1, hd] at h9; cases h9.2))
          go_wp2_with fail
          refine (digit_any _ _).mono ?_
          rintro r w1 ⟨rfl, rfl⟩
          go_wp2_with fail
          go_meet
          exact ⟨e, rfl, rfl, HE.out, hie, hes, fun h9 => (HA.out i (Nat.le_refl _) h9).2⟩
      · have HE := Lib.hid (runD_eq digitM s (s.size + 1) i e hie (by omega) HA.out (fun h9 => hlt h9.1))
        go_wp2_with fail
        go_meet
        exact ⟨e, rfl, rfl, HE.out, hie, hes, fun h9 => (HA.out i (Nat.le_refl _) h9).2⟩
  case rest =>
    obtain ⟨e, rfl, rfl, hre, hie, hes, hdi⟩ := hcut
    have HRE := Lib.hid hre; clear hre
    by_cases hlt : i < e
    · have h := H.out
      have HDI := Lib.hid (hdi hlt); clear hdi
      simp only [oneS, HRE.out, if_pos hlt] at h
      have h1 : e = i + 1 := by
        by_cases h9 : e = i + 1
        · exact h9
        · rw [if_neg h9] at h; cases h
      rw [if_pos h1] at h
      simp only [Option.some.injEq, Prod.mk.injEq] at h
      obtain ⟨h2, h3⟩ := h
      have HT := Lib.hid h2; clear h2
      have HN := Lib.hid h3; clear h3
      have HEX := Lib.hid (show s.extract i e = ⟨#[bt s i]⟩ by rw [h1]; exact ext_one hi)
      have HE1 := Lib.hid h1; clear h1
      clear H HRE
      go_wp2_with fail
      rw [HEX.out]
      refine (number1_any (bt s i) HDI.out wc).mono ?_
      rintro r w2 ⟨rfl, rfl⟩
      generalize UInt64.ofNat ((bt s i).toNat - 48) = un at *
      obtain ⟨WX, hWX⟩ : ∃ WX, WX = wc := ⟨_, rfl⟩
      rw [← hWX]
      have HBX := Lib.hid (show WX.heap[w.heap.size]? = some (.cells #[.int .u8 0, .string ⟨#[]⟩, .int .u64 0, .int .i64 0] 108 (0, 0)) by rw [hWX]; exact HB1.out)
      have HFX := Lib.hid (show Fr Non w WX by rw [hWX]; exact HF1.out)
      clear hWX
      have f0 := (cells_of HBX.out).1 0 _ rfl
      have f1 := (cells_of HBX.out).1 1 _ rfl
      have f2 := (cells_of HBX.out).1 2 _ rfl
      have f3 := (cells_of HBX.out).1 3 _ rfl
      have ff := (cells_of HBX.out).2
      go_wp2_with fail
      clear f0 f1 f2 f3 ff
      have HB4 := Lib.hid (blk_put4 HBX.out (.int .u8 3) (.string ⟨#[]⟩) (vu64 un) (.int .i64 i))
      have HF4 := Lib.hid (fr_put4 HFX.out (Nat.le_refl w.heap.size) (.int .u8 3) (.string ⟨#[]⟩) (vu64 un) (.int .i64 i))
      generalize (((WX.setCell ⟨w.heap.size, 0, none⟩ (.int .u8 3)).setCell ⟨w.heap.size, 1, none⟩ (.string ⟨#[]⟩)).setCell ⟨w.heap.size, 2, none⟩ (vu64 un)).setCell ⟨w.heap.size, 3, none⟩ (.int .i64 i) = w4 at *
      have f0 := (cells_of HB4.out).1 0 _ rfl
      have f1 := (cells_of HB4.out).1 1 _ rfl
      have f2 := (cells_of HB4.out).1 2 _ rfl
      have f3 := (cells_of HB4.out).1 3 _ rfl
      rw [← HT.out, ← HN.out]
      rw [show (e : Int) - (i : Int) = ((1 : Nat) : Int) by have := HE1.out; omega]
      refine bodyPost_ret (v := .tuple #[(⟨3, ⟨#[]⟩, un, i⟩ : Tk).v, .int .i64 ((1 : Nat) : Int), .int .i64 0]) (by simp [results, Tryz.results76, go_sem, f0, f1, f2, f3, Tk.v]) rfl ⟨rfl, HF4.out⟩
    · have h := H.out
      simp only [oneS, HRE.out, if_neg hlt] at h
      have H2 := Lib.hid h; clear h H hdi
      have h9 : i = e := by omega
      subst h9
      clear HRE hie
      go_upto_block 2 with fail
      go_cut [7] (fun v7 wx => ∃ e : Nat, v7 = .int .i64 e ∧ wx = wc ∧ runD partM s (s.size + 1) i = e ∧ i ≤ e ∧ e ≤ s.size)
      case first =>
        go_wp2_with fail
        go_loop [7] (fun v => ∃ e : Nat, v = .int .i64 e ∧ i ≤ e ∧ e ≤ s.size ∧ ∀ j, i ≤ j → j < e → j < s.size ∧ partM (bt s j) = true) (fun v => s.size - (intOf v).toNat)
        case atStart => exact ⟨i, rfl, by omega, by omega, fun j h1 h2 => by omega⟩
        case round =>
          obtain ⟨e, rfl, hie, hes, hall⟩ := hrel
          have HA := Lib.hid hall; clear hall
          by_cases hlt : e < s.size
          · have hstep := fun (hp : partM s[e] = true) => (fun j (h1 : i ≤ j) (h2 : j < e + 1) => by
              rcases Nat.lt_or_eq_of_le (Nat.le_of_lt_succ h2) with h3 | rfl
              · exact HA.out j h1 h3
              · exact ⟨hlt, by rw [← bt_get hlt]; exact hp⟩ : ∀ j, i ≤ j → j < e + 1 → j < s.size ∧ partM (bt s j) = true)
            have HSTEP := Lib.hid hstep; clear hstep
            cases hl : letterM s[e] with
            | true =>
              have HP := Lib.hid (HSTEP.out (by simp [partM, hl]))
              go_wp2_with fail
              refine (letter_any _ _).mono ?_
              rintro r w1 ⟨rfl, rfl⟩
              go_wp2_with fail
              go_round
              case rel => exact ⟨e + 1, by go_num, by omega, by omega, HP.out⟩
              case measure => simp [intOf]; omega
            | false =>
              cases hd : digitM s[e] with
              | true =>
                have HP := Lib.hid (HSTEP.out (by simp [partM, hd]))
                go_wp2_with fail
                refine (letter_any _ _).mono ?_
                rintro r w1 ⟨rfl, rfl⟩
                go_wp2_with fail
                refine (digit_any _ _).mono ?_
                rintro r w1 ⟨rfl, rfl⟩
                go_wp2_with fail
                go_round
                case rel => exact ⟨e + 1, by go_num, by omega, by omega, HP.out⟩
                case measure => simp [intOf]; omega
              | false =>
                have HE := Lib.hid (runD_eq partM s (s.size + 1) i e hie (by omega) HA.out (fun h9 => by rw [← bt_get h9.1, partM, hl, hd] at h9; cases h9.2))
                go_wp2_with fail
                refine (letter_any _ _).mono ?_
                rintro r w1 ⟨rfl, rfl⟩
                go_wp2_with fail
                refine (digit_any _ _).mono ?_
                rintro r w1 ⟨rfl, rfl⟩
                go_wp2_with fail
                go_meet
                exact ⟨e, rfl, rfl, HE.out, hie, hes⟩
          · have HE := Lib.hid (runD_eq partM s (s.size + 1) i e hie (by omega) HA.out (fun h9 => hlt h9.1))
            go_wp2_with fail
            go_meet
            exact ⟨e, rfl, rfl, HE.out, hie, hes⟩
      case rest =>
        obtain ⟨e, rfl, rfl, hre, hie, hes⟩ := hcut
        have HRE := Lib.hid hre; clear hre
        by_cases hlt2 : i < e
        · have h := H2.out
          simp only [HRE.out, if_pos hlt2] at h
          have h16 : e - i ≤ 16 := by
            by_cases h9 : e - i ≤ 16
            · exact h9
            · rw [if_neg h9] at h; cases h
          rw [if_pos h16] at h
          simp only [Option.some.injEq, Prod.mk.injEq] at h
          obtain ⟨h2, h3⟩ := h
          have HT := Lib.hid h2; clear h2
          have HN := Lib.hid h3; clear h3
          have hsz : (s.extract i e).size = e - i := by rw [ByteArray.size_extract]; omega
          have HSZ := Lib.hid hsz
          have hlen : ((s.extract i e).size : Int) ≤ 16 := by omega
          have hdl : decide ((16 : Int) < ((s.extract i e).size : Int)) = false := decide_eq_false (by omega)
          clear H2 HRE hsz
          go_wp2_with fail
          generalize s.extract i e = x at *
          refine (word_any x wc).mono ?_
          rintro r w2 ⟨rfl, hf2⟩
          have HF2 := Lib.hid hf2; clear hf2
          obtain ⟨WX, hWX⟩ : ∃ WX, WX = w2 := ⟨_, rfl⟩
          rw [← hWX]
          have HBX := Lib.hid (show WX.heap[w.heap.size]? = some (.cells #[.int .u8 0, .string ⟨#[]⟩, .int .u64 0, .int .i64 0] 108 (0, 0)) by rw [hWX]; exact blk_fr HB1.out HF2.out (non _))
          have HFX := Lib.hid (show Fr Non w WX by rw [hWX]; exact HF1.out.trans HF2.out)
          clear hWX
          have f0 := (cells_of HBX.out).1 0 _ rfl
          have f1 := (cells_of HBX.out).1 1 _ rfl
          have f2 := (cells_of HBX.out).1 2 _ rfl
          have f3 := (cells_of HBX.out).1 3 _ rfl
          have ff := (cells_of HBX.out).2
          cases hw : wordM x with
          | true =>
            rw [hw, if_pos rfl] at HT
            have HW := Lib.hid hw; clear hw
            go_wp2_with fail
            clear f0 f1 f2 f3 ff
            have HB4 := Lib.hid (blk_put4 HBX.out (.int .u8 2) (.string x) (.int .u64 0) (.int .i64 i))
            have HF4 := Lib.hid (fr_put4 HFX.out (Nat.le_refl w.heap.size) (.int .u8 2) (.string x) (.int .u64 0) (.int .i64 i))
            generalize (((WX.setCell ⟨w.heap.size, 0, none⟩ (.int .u8 2)).setCell ⟨w.heap.size, 1, none⟩ (.string x)).setCell ⟨w.heap.size, 2, none⟩ (.int .u64 0)).setCell ⟨w.heap.size, 3, none⟩ (.int .i64 i) = w4 at *
            have f0 := (cells_of HB4.out).1 0 _ rfl
            have f1 := (cells_of HB4.out).1 1 _ rfl
            have f2 := (cells_of HB4.out).1 2 _ rfl
            have f3 := (cells_of HB4.out).1 3 _ rfl
            rw [← HT.out, ← HN.out]
            rw [show (e : Int) - (i : Int) = ((e - i : Nat) : Int) by omega]
            refine bodyPost_ret (v := .tuple #[(⟨2, x, 0, i⟩ : Tk).v, .int .i64 ((e - i : Nat) : Int), .int .i64 0]) (by simp [results, Tryz.results76, go_sem, f0, f1, f2, f3, Tk.v]) rfl ⟨rfl, HF4.out⟩
          | false =>
            rw [hw, if_neg Bool.false_ne_true] at HT
            have HW := Lib.hid hw; clear hw
            go_wp2_with fail
            clear f0 f1 f2 f3 ff
            have HB4 := Lib.hid (blk_put4 HBX.out (.int .u8 1) (.string x) (.int .u64 0) (.int .i64 i))
            have HF4 := Lib.hid (fr_put4 HFX.out (Nat.le_refl w.heap.size) (.int .u8 1) (.string x) (.int .u64 0) (.int .i64 i))
            generalize (((WX.setCell ⟨w.heap.size, 0, none⟩ (.int .u8 1)).setCell ⟨w.heap.size, 1, none⟩ (.string x)).setCell ⟨w.heap.size, 2, none⟩ (.int .u64 0)).setCell ⟨w.heap.size, 3, none⟩ (.int .i64 i) = w4 at *
            have f0 := (cells_of HB4.out).1 0 _ rfl
            have f1 := (cells_of HB4.out).1 1 _ rfl
            have f2 := (cells_of HB4.out).1 2 _ rfl
            have f3 := (cells_of HB4.out).1 3 _ rfl
            rw [← HT.out, ← HN.out]
            rw [show (e : Int) - (i : Int) = ((e - i : Nat) : Int) by omega]
            refine bodyPost_ret (v := .tuple #[(⟨1, x, 0, i⟩ : Tk).v, .int .i64 ((e - i : Nat) : Int), .int .i64 0]) (by simp [results, Tryz.results76, go_sem, f0, f1, f2, f3, Tk.v]) rfl ⟨rfl, HF4.out⟩
        · have h := H2.out
          simp only [HRE.out, if_neg hlt2] at h
          have h9 : i = e := by omega
          subst h9
          clear H2 HRE
          cases hx : lexSign s i with
          | none => rw [hx] at h; cases h
          | some x =>
            rw [hx] at h
            simp only [Option.map_some, Option.some.injEq, Prod.mk.injEq] at h
            obtain ⟨h2, h3⟩ := h
            have HT := Lib.hid h2; clear h2
            have HN := Lib.hid h3; clear h3
            have hpos := lex_pos x (List.mem_of_find?_eq_some hx)
            have hem : emp x = false := by rw [emp]; exact beq_eq_false_iff_ne.2 (by omega)
            have hem' : x.toList.isEmpty = false := by rw [toemp]; exact hem
            have HX := Lib.hid hx; clear hx hem
            go_wp2_with fail
            refine (lexsign_any s i wc (by omega) hs).mono ?_
            rintro r w2 ⟨rfl, hf2⟩
            rw [HX.out, Option.getD_some]
            have HF2 := Lib.hid hf2; clear hf2
            obtain ⟨WX, hWX⟩ : ∃ WX, WX = w2 := ⟨_, rfl⟩
            rw [← hWX]
            have HBX := Lib.hid (show WX.heap[w.heap.size]? = some (.cells #[.int .u8 0, .string ⟨#[]⟩, .int .u64 0, .int .i64 0] 108 (0, 0)) by rw [hWX]; exact blk_fr HB1.out HF2.out (non _))
            have HFX := Lib.hid (show Fr Non w WX by rw [hWX]; exact HF1.out.trans HF2.out)
            clear hWX
            have f0 := (cells_of HBX.out).1 0 _ rfl
            have f1 := (cells_of HBX.out).1 1 _ rfl
            have f2 := (cells_of HBX.out).1 2 _ rfl
            have f3 := (cells_of HBX.out).1 3 _ rfl
            have ff := (cells_of HBX.out).2
            go_wp2_with fail
            clear f0 f1 f2 f3 ff
            have HB4 := Lib.hid (blk_put4 HBX.out (.int .u8 4) (.string x) (.int .u64 0) (.int .i64 i))
            have HF4 := Lib.hid (fr_put4 HFX.out (Nat.le_refl w.heap.size) (.int .u8 4) (.string x) (.int .u64 0) (.int .i64 i))
            generalize (((WX.setCell ⟨w.heap.size, 0, none⟩ (.int .u8 4)).setCell ⟨w.heap.size, 1, none⟩ (.string x)).setCell ⟨w.heap.size, 2, none⟩ (.int .u64 0)).setCell ⟨w.heap.size, 3, none⟩ (.int .i64 i) = w4 at *
            have f0 := (cells_of HB4.out).1 0 _ rfl
            have f1 := (cells_of HB4.out).1 1 _ rfl
            have f2 := (cells_of HB4.out).1 2 _ rfl
            have f3 := (cells_of HB4.out).1 3 _ rfl
            rw [← HT.out, ← HN.out]
            refine bodyPost_ret (v := .tuple #[(⟨4, x, 0, i⟩ : Tk).v, .int .i64 x.size, .int .i64 0]) (by simp [results, Tryz.results76, go_sem, f0, f1, f2, f3, Tk.v]) rfl ⟨rfl, HF4.out⟩
end Go.Proofs.YtfncbemligfloaaGreatDoor
/- Contracts of the reference's reading of texts: ref06.Cut. -/
namespace Go.Proofs.YtfncbemligfloaaGreatDoor
open Go.RowKit
set_option linter.unusedVariables false
set_option linter.unusedSimpArgs false
def Tk.d (t : Tk) : List D := [.v (vu8 t.kind), .v (.string t.text), .v (vu64 t.num), .v (.int .i64 t.at_)]
def blankB (c : UInt8) : Bool := c.toNat == 32 || c.toNat == 10
def cutS (s : ByteArray) : Nat → Nat → Option (List Tk)
  | 0, _ => none
  | f + 1, i => if s.size ≤ i then some [] else if blankB (bt s i) then cutS s f (i + 1) else (oneS s i).bind fun r => (cutS s f (i + r.2)).map fun ts => r.1 :: ts
def endTk (s : ByteArray) : Tk := ⟨5, ⟨#[]⟩, 0, s.size⟩
def cutT (s : ByteArray) : Option (List Tk) := (cutS s (s.size + 1) 0).map fun ts => ts ++ [endTk s]
theorem runD_le (p : UInt8 → Bool) (s : ByteArray) : ∀ f a, a ≤ s.size → a ≤ runD p s f a ∧ runD p s f a ≤ s.size
  | 0, a, h => ⟨Nat.le_refl _, h⟩
  | f + 1, a, h => by
    rw [runD]
    split
    · rename_i h1
      simp only [Bool.and_eq_true, decide_eq_true_eq] at h1
      have := runD_le p s f (a + 1) h1.1
      omega
    · exact ⟨Nat.le_refl _, h⟩
theorem oneS_le {s : ByteArray} {i : Nat} {t : Tk} {n : Nat} (hi : i < s.size) (h : oneS s i = some (t, n)) : 0 < n ∧ i + n ≤ s.size := by
  have h1 := runD_le digitM s (s.size + 1) i (by omega)
  have h2 := runD_le partM s (s.size + 1) i (by omega)
  simp only [oneS] at h
  split at h
  · split at h
    · simp only [Option.some.injEq, Prod.mk.injEq] at h; omega
    · cases h
  · split at h
    · split at h
      · simp only [Option.some.injEq, Prod.mk.injEq] at h; omega
      · cases h
    · cases hx : lexSign s i with
      | none => rw [hx] at h; cases h
      | some x =>
        rw [hx] at h
        simp only [Option.map_some, Option.some.injEq, Prod.mk.injEq] at h
        have h3 := lex_pos x (List.mem_of_find?_eq_some hx)
        have h4 := List.find?_some hx
        simp only [Bool.and_eq_true, decide_eq_true_eq] at h4
        omega
theorem chunk_tk {ok : Nat → Prop} {w : World} (t : Tk) : Chunks ok w 4 [t.d] [vu8 t.kind, .string t.text, vu64 t.num, .int .i64 t.at_] :=
  ⟨_, [], rfl, rfl, rfl, ⟨_, _, rfl, rfl, _, _, rfl, rfl, _, _, rfl, rfl, _, _, rfl, rfl, rfl⟩, rfl⟩
theorem one_tk (a : UInt8) (b : UInt64) (s : ByteArray) (i : Int) : ∀ u ∈ [vu8 a, .string s, vu64 b, .int .i64 i], u.oneCell' = true := by
  intro u hu; simp at hu; rcases hu with rfl | rfl | rfl | rfl <;> rfl

set_option maxRecDepth 100000 in
set_option maxHeartbeats 4000000 in
theorem cut_any (s : ByteArray) (L : List Tk) (w : World) (hs : s.size ≤ 16384) (h : cutS s (s.size + 1) 0 = some L) :
   Calls Tryz.prog 54 #[.string s] w fun e w' => ∃ A c, e = .returned (.tuple #[.slice A (L.length + 1) c, .agg #[.int .i64 0, .int .i64 0]]) ∧ L.length + 1 ≤ c ∧ Fr Non w w' ∧ RdRows (New w.heap.size w') w' 4 A 0 ((L ++ [endTk s]).map Tk.d) := by
  obtain ⟨W1, HW1⟩ : ∃ W1, W1 = w.alloc (.cells #[.int .i64 0, .int .i64 0] 63) := ⟨_, rfl⟩
  have hf1 : Fr Non w W1 := by rw [HW1]; exact (fr_refl w).alloc _
  have hb1 : W1.heap[w.heap.size]? = some (.cells #[.int .i64 0, .int .i64 0] 63 (0, 0)) := by rw [HW1]; exact blk_new _ _ _
  have HF1 := Lib.hid hf1
  have HB1 := Lib.hid hb1; clear hb1
  have hz1 : w.heap.size + 1 = W1.heap.size := by rw [HW1]; simp
  have H := Lib.hid h; clear h hf1
  have hgt : decide ((16384 : Int) < (s.size : Int)) = false := decide_eq_false (by omega)
  go_enter Tryz.func54, Tryz.ntmps54
  go_upto_region 1 with fail
  rw [← HW1]; clear HW1
  go_wp2_with fail
  go_loopw [4, 5] (fun v a wr => ∃ (i f : Nat) (l r : List Tk), a = .int .i64 i ∧ i ≤ s.size ∧ l ++ r = L ∧ l.length ≤ i ∧ cutS s f i = some r ∧ Fr Non W1 wr ∧ Own W1.heap.size 108 4 wr v (l.map Tk.d)) (fun _ a _ => s.size - (intOf a).toNat)
  case atStart => exact ⟨0, _, [], L, rfl, by omega, rfl, Nat.le_refl _, H.out, fr_refl _, Own.nil _ _ _ _⟩
  case round =>
    obtain ⟨i, f, l, r, rfl, hi, hlr, hli, hcut, hfr, hown⟩ := hrel
    have HLR := Lib.hid hlr; clear hlr
    have HFR := Lib.hid hfr; clear hfr
    obtain ⟨A0, c0, rfl, hc0⟩ := hown.slice
    have hn : (l.map Tk.d).length = l.length := List.length_map _
    rw [hn] at hc0 hown ⊢
    clear hn
    have HO := Lib.hid hown; clear hown
    cases f with
    | zero => cases hcut
    | succ f =>
      rw [cutS] at hcut
      by_cases hlt : i < s.size
      · rw [if_neg (by omega)] at hcut
        cases hb : blankB (bt s i) with
        | true =>
          rw [hb, if_pos rfl] at hcut
          have HC := Lib.hid hcut; clear hcut
          rw [← bt_get hlt, blankB, Bool.or_eq_true] at hb
          have hcase : (((s[i].toNat : Nat) : Int) == 32) = true ∨ ((((s[i].toNat : Nat) : Int) == 32) = false ∧ (((s[i].toNat : Nat) : Int) == 10) = true) := by
            rcases hb with hb | hb
            · left; rw [beq_iff_eq] at hb ⊢; omega
            · right; rw [beq_iff_eq] at hb; exact ⟨by rw [beq_eq_false_iff_ne]; omega, by rw [beq_iff_eq]; omega⟩
          clear hb
          rcases hcase with q1 | ⟨q1, q2⟩
          all_goals
            go_wp2_with fail
            go_roundw
            case rel => exact ⟨i + 1, f, l, r, by go_num, by omega, HLR.out, by omega, HC.out, HFR.out, HO.out⟩
            case measure => simp [intOf]; omega
        | false =>
          rw [hb, if_neg Bool.false_ne_true] at hcut
          cases ho : oneS s i with
          | none => rw [ho] at hcut; cases hcut
          | some p =>
            obtain ⟨t, n⟩ := p
            rw [ho, Option.bind_some] at hcut
            cases hc : cutS s f (i + n) with
            | none => simp only [hc] at hcut; cases hcut
            | some r2 =>
              simp only [hc, Option.map_some, Option.some.injEq] at hcut
              have HR := Lib.hid hcut; clear hcut
              have HC := Lib.hid hc; clear hc
              have hle := oneS_le hlt ho
              have HO1 := Lib.hid ho; clear ho
              rw [← bt_get hlt, blankB, Bool.or_eq_false_iff] at hb
              have q1 : (((s[i].toNat : Nat) : Int) == 32) = false := by have := hb.1; rw [beq_eq_false_iff_ne] at this ⊢; omega
              have q2 : (((s[i].toNat : Nat) : Int) == 10) = false := by have := hb.2; rw [beq_eq_false_iff_ne] at this ⊢; omega
              clear hb
              go_wp2_with fail
              refine (one_any s i t n wr hlt (by omega) HO1.out).mono ?_
              rintro e w2 ⟨rfl, hf2⟩
              have HF2 := Lib.hid (HFR.out.trans hf2)
              have HO2 := Lib.hid (HO.out.fr hf2 (fun _ _ => non _)); clear hf2
              unfold Tk.v
              clear q1 q2
              have HL := Lib.hid (show (l.map Tk.d).length = l.length from List.length_map _)
              go_wp2_with (at_builtin; refine app_tk rfl _ _ rfl W1.heap.size (.slice A0 l.length c0) (l.map Tk.d) rfl ?o ⟨w2.heap.size + 1, 0, none⟩ 1 1 rfl [t.d] [vu8 t.kind, .string t.text, vu64 t.num, .int .i64 t.at_] (chunk_tk t) rfl ?nc (one_tk _ _ _ _) ?b1 ?b2 ?b3 ?k)
              case o => have h9 := HO2.out.fr (((fr_refl w2).alloc (.cells #[vu8 t.kind, .string t.text, vu64 t.num, .int .i64 t.at_] 108)).alloc (.cells #[vu8 t.kind, .string t.text, vu64 t.num, .int .i64 t.at_] 108)) (fun _ _ => non _); exact h9
              case nc => exact new_cells' (by simp)
              case b1 => rw [HL.out]; unfold maxLen; omega
              case b2 => rw [HL.out]; omega
              case b3 => have := HF2.out.size; simp; omega
              case k =>
              intro v' w' hown' hfr'
              have HO' := Lib.hid hown'; clear hown'
              have HF' := Lib.hid ((((HF2.out.alloc (.cells #[vu8 t.kind, .string t.text, vu64 t.num, .int .i64 t.at_] 108)).alloc (.cells #[vu8 t.kind, .string t.text, vu64 t.num, .int .i64 t.at_] 108))).then hfr' (fun k hk ht => by have := ht.1; omega)); clear hfr'
              go_wp2_with fail
              go_roundw
              case rel => exact ⟨i + n, f, l ++ [t], r2, by go_num, by omega, by rw [← HLR.out, ← HR.out, List.append_assoc]; rfl, by simp; omega, HC.out, HF'.out, by rw [List.map_append]; exact HO'.out⟩
              case measure => simp [intOf]; omega
      · have hie : i = s.size := by omega
        rw [if_pos (by omega)] at hcut
        simp only [Option.some.injEq] at hcut
        subst hcut
        have HIE := Lib.hid hie; clear hie
        rw [List.append_nil] at HLR
        have HL := Lib.hid (show (l.map Tk.d).length = l.length from List.length_map _)
        have hbf := blk_fr HB1.out HFR.out (non _)
        have f0 := (cells_of hbf).1 0 _ rfl
        have f1 := (cells_of hbf).1 1 _ rfl
        have ff := (cells_of hbf).2
        have HBF := Lib.hid hbf; clear hbf
        go_wp2_with (at_builtin; refine app_tk rfl _ _ rfl W1.heap.size (.slice A0 l.length c0) (l.map Tk.d) rfl ?o ⟨wr.heap.size, 0, none⟩ 1 1 rfl [(endTk s).d] [vu8 5, .string ⟨#[]⟩, vu64 0, .int .i64 s.size] (chunk_tk (endTk s)) rfl ?nc (one_tk _ _ _ _) ?b1 ?b2 ?b3 ?k)
        case o => have h9 := HO.out.fr ((fr_refl wr).alloc (.cells #[vu8 5, .string ⟨#[]⟩, vu64 0, .int .i64 s.size] 108)) (fun _ _ => non _); exact h9
        case nc => exact new_cells' rfl
        case b1 => rw [HL.out]; unfold maxLen; omega
        case b2 => rw [HL.out]; omega
        case b3 => have := HFR.out.size; simp; omega
        case k =>
        intro v' w' hown' hfr'
        obtain ⟨A1, c1, rfl, hc1⟩ := hown'.slice
        have hln : (l.map Tk.d ++ [(endTk s).d]).length = l.length + 1 := by simp
        rw [hln] at hc1 hown' ⊢
        clear hln
        have hbf2 := blk_fr (blk_old HBF.out) hfr' (fun ht => by have := ht.1; omega)
        have HFW := Lib.hid ((HFR.out.alloc (.cells #[vu8 5, .string ⟨#[]⟩, vu64 0, .int .i64 s.size] 108)).then hfr' (fun k hk ht => by have := ht.1; omega))
        clear hfr' f0 f1 ff
        have f0 := (cells_of hbf2).1 0 _ rfl
        have f1 := (cells_of hbf2).1 1 _ rfl
        have ff := (cells_of hbf2).2
        have HO' := Lib.hid hown'; clear hown'
        go_wp2_with fail
        have HFZ := Lib.hid (show Fr (fun q => q = w.heap.size) w' ((w'.setCell ⟨w.heap.size, 0, none⟩ (.int .i64 0)).setCell ⟨w.heap.size, 1, none⟩ (.int .i64 0)) from ((Fr.refl (fun q => q = w.heap.size) w').setCell ⟨w.heap.size, 0, none⟩ _ (.inl rfl)).setCell ⟨w.heap.size, 1, none⟩ _ (.inl rfl))
        have HBZ := Lib.hid (show ((w'.setCell ⟨w.heap.size, 0, none⟩ (.int .i64 0)).setCell ⟨w.heap.size, 1, none⟩ (.int .i64 0)).heap[w.heap.size]? = some (.cells #[.int .i64 0, .int .i64 0] 63 (0, 0)) from blk_set (blk_set hbf2 0 _) 1 _)
        generalize (w'.setCell ⟨w.heap.size, 0, none⟩ (.int .i64 0)).setCell ⟨w.heap.size, 1, none⟩ (.int .i64 0) = wz at *
        clear f0 f1 ff
        have f0 := (cells_of HBZ.out).1 0 _ rfl
        have f1 := (cells_of HBZ.out).1 1 _ rfl
        have hll : l.length = L.length := by rw [HLR.out]
        have HRW := Lib.hid (HO'.out.fr HFZ.out (fun k hk e => by have e : k = w.heap.size := e; omega)).rows
        rw [hll]
        refine bodyPost_ret (v := .tuple #[.slice A1 (L.length + 1) c1, .agg #[.int .i64 0, .int .i64 0]]) (by simp [results, Tryz.results54, go_sem, f0, f1]) rfl ⟨A1, c1, rfl, by omega, (HF1.out.trans HFW.out).then HFZ.out (fun k hk e => by have e : k = w.heap.size := e; omega), ?_⟩
        rw [← HLR.out, List.map_append]
        exact HRW.out.mono (fun _ _ _ _ h => h) (fun k hk => ⟨by omega, hk.2⟩) _ _ _
end Go.Proofs.YtfncbemligfloaaGreatDoor
/- Contracts of the reference's parser: what stands next. -/
namespace Go.Proofs.YtfncbemligfloaaGreatDoor
open Go.RowKit
set_option linter.unusedVariables false
set_option linter.unusedSimpArgs false
theorem at_tk {ok : Nat → Prop} {w : World} {A : Option Addr} {l : List Tk} (h : RdRows ok w 4 A 0 (l.map Tk.d)) (k : Nat) (hk : k < l.length) :
    ∃ b o, A = some ⟨b, o, none⟩ ∧ ok b ∧ w.cell? ⟨b, o + k * 4, none⟩ = some (vu8 l[k].kind) ∧ w.cell? ⟨b, o + k * 4 + 1, none⟩ = some (.string l[k].text) ∧
      w.cell? ⟨b, o + k * 4 + 2, none⟩ = some (vu64 l[k].num) ∧ w.cell? ⟨b, o + k * 4 + 3, none⟩ = some (.int .i64 l[k].at_) := by
  obtain ⟨b, o, e, hb, hl, hr⟩ := h.get0 k (by simpa using hk)
  simp only [List.getElem_map, Tk.d, RdAt, RdC] at hr
  obtain ⟨⟨_, h0, rfl⟩, ⟨_, h1, rfl⟩, ⟨_, h2, rfl⟩, ⟨_, h3, rfl⟩, _⟩ := hr
  exact ⟨b, o, e, hb, h0, h1, h2, h3⟩
structure EyeAt (ok : Nat → Prop) (ts : List Tk) (A : Option Addr) (c be : Nat) (w : World) (i : Nat) : Prop where
  blk : w.heap[be]? = some (.cells #[.slice A ts.length c, .int .i64 i, .int .i64 0, .int .i64 0] 104 (0, 0))
  rows : RdRows ok w 4 A 0 (ts.map Tk.d)
  ne : ∀ q, ok q → q ≠ be
  len : ts.length ≤ 20000
  le : i ≤ ts.length
def eyeStep (w : World) (be : Nat) (i : Nat) : World := w.setCell ⟨be, 1, none⟩ (.int .i64 i)
theorem EyeAt.fr {ok : Nat → Prop} {ts : List Tk} {A : Option Addr} {c be : Nat} {w w' : World} {i : Nat} {S : Nat → Prop} (h : EyeAt ok ts A c be w i) (hf : Fr S w w') (hb : ¬ S be) (ho : ∀ q, ok q → ¬ S q) : EyeAt ok ts A c be w' i :=
  ⟨blk_fr h.blk hf hb, h.rows.fr hf ho fun _ h => h, h.ne, h.len, h.le⟩
theorem EyeAt.stay {ok : Nat → Prop} {ts : List Tk} {A : Option Addr} {c be : Nat} {w w' : World} {i : Nat} (h : EyeAt ok ts A c be w i) (hf : Fr Non w w') : EyeAt ok ts A c be w' i := h.fr hf (non _) fun _ _ => non _
theorem EyeAt.next {ok : Nat → Prop} {ts : List Tk} {A : Option Addr} {c be : Nat} {w : World} {i : Nat} (h : EyeAt ok ts A c be w i) (hi : i < ts.length) : EyeAt ok ts A c be (w.setCell ⟨be, 1, none⟩ (.int .i64 ((i : Int) + 1))) (i + 1) ∧ Fr (fun k => k = be) w (w.setCell ⟨be, 1, none⟩ (.int .i64 ((i : Int) + 1))) := by
  have hf : Fr (fun k => k = be) w (w.setCell ⟨be, 1, none⟩ (.int .i64 ((i : Int) + 1))) := (Fr.refl _ _).setCell _ _ (.inl rfl)
  exact ⟨⟨by have := blk_set h.blk 1 (.int .i64 ((i : Int) + 1)); exact this, h.rows.fr hf (fun q hq e => h.ne q hq e) fun _ h => h, h.ne, h.len, hi⟩, hf⟩
def tkK (ts : List Tk) (k : UInt8) (s : ByteArray) (i : Nat) : Bool := (ts.getD i Tk.zero).kind.toNat == k.toNat && sq (ts.getD i Tk.zero).text s
def eyeI (ts : List Tk) (k : UInt8) (s : ByteArray) (i : Nat) : Nat := if tkK ts k s i then i + 1 else i
theorem eyeI_t {ts : List Tk} {k : UInt8} {s : ByteArray} {i : Nat} (h : tkK ts k s i = true) : eyeI ts k s i = i + 1 := if_pos h
theorem eyeI_f {ts : List Tk} {k : UInt8} {s : ByteArray} {i : Nat} (h : tkK ts k s i = false) : eyeI ts k s i = i := if_neg (by rw [h]; exact Bool.false_ne_true)
theorem getD_at {ts : List Tk} {i : Nat} (h : i < ts.length) : ts.getD i Tk.zero = ts[i] := by rw [List.getD_eq_getElem?_getD, List.getElem?_eq_getElem h, Option.getD_some]

set_option maxRecDepth 100000 in
set_option maxHeartbeats 4000000 in
theorem look_any (ok : Nat → Prop) (ts : List Tk) (A : Option Addr) (c be : Nat) (w : World) (i : Nat) (h : EyeAt ok ts A c be w i) (hi : i < ts.length) :
   Calls Tryz.prog 56 #[.pointer (some ⟨be, 0, none⟩)] w fun e w' => e = .returned (ts[i]).v ∧ Fr Non w w' := by
  have hlen := h.len
  obtain ⟨W1, HW1⟩ : ∃ W1, W1 = w.alloc (.cells #[.int .u8 0, .string ⟨#[]⟩, .int .u64 0, .int .i64 0] 108) := ⟨_, rfl⟩
  have hf1 : Fr Non w W1 := by rw [HW1]; exact (fr_refl w).alloc _
  have hb1 : W1.heap[w.heap.size]? = some (.cells #[.int .u8 0, .string ⟨#[]⟩, .int .u64 0, .int .i64 0] 108 (0, 0)) := by rw [HW1]; exact blk_new _ _ _
  have H1 := Lib.hid (h.stay hf1); clear h
  have b0 := (cells_of H1.out.blk).1 0 _ rfl
  have b1 := (cells_of H1.out.blk).1 1 _ rfl
  obtain ⟨b, o, rfl, hb, x0, x1, x2, x3⟩ := at_tk H1.out.rows i hi
  have HF1 := Lib.hid hf1; clear hf1
  have HB1 := Lib.hid hb1; clear hb1
  have y0 := ext_cell b0
  have y1 := ext_cell b1
  generalize ts[i] = t at *
  go_enter Tryz.func56, Tryz.ntmps56
  go_upto_region 1 with fail
  rw [← HW1]; clear HW1
  have hd1 : decide ((i : Int) < 0) = false := decide_eq_false (by omega)
  have hd2 : decide ((ts.length : Int) ≤ (i : Int)) = false := decide_eq_false (by omega)
  refine wp_region_ext (by kernel_rfl) (by kernel_rfl) ?_
  repeat (go_big_quiet_step (fail))
  refine wpQuiet_nil ?_
  intro w2 hf2
  clear y0 y1
  have b0 := hf2.cell' b0 (non _)
  have b1 := hf2.cell' b1 (non _)
  have x0 := hf2.cell' x0 (non _)
  have x1 := hf2.cell' x1 (non _)
  have x2 := hf2.cell' x2 (non _)
  have x3 := hf2.cell' x3 (non _)
  have hb2 := blk_fr HB1.out hf2 (non _)
  have f0 := (cells_of hb2).1 0 _ rfl
  have f1 := (cells_of hb2).1 1 _ rfl
  have f2 := (cells_of hb2).1 2 _ rfl
  have f3 := (cells_of hb2).1 3 _ rfl
  have ff := (cells_of hb2).2
  have HB2 := Lib.hid hb2; clear hb2
  have HF2 := Lib.hid (HF1.out.trans hf2); clear hf2
  go_wp2_with fail
  go_region
  have HB3 := Lib.hid (blk_put4 HB2.out (vu8 t.kind) (.string t.text) (vu64 t.num) (.int .i64 t.at_))
  have HF3 := Lib.hid (fr_put4 HF2.out (Nat.le_refl w.heap.size) (vu8 t.kind) (.string t.text) (vu64 t.num) (.int .i64 t.at_))
  clear b0 b1 x0 x1 x2 x3 f0 f1 f2 f3 ff
  generalize (((w2.setCell ⟨w.heap.size, 0, none⟩ (vu8 t.kind)).setCell ⟨w.heap.size, 1, none⟩ (.string t.text)).setCell ⟨w.heap.size, 2, none⟩ (vu64 t.num)).setCell ⟨w.heap.size, 3, none⟩ (.int .i64 t.at_) = w3 at *
  have hd3 := blk_fr HB3.out (fr_refl w3).drew (non _)
  have f0 := (cells_of hd3).1 0 _ rfl
  have f1 := (cells_of hd3).1 1 _ rfl
  have f2 := (cells_of hd3).1 2 _ rfl
  have f3 := (cells_of hd3).1 3 _ rfl
  go_wp2_with fail
  refine bodyPost_ret (v := t.v) (by simp [results, Tryz.results56, go_sem, f0, f1, f2, f3, Tk.v]) rfl ⟨rfl, HF3.out.trans (fr_refl w3).drew⟩

set_option maxRecDepth 100000 in
set_option maxHeartbeats 4000000 in
theorem esign_any (ok : Nat → Prop) (ts : List Tk) (A : Option Addr) (c be : Nat) (w : World) (i : Nat) (s : ByteArray) (h : EyeAt ok ts A c be w i) (hi : i < ts.length) :
   Calls Tryz.prog 80 #[.pointer (some ⟨be, 0, none⟩), .string s] w fun e w' => e = .returned (.bool (tkK ts 4 s i)) ∧ Fr (fun k => k = be) w w' ∧ EyeAt ok ts A c be w' (eyeI ts 4 s i) := by
  have hlen := h.len
  have hbe := blk_lt h.blk
  have HE := Lib.hid h; clear h
  have HTK := Lib.hid (show tkK ts 4 s i = (ts[i].kind.toNat == 4 && sq ts[i].text s) by rw [tkK, getD_at hi]; rfl)
  go_enter Tryz.func80, Tryz.ntmps80
  go_wp2_with fail
  refine (look_any ok ts A c be w i HE.out hi).mono ?_
  rintro e w2 ⟨rfl, hf2⟩
  unfold Tk.v
  generalize ts[i] = t at *
  obtain ⟨W3, HW3⟩ : ∃ W3, W3 = w2.alloc (.cells #[vu8 t.kind, .string t.text, vu64 t.num, .int .i64 t.at_] 108) := ⟨_, rfl⟩
  have hf3 : Fr Non w2 W3 := by rw [HW3]; exact (fr_refl _).alloc _
  have hb3 : W3.heap[w2.heap.size]? = some (.cells #[vu8 t.kind, .string t.text, vu64 t.num, .int .i64 t.at_] 108 (0, 0)) := by rw [HW3]; exact blk_new _ _ _
  have HF3 := Lib.hid (hf2.trans hf3)
  have H3 := Lib.hid (HE.out.stay HF3.out); clear hf2 hf3
  have b3 := (cells_of H3.out.blk).1 3 _ rfl
  have t0 := (cells_of hb3).1 0 _ rfl
  have t1 := (cells_of hb3).1 1 _ rfl
  clear hb3
  go_upto_region 2 with fail
  rw [← HW3]; clear HW3
  cases h4 : ((t.kind.toNat : Nat) : Int) == 4 with
  | false =>
    have h4' : (((t.kind.toNat : Nat) : Int) != 4) = true := by rw [bne, h4]; rfl
    have HN := Lib.hid (show tkK ts 4 s i = false by rw [HTK.out, Bool.and_eq_false_iff]; left; rw [beq_eq_false_iff_ne] at h4 ⊢; omega)
    go_wp2_with fail
    go_ret
    rw [HN.out, eyeI_f HN.out]
    exact ⟨rfl, HF3.out.non, H3.out⟩
  | true =>
    have h4' : (((t.kind.toNat : Nat) : Int) != 4) = false := by rw [bne, h4]; rfl
    cases hq : sq t.text s with
    | false =>
      have hq' : (t.text.toList == s.toList) = false := by rw [tosq]; exact hq
      have hq2 : (t.text.toList != s.toList) = true := by rw [bne, hq']; rfl
      have HN := Lib.hid (show tkK ts 4 s i = false by rw [HTK.out, hq, Bool.and_false])
      clear hq
      go_wp2_with fail
      go_ret
      rw [HN.out, eyeI_f HN.out]
      exact ⟨rfl, HF3.out.non, H3.out⟩
    | true =>
      have hq' : (t.text.toList == s.toList) = true := by rw [tosq]; exact hq
      have hq2 : (t.text.toList != s.toList) = false := by rw [bne, hq']; rfl
      have HN := Lib.hid (show tkK ts 4 s i = true by rw [HTK.out, hq, Bool.and_true]; rw [beq_iff_eq] at h4 ⊢; omega)
      clear hq
      have b1 := (cells_of H3.out.blk).1 1 _ rfl
      have bf := (cells_of H3.out.blk).2
      have hnx := H3.out.next hi
      have HNX := Lib.hid hnx; clear hnx
      go_wp2_with fail
      go_ret
      rw [HN.out, eyeI_t HN.out]
      exact ⟨rfl, HF3.out.non.trans HNX.out.2, HNX.out.1⟩

set_option maxRecDepth 100000 in
set_option maxHeartbeats 4000000 in
theorem need_any (ok : Nat → Prop) (ts : List Tk) (A : Option Addr) (c be : Nat) (w : World) (i : Nat) (s : ByteArray) (h : EyeAt ok ts A c be w i) (hi : i < ts.length) (hs : tkK ts 4 s i = true) :
   Calls Tryz.prog 79 #[.pointer (some ⟨be, 0, none⟩), .string s] w fun e w' => e = .returned (.tuple #[]) ∧ Fr (fun k => k = be) w w' ∧ EyeAt ok ts A c be w' (i + 1) := by
  have H := Lib.hid h; clear h
  go_enter Tryz.func79, Tryz.ntmps79
  go_wp2_with fail
  refine (esign_any ok ts A c be w i s H.out hi).mono ?_
  rintro e w2 ⟨rfl, hf2, h2⟩
  rw [hs]
  rw [eyeI_t hs] at h2
  have HF2 := Lib.hid hf2; clear hf2
  have H2 := Lib.hid h2; clear h2 hs
  go_wp2_with fail
  go_end0
  exact ⟨rfl, HF2.out, H2.out⟩
def nmT (t : Tk) : Bool := t.kind.toNat == 1 && namedM t.text

set_option maxRecDepth 100000 in
set_option maxHeartbeats 4000000 in
theorem ename_any (ok : Nat → Prop) (ts : List Tk) (A : Option Addr) (c be : Nat) (w : World) (i : Nat) (h : EyeAt ok ts A c be w i) (hi : i < ts.length) (hn : nmT ts[i] = true) :
   Calls Tryz.prog 78 #[.pointer (some ⟨be, 0, none⟩)] w fun e w' => e = .returned (.string ts[i].text) ∧ Fr (fun k => k = be) w w' ∧ EyeAt ok ts A c be w' (i + 1) := by
  have hlen := h.len
  have hbe := blk_lt h.blk
  have HE := Lib.hid h; clear h
  go_enter Tryz.func78, Tryz.ntmps78
  go_wp2_with fail
  refine (look_any ok ts A c be w i HE.out hi).mono ?_
  rintro e w2 ⟨rfl, hf2⟩
  unfold Tk.v
  generalize ht : ts[i] = t at *
  have HT := Lib.hid ht; clear ht
  simp only [nmT, Bool.and_eq_true, beq_iff_eq] at hn
  obtain ⟨hk, hnm⟩ := hn
  have h4' : (((t.kind.toNat : Nat) : Int) != 1) = false := by rw [bne_eq_false_iff_eq]; omega
  clear hk
  obtain ⟨W3, HW3⟩ : ∃ W3, W3 = w2.alloc (.cells #[vu8 t.kind, .string t.text, vu64 t.num, .int .i64 t.at_] 108) := ⟨_, rfl⟩
  have hf3 : Fr Non w2 W3 := by rw [HW3]; exact (fr_refl _).alloc _
  have hb3 : W3.heap[w2.heap.size]? = some (.cells #[vu8 t.kind, .string t.text, vu64 t.num, .int .i64 t.at_] 108 (0, 0)) := by rw [HW3]; exact blk_new _ _ _
  have HF3 := Lib.hid (hf2.trans hf3)
  have H3 := Lib.hid (HE.out.stay HF3.out)
  have hbz : be ≠ w2.heap.size := by have := hf2.size; omega
  clear hf2 hf3
  have b3 := (cells_of H3.out.blk).1 3 _ rfl
  have t0 := (cells_of hb3).1 0 _ rfl
  have t1 := (cells_of hb3).1 1 _ rfl
  have HB3 := Lib.hid hb3; clear hb3
  go_upto_region 2 with fail
  rw [← HW3]; clear HW3
  have HNM := Lib.hid hnm; clear hnm
  go_wp2_with fail
  refine (named_any t.text W3).mono ?_
  rintro e w4 ⟨rfl, hf4⟩
  rw [HNM.out]
  have H4 := Lib.hid (H3.out.stay hf4)
  have hb4 := blk_fr HB3.out hf4 (non _)
  have HF4 := Lib.hid (HF3.out.trans hf4); clear hf4 b3 t0 t1
  have b1 := (cells_of H4.out.blk).1 1 _ rfl
  have bf := (cells_of H4.out.blk).2
  have hnx := H4.out.next hi
  have hb5 := blk_fr hb4 hnx.2 (fun e => hbz e.symm)
  have HNX := Lib.hid hnx; clear hnx
  have t1 := (cells_of hb5).1 1 _ rfl
  clear hb4 hb5
  go_wp2_with fail
  go_ret
  exact ⟨(show Ending.returned _ = Ending.returned (.string t.text) from rfl).trans (by rw [HT.out]), HF4.out.non.trans HNX.out.2, HNX.out.1⟩
structure PsAt (ok : Nat → Prop) (ts : List Tk) (A : Option Addr) (c be bp : Nat) (w : World) (i n : Nat) : Prop where
  eye : EyeAt ok ts A c be w i
  blk : w.heap[bp]? = some (.cells #[.pointer (some ⟨be, 0, none⟩), .int .i64 n] 106 (0, 0))
  ne : be ≠ bp
  okp : ∀ q, ok q → q ≠ bp
def PS (be bp : Nat) (k : Nat) : Prop := k = be ∨ k = bp
theorem PsAt.stay {ok : Nat → Prop} {ts : List Tk} {A : Option Addr} {c be bp : Nat} {w w' : World} {i n : Nat} (h : PsAt ok ts A c be bp w i n) (hf : Fr Non w w') : PsAt ok ts A c be bp w' i n :=
  ⟨h.eye.stay hf, blk_fr h.blk hf (non _), h.ne, h.okp⟩
theorem PsAt.away {ok : Nat → Prop} {ts : List Tk} {A : Option Addr} {c be bp : Nat} {w w' : World} {i n : Nat} {S : Nat → Prop} (h : PsAt ok ts A c be bp w i n) (hf : Fr S w w') (h1 : ¬ S be) (h2 : ¬ S bp) (h3 : ∀ q, ok q → ¬ S q) : PsAt ok ts A c be bp w' i n :=
  ⟨h.eye.fr hf h1 h3, blk_fr h.blk hf h2, h.ne, h.okp⟩
theorem PsAt.moved {ok : Nat → Prop} {ts : List Tk} {A : Option Addr} {c be bp : Nat} {w w' : World} {i j n : Nat} (h : PsAt ok ts A c be bp w i n) (hf : Fr (fun k => k = be) w w') (he : EyeAt ok ts A c be w' j) : PsAt ok ts A c be bp w' j n :=
  ⟨he, blk_fr h.blk hf (fun e => h.ne e.symm), h.ne, h.okp⟩
theorem eye_ps {be bp : Nat} {w w' : World} (hf : Fr (fun k => k = be) w w') : Fr (PS be bp) w w' := hf.mono fun _ _ h => .inl h

set_option maxRecDepth 100000 in
set_option maxHeartbeats 4000000 in
theorem pfine_any (ok : Nat → Prop) (ts : List Tk) (A : Option Addr) (c be bp : Nat) (w : World) (i n : Nat) (h : PsAt ok ts A c be bp w i n) :
   Calls Tryz.prog 55 #[.pointer (some ⟨bp, 0, none⟩)] w fun e w' => e = .returned (.bool true) ∧ w = w' := by
  have p0 := (cells_of h.blk).1 0 _ rfl
  have b3 := (cells_of h.eye.blk).1 3 _ rfl
  have H := Lib.hid h; clear h
  go_enter Tryz.func55, Tryz.ntmps55
  go_wp2_with fail
  go_ret
  exact ⟨rfl, rfl⟩

set_option maxRecDepth 100000 in
set_option maxHeartbeats 4000000 in
theorem eword_any (ok : Nat → Prop) (ts : List Tk) (A : Option Addr) (c be bp : Nat) (w : World) (i n : Nat) (s : ByteArray) (h : PsAt ok ts A c be bp w i n) (hi : i < ts.length) :
   Calls Tryz.prog 58 #[.pointer (some ⟨bp, 0, none⟩), .string s] w fun e w' => e = .returned (.bool (tkK ts 2 s i)) ∧ Fr (PS be bp) w w' ∧ PsAt ok ts A c be bp w' (eyeI ts 2 s i) n := by
  have hlen := h.eye.len
  have hbe := blk_lt h.eye.blk
  have p0 := (cells_of h.blk).1 0 _ rfl
  have HE := Lib.hid h; clear h
  have HTK := Lib.hid (show tkK ts 2 s i = (ts[i].kind.toNat == 2 && sq ts[i].text s) by rw [tkK, getD_at hi]; rfl)
  go_enter Tryz.func58, Tryz.ntmps58
  go_wp2_with fail
  refine (look_any ok ts A c be w i HE.out.eye hi).mono ?_
  rintro e w2 ⟨rfl, hf2⟩
  unfold Tk.v
  generalize ts[i] = t at *
  obtain ⟨W3, HW3⟩ : ∃ W3, W3 = w2.alloc (.cells #[vu8 t.kind, .string t.text, vu64 t.num, .int .i64 t.at_] 108) := ⟨_, rfl⟩
  have hf3 : Fr Non w2 W3 := by rw [HW3]; exact (fr_refl _).alloc _
  have hb3 : W3.heap[w2.heap.size]? = some (.cells #[vu8 t.kind, .string t.text, vu64 t.num, .int .i64 t.at_] 108 (0, 0)) := by rw [HW3]; exact blk_new _ _ _
  have HF3 := Lib.hid (hf2.trans hf3)
  have H3 := Lib.hid (HE.out.stay HF3.out); clear hf2 hf3 p0
  have p0 := (cells_of H3.out.blk).1 0 _ rfl
  have t0 := (cells_of hb3).1 0 _ rfl
  have t1 := (cells_of hb3).1 1 _ rfl
  clear hb3
  go_upto_region 2 with fail
  rw [← HW3]; clear HW3
  cases h4 : ((t.kind.toNat : Nat) : Int) == 2 with
  | false =>
    have h4' : (((t.kind.toNat : Nat) : Int) != 2) = true := by rw [bne, h4]; rfl
    have HN := Lib.hid (show tkK ts 2 s i = false by rw [HTK.out, Bool.and_eq_false_iff]; left; rw [beq_eq_false_iff_ne] at h4 ⊢; omega)
    go_wp2_with fail
    refine (pfine_any ok ts A c be bp W3 i n H3.out).mono ?_
    rintro e w4 ⟨rfl, rfl⟩
    go_wp2_with fail
    go_ret
    rw [HN.out, eyeI_f HN.out]
    exact ⟨rfl, HF3.out.non, H3.out⟩
  | true =>
    have h4' : (((t.kind.toNat : Nat) : Int) != 2) = false := by rw [bne, h4]; rfl
    cases hq : sq t.text s with
    | false =>
      have hq' : (t.text.toList == s.toList) = false := by rw [tosq]; exact hq
      have hq2 : (t.text.toList != s.toList) = true := by rw [bne, hq']; rfl
      have HN := Lib.hid (show tkK ts 2 s i = false by rw [HTK.out, hq, Bool.and_false])
      clear hq
      go_wp2_with fail
      refine (pfine_any ok ts A c be bp W3 i n H3.out).mono ?_
      rintro e w4 ⟨rfl, rfl⟩
      go_wp2_with fail
      go_ret
      rw [HN.out, eyeI_f HN.out]
      exact ⟨rfl, HF3.out.non, H3.out⟩
    | true =>
      have hq' : (t.text.toList == s.toList) = true := by rw [tosq]; exact hq
      have hq2 : (t.text.toList != s.toList) = false := by rw [bne, hq']; rfl
      have HN := Lib.hid (show tkK ts 2 s i = true by rw [HTK.out, hq, Bool.and_true]; rw [beq_iff_eq] at h4 ⊢; omega)
      clear hq
      have b1 := (cells_of H3.out.eye.blk).1 1 _ rfl
      have bf := (cells_of H3.out.eye.blk).2
      have hnx := H3.out.eye.next hi
      have HNX := Lib.hid hnx; clear hnx
      go_wp2_with fail
      refine (pfine_any ok ts A c be bp W3 i n H3.out).mono ?_
      rintro e w4 ⟨rfl, rfl⟩
      go_wp2_with fail
      go_ret
      rw [HN.out, eyeI_t HN.out]
      exact ⟨rfl, HF3.out.non.trans (eye_ps HNX.out.2), H3.out.moved HNX.out.2 HNX.out.1⟩
end Go.Proofs.YtfncbemligfloaaGreatDoor
/- Contracts of the reference's parser: numbers and names as expressions. -/
namespace Go.Proofs.YtfncbemligfloaaGreatDoor
open Go.RowKit
set_option linter.unusedVariables false
set_option linter.unusedSimpArgs false
/-- An expression that is a number or a name, up to what stands behind it. -/
def exprP (ts : List Tk) (i : Nat) : Option (Ex × Nat) :=
  if i < ts.length then
    (if (ts.getD i Tk.zero).kind.toNat = 3 then some (.mk 1 (ts.getD i Tk.zero).num ⟨#[]⟩ 0 [], i + 1)
     else if nmT (ts.getD i Tk.zero) = true ∧ i + 1 < ts.length ∧ tkK ts 4 gBox (i + 1) = false then some (.mk 2 0 (ts.getD i Tk.zero).text 0 [], i + 1) else none)
  else none
theorem blk_put5 {w : World} {g : Nat} {a0 a1 a2 a3 a4 : Value} {T : TypeId} (h : w.heap[g]? = some (.cells #[a0, a1, a2, a3, a4] T (0, 0))) (v0 v1 v2 v3 v4 : Value) :
    (((((w.setCell ⟨g, 0, none⟩ v0).setCell ⟨g, 1, none⟩ v1).setCell ⟨g, 2, none⟩ v2).setCell ⟨g, 3, none⟩ v3).setCell ⟨g, 4, none⟩ v4).heap[g]? = some (.cells #[v0, v1, v2, v3, v4] T (0, 0)) := by
  have h0 : (w.setCell ⟨g, 0, none⟩ v0).heap[g]? = some (.cells #[v0, a1, a2, a3, a4] T (0, 0)) := blk_set h 0 v0
  have h1 : ((w.setCell ⟨g, 0, none⟩ v0).setCell ⟨g, 1, none⟩ v1).heap[g]? = some (.cells #[v0, v1, a2, a3, a4] T (0, 0)) := blk_set h0 1 v1
  have h2 : (((w.setCell ⟨g, 0, none⟩ v0).setCell ⟨g, 1, none⟩ v1).setCell ⟨g, 2, none⟩ v2).heap[g]? = some (.cells #[v0, v1, v2, a3, a4] T (0, 0)) := blk_set h1 2 v2
  have h3 : ((((w.setCell ⟨g, 0, none⟩ v0).setCell ⟨g, 1, none⟩ v1).setCell ⟨g, 2, none⟩ v2).setCell ⟨g, 3, none⟩ v3).heap[g]? = some (.cells #[v0, v1, v2, v3, a4] T (0, 0)) := blk_set h2 3 v3
  exact blk_set h3 4 v4
theorem fr_put5 {g : Nat} {w : World} (v0 v1 v2 v3 v4 : Value) : Fr (fun k => k = g) w (((((w.setCell ⟨g, 0, none⟩ v0).setCell ⟨g, 1, none⟩ v1).setCell ⟨g, 2, none⟩ v2).setCell ⟨g, 3, none⟩ v3).setCell ⟨g, 4, none⟩ v4) :=
  (((((Fr.refl (fun k => k = g) w).setCell ⟨g, 0, none⟩ _ (.inl rfl)).setCell ⟨g, 1, none⟩ _ (.inl rfl)).setCell ⟨g, 2, none⟩ _ (.inl rfl)).setCell ⟨g, 3, none⟩ _ (.inl rfl)).setCell ⟨g, 4, none⟩ _ (.inl rfl)

set_option maxRecDepth 100000 in
set_option maxHeartbeats 4000000 in
theorem pexpr_any (ok : Nat → Prop) (ts : List Tk) (A : Option Addr) (c be : Nat) (w : World) (i deep : Nat) (x : Ex) (j : Nat) (h : EyeAt ok ts A c be w i) (hd : deep ≤ 40) (hx : exprP ts i = some (x, j)) (hok : ∀ q, ok q → q < w.heap.size) :
   Calls Tryz.prog 97 #[.pointer (some ⟨be, 0, none⟩), .int .i64 deep] w fun e w' => e = .returned (exV x.kind x.num x.name x.op none 0 0) ∧ x.kids = [] ∧ Fr (fun k => k = be) w w' ∧ EyeAt ok ts A c be w' j := by
  have hlen := h.len
  have hbe := blk_lt h.blk
  obtain ⟨W1, HW1⟩ : ∃ W1, W1 = w.alloc (.cells #[.int .u8 0, .int .u64 0, .string ⟨#[]⟩, .int .u8 0, .slice none 0 0] 46) := ⟨_, rfl⟩
  have hf1 : Fr Non w W1 := by rw [HW1]; exact (fr_refl w).alloc _
  have hb1 : W1.heap[w.heap.size]? = some (.cells #[.int .u8 0, .int .u64 0, .string ⟨#[]⟩, .int .u8 0, .slice none 0 0] 46 (0, 0)) := by rw [HW1]; exact blk_new _ _ _
  have H1 := Lib.hid (h.stay hf1); clear h
  have HF1 := Lib.hid hf1; clear hf1
  have HB1 := Lib.hid hb1; clear hb1
  have HOK := Lib.hid hok; clear hok
  have hi : i < ts.length := by
    by_cases h9 : i < ts.length
    · exact h9
    · rw [exprP, if_neg h9] at hx; cases hx
  rw [exprP, if_pos hi, getD_at hi] at hx
  have b3 := (cells_of H1.out.blk).1 3 _ rfl
  have hdd : decide ((40 : Int) < (deep : Int)) = false := decide_eq_false (by omega)
  have HX := Lib.hid hx; clear hx
  go_enter Tryz.func97, Tryz.ntmps97
  go_upto_region 1 with fail
  rw [← HW1]; clear HW1
  go_wp2_with fail
  refine (look_any ok ts A c be W1 i H1.out hi).mono ?_
  rintro e w2 ⟨rfl, hf2⟩
  unfold Tk.v
  have HTK4 := Lib.hid (fun s => (show tkK ts 4 s i = (ts[i].kind.toNat == 4 && sq ts[i].text s) by rw [tkK, getD_at hi]; rfl))
  generalize ht : ts[i] = t at *
  have HT := Lib.hid ht; clear ht
  obtain ⟨W3, HW3⟩ : ∃ W3, W3 = w2.alloc (.cells #[vu8 t.kind, .string t.text, vu64 t.num, .int .i64 t.at_] 108) := ⟨_, rfl⟩
  have hf3 : Fr Non w2 W3 := by rw [HW3]; exact (fr_refl _).alloc _
  have hb3 : W3.heap[w2.heap.size]? = some (.cells #[vu8 t.kind, .string t.text, vu64 t.num, .int .i64 t.at_] 108 (0, 0)) := by rw [HW3]; exact blk_new _ _ _
  have hz2 : w.heap.size < w2.heap.size := by have := blk_lt (blk_fr HB1.out hf2 (non _)); exact this
  have HF3 := Lib.hid (HF1.out.trans (hf2.trans hf3))
  have H3 := Lib.hid ((H1.out.stay hf2).stay hf3)
  have HX3 := Lib.hid (blk_fr (blk_fr HB1.out hf2 (non _)) hf3 (non _))
  clear hf2 hf3 b3
  have t0 := (cells_of hb3).1 0 _ rfl
  have HB3 := Lib.hid hb3; clear hb3
  go_upto_region 6 with fail
  rw [← HW3]; clear HW3
  cases h3 : ((t.kind.toNat : Nat) : Int) == 3 with
  | true =>
    have hx := HX.out
    rw [if_pos (by rw [beq_iff_eq] at h3; omega)] at hx
    simp only [Option.some.injEq, Prod.mk.injEq] at hx
    obtain ⟨rfl, rfl⟩ := hx
    clear HX
    have b1 := (cells_of H3.out.blk).1 1 _ rfl
    have bf := (cells_of H3.out.blk).2
    have hnx := H3.out.next hi
    have HB4 := Lib.hid (blk_fr HB3.out hnx.2 (by omega))
    have HX4 := Lib.hid (blk_fr HX3.out hnx.2 (by omega))
    have HNX := Lib.hid hnx; clear hnx
    go_upto_region 8 with fail
    generalize W3.setCell ⟨be, 1, none⟩ (.int .i64 ((i : Int) + 1)) = W4 at *
    clear b1 bf t0
    have t2 := (cells_of HB4.out).1 2 _ rfl
    have f0 := (cells_of HX4.out).1 0 _ rfl
    have f1 := (cells_of HX4.out).1 1 _ rfl
    have f2 := (cells_of HX4.out).1 2 _ rfl
    have f3 := (cells_of HX4.out).1 3 _ rfl
    have f4 := (cells_of HX4.out).1 4 _ rfl
    have ff := (cells_of HX4.out).2
    go_wp2_with fail
    have H4 := Lib.hid HNX.out.1
    have HF4 := Lib.hid (HF3.out.non.trans HNX.out.2)
    have HZ := Lib.hid (blk_put5 HX4.out (.int .u8 1) (vu64 t.num) (.string ⟨#[]⟩) (.int .u8 0) (.slice none 0 0))
    have HFZ := Lib.hid (fr_put5 (g := w.heap.size) (w := W4) (.int .u8 1) (vu64 t.num) (.string ⟨#[]⟩) (.int .u8 0) (.slice none 0 0))
    generalize (((((W4.setCell ⟨w.heap.size, 0, none⟩ (.int .u8 1)).setCell ⟨w.heap.size, 1, none⟩ (vu64 t.num)).setCell ⟨w.heap.size, 2, none⟩ (.string ⟨#[]⟩)).setCell ⟨w.heap.size, 3, none⟩ (.int .u8 0)).setCell ⟨w.heap.size, 4, none⟩ (.slice none 0 0)) = wz at *
    clear f0 f1 f2 f3 f4 ff
    have f0 := (cells_of HZ.out).1 0 _ rfl
    have f1 := (cells_of HZ.out).1 1 _ rfl
    have f2 := (cells_of HZ.out).1 2 _ rfl
    have f3 := (cells_of HZ.out).1 3 _ rfl
    have f4 := (cells_of HZ.out).1 4 _ rfl
    refine bodyPost_ret (v := exV 1 t.num ⟨#[]⟩ 0 none 0 0) (by simp [results, Tryz.results97, go_sem, f0, f1, f2, f3, f4, exV]) rfl ⟨rfl, rfl, HF4.out.then HFZ.out (fun k hk e => by have e : k = w.heap.size := e; omega), H4.out.fr HFZ.out (by omega) (fun q hq e => by have e : q = w.heap.size := e; have := HOK.out q hq; omega)⟩
  | false =>
    have hx := HX.out
    rw [if_neg (by rw [beq_eq_false_iff_ne] at h3; omega)] at hx
    split at hx
    case isFalse => cases hx
    case isTrue hc =>
    obtain ⟨hnm, hi1, hbx⟩ := hc
    simp only [Option.some.injEq, Prod.mk.injEq] at hx
    obtain ⟨rfl, rfl⟩ := hx
    clear HX
    have hk1 : (t.kind.toNat == 4) = false := by
      simp only [nmT, Bool.and_eq_true, beq_iff_eq] at hnm
      rw [hnm.1]; rfl
    have HS := Lib.hid (show ∀ s, tkK ts 4 s i = false from fun s => by rw [HTK4.out s, hk1]; rfl)
    have HNM := Lib.hid hnm
    have HBX := Lib.hid hbx
    clear hk1 hnm hbx
    go_wp2_with fail
    refine (esign_any ok ts A c be W3 i ⟨#[35]⟩ H3.out hi).mono ?_
    rintro e w5 ⟨rfl, hf5, h5⟩
    rw [HS.out]
    rw [eyeI_f (HS.out _)] at h5
    have H5 := Lib.hid h5; clear h5
    have HX5 := Lib.hid (blk_fr HX3.out hf5 (by omega))
    have HF5 := Lib.hid (HF3.out.non.trans hf5); clear hf5 t0
    go_wp2_with fail
    refine (esign_any ok ts A c be w5 i ⟨#[40]⟩ H5.out hi).mono ?_
    rintro e w6 ⟨rfl, hf6, h6⟩
    rw [HS.out]
    rw [eyeI_f (HS.out _)] at h6
    have H6 := Lib.hid h6; clear h6
    have HX6 := Lib.hid (blk_fr HX5.out hf6 (by omega))
    have HF6 := Lib.hid (HF5.out.trans hf6); clear hf6
    go_wp2_with fail
    refine (ename_any ok ts A c be w6 i H6.out hi (by rw [HT.out]; exact HNM.out)).mono ?_
    rintro e w7 ⟨rfl, hf7, h7⟩
    rw [HT.out]
    have H7 := Lib.hid h7; clear h7
    have HX7 := Lib.hid (blk_fr HX6.out hf7 (by omega))
    have HF7 := Lib.hid (HF6.out.trans hf7); clear hf7
    go_wp2_with fail
    refine (esign_any ok ts A c be w7 (i + 1) ⟨#[91]⟩ H7.out hi1).mono ?_
    rintro e w8 ⟨rfl, hf8, h8⟩
    rw [show tkK ts 4 ⟨#[91]⟩ (i + 1) = false from HBX.out]
    rw [eyeI_f (show tkK ts 4 ⟨#[91]⟩ (i + 1) = false from HBX.out)] at h8
    have H8 := Lib.hid h8; clear h8
    have HX8 := Lib.hid (blk_fr HX7.out hf8 (by omega))
    have HF8 := Lib.hid (HF7.out.trans hf8); clear hf8
    have f0 := (cells_of HX8.out).1 0 _ rfl
    have f1 := (cells_of HX8.out).1 1 _ rfl
    have f2 := (cells_of HX8.out).1 2 _ rfl
    have f3 := (cells_of HX8.out).1 3 _ rfl
    have f4 := (cells_of HX8.out).1 4 _ rfl
    have ff := (cells_of HX8.out).2
    go_wp2_with fail
    have HZ := Lib.hid (blk_put5 HX8.out (.int .u8 2) (.int .u64 0) (.string t.text) (.int .u8 0) (.slice none 0 0))
    have HFZ := Lib.hid (fr_put5 (g := w.heap.size) (w := w8) (.int .u8 2) (.int .u64 0) (.string t.text) (.int .u8 0) (.slice none 0 0))
    generalize (((((w8.setCell ⟨w.heap.size, 0, none⟩ (.int .u8 2)).setCell ⟨w.heap.size, 1, none⟩ (.int .u64 0)).setCell ⟨w.heap.size, 2, none⟩ (.string t.text)).setCell ⟨w.heap.size, 3, none⟩ (.int .u8 0)).setCell ⟨w.heap.size, 4, none⟩ (.slice none 0 0)) = wz at *
    clear f0 f1 f2 f3 f4 ff
    have f0 := (cells_of HZ.out).1 0 _ rfl
    have f1 := (cells_of HZ.out).1 1 _ rfl
    have f2 := (cells_of HZ.out).1 2 _ rfl
    have f3 := (cells_of HZ.out).1 3 _ rfl
    have f4 := (cells_of HZ.out).1 4 _ rfl
    refine bodyPost_ret (v := exV 2 0 t.text 0 none 0 0) (by simp [results, Tryz.results97, go_sem, f0, f1, f2, f3, f4, exV]) rfl ⟨rfl, rfl, HF8.out.then HFZ.out (fun k hk e => by have e : k = w.heap.size := e; omega), H8.out.fr HFZ.out (by omega) (fun q hq e => by have e : q = w.heap.size := e; have := HOK.out q hq; omega)⟩
end Go.Proofs.YtfncbemligfloaaGreatDoor
/- Contracts of the reference's parser: one expression as a row; a number that is set. -/
namespace Go.Proofs.YtfncbemligfloaaGreatDoor
open Go.RowKit
set_option linter.unusedVariables false
set_option linter.unusedSimpArgs false
theorem exprP_kids {ts : List Tk} {i j : Nat} {x : Ex} (h : exprP ts i = some (x, j)) : x.kids = [] := by
  rw [exprP] at h
  split at h
  · split at h
    · cases h; rfl
    · split at h
      · cases h; rfl
      · cases h
  · cases h
theorem rd_ex1 {ok : Nat → Prop} {w : World} {g : Nat} {x : Ex} (h : w.heap[g]? = some (.cells #[vu8 x.kind, vu64 x.num, .string x.name, vu8 x.op, .slice none 0 0] 46 (0, 0))) (hk : x.kids = []) (hg : ok g) : RdRows ok w 5 (some ⟨g, 0, none⟩) 0 (Ex.ds [x]) := by
  obtain ⟨k, n, nm, o, l⟩ := x
  have hk : l = [] := hk
  subst hk
  have hc := (cells_of h).1
  exact ⟨⟨g, 0, rfl, hg, rfl, ⟨_, hc 0 _ rfl, rfl⟩, ⟨_, hc 1 _ rfl, rfl⟩, ⟨_, hc 2 _ rfl, rfl⟩, ⟨_, hc 3 _ rfl, rfl⟩, ⟨_, hc 4 _ rfl, none, 0, rfl, Nat.le_refl _, by decide, trivial⟩, trivial⟩, trivial⟩

set_option maxRecDepth 100000 in
set_option maxHeartbeats 4000000 in
theorem eexprs_any (ok : Nat → Prop) (ts : List Tk) (A : Option Addr) (c be bp : Nat) (w : World) (i n : Nat) (x : Ex) (j : Nat) (h : PsAt ok ts A c be bp w i n) (hx : exprP ts i = some (x, j)) (hok : ∀ q, ok q → q < w.heap.size) :
   Calls Tryz.prog 83 #[.pointer (some ⟨bp, 0, none⟩)] w fun e w' => ∃ g, e = .returned (.slice (some ⟨g, 0, none⟩) 1 1) ∧ Fr (PS be bp) w w' ∧ PsAt ok ts A c be bp w' j n ∧ RdRows (New w.heap.size w') w' 5 (some ⟨g, 0, none⟩) 0 (Ex.ds [x]) := by
  have p0 := (cells_of h.blk).1 0 _ rfl
  have H := Lib.hid h; clear h
  have HK := Lib.hid (exprP_kids hx)
  go_enter Tryz.func83, Tryz.ntmps83
  go_wp2_with fail
  refine (pexpr_any ok ts A c be w i 1 x j H.out.eye (by omega) hx hok).mono ?_
  rintro e w2 ⟨rfl, _, hf2, h2⟩
  have HF2 := Lib.hid hf2
  have H2 := Lib.hid (H.out.moved hf2 h2); clear hf2 h2 p0
  go_wp2_with fail
  go_ret
  have hz := HF2.out.size
  refine ⟨w2.heap.size, rfl, (eye_ps HF2.out).trans ((fr_refl w2).alloc _).non, H2.out.stay ((fr_refl w2).alloc _), rd_ex1 (blk_new _ _ _) HK.out ⟨by omega, by simp⟩⟩
theorem cap_one (w : World) (T : TypeId) : 1 ≤ (Question.appendCap 1 0 T).cut (w.tape w.drawn (Question.appendCap 1 0 T)) := by
  show 1 ≤ 1 + _ % _
  omega
theorem rd_ex1' {ok : Nat → Prop} {w : World} {g : Nat} {x : Ex} {Z : Array Value} (h : w.heap[g]? = some (.cells (#[vu8 x.kind, vu64 x.num, .string x.name, vu8 x.op, .slice none 0 0] ++ Z) 46 (0, 0))) (hk : x.kids = []) (hg : ok g) : RdRows ok w 5 (some ⟨g, 0, none⟩) 0 (Ex.ds [x]) := by
  obtain ⟨k, n, nm, o, l⟩ := x
  have hk : l = [] := hk
  subst hk
  have hc := (cells_of h).1
  have hq : ∀ i v, i < 5 → (#[vu8 k, vu64 n, .string nm, vu8 o, .slice none 0 0] : Array Value)[i]? = some v → w.cell? ⟨g, i, none⟩ = some v := fun i v hi hv => hc i v (by rw [Array.getElem?_append_left (by simpa using hi)]; exact hv)
  exact ⟨⟨g, 0, rfl, hg, rfl, ⟨_, hq 0 _ (by omega) rfl, rfl⟩, ⟨_, hq 1 _ (by omega) rfl, rfl⟩, ⟨_, hq 2 _ (by omega) rfl, rfl⟩, ⟨_, hq 3 _ (by omega) rfl, rfl⟩, ⟨_, hq 4 _ (by omega) rfl, none, 0, rfl, Nat.le_refl _, by decide, trivial⟩, trivial⟩, trivial⟩
theorem ps_new {base : Nat} {be bp : Nat} {w w' w0 : World} (h : Fr (PS be bp) w0 w) (hf : Fr (fun k => k = base) w w') (hb : w0.heap.size ≤ base) : Fr (PS be bp) w0 w' := h.then hf fun k hk e => by have e : k = base := e; omega
def bareP (ts : List Tk) (i : Nat) : Option (St × Nat) :=
  if i < ts.length ∧ nmT (ts.getD i Tk.zero) = true ∧ i + 1 < ts.length ∧ tkK ts 4 gBox (i + 1) = false ∧ tkK ts 4 gEq (i + 1) = true then
    (exprP ts (i + 2)).bind fun r => if r.2 < ts.length ∧ tkK ts 4 gSem r.2 = true then some (.mk 2 (ts.getD i Tk.zero).text ⟨#[]⟩ false false [r.1] [] [] [], r.2 + 1) else none
  else none

set_option maxRecDepth 100000 in
set_option maxHeartbeats 4000000 in
theorem pbare_any (ok : Nat → Prop) (ts : List Tk) (A : Option Addr) (c be bp : Nat) (w : World) (i n : Nat) (x : St) (j : Nat) (h : PsAt ok ts A c be bp w i n) (hx : bareP ts i = some (x, j)) (hok : ∀ q, ok q → q < w.heap.size) :
   Calls Tryz.prog 106 #[.pointer (some ⟨bp, 0, none⟩)] w fun e w' => ∃ A1 A2 A3 A4 c1 c2 c3 c4, e = .returned (stV x A1 A2 A3 A4 c1 c2 c3 c4) ∧ Fr (PS be bp) w w' ∧ PsAt ok ts A c be bp w' j n ∧ StRd (New w.heap.size w') w' x A1 A2 A3 A4 c1 c2 c3 c4 := by
  rw [bareP] at hx
  split at hx
  case isFalse => cases hx
  case isTrue hc =>
  obtain ⟨hi, hnm, hi1, hbox, heq⟩ := hc
  cases he : exprP ts (i + 2) with
  | none => rw [he] at hx; cases hx
  | some r =>
    obtain ⟨y, k⟩ := r
    rw [he, Option.bind_some] at hx
    split at hx
    case isFalse => cases hx
    case isTrue hc2 =>
    obtain ⟨hk, hsem⟩ := hc2
    simp only [Option.some.injEq, Prod.mk.injEq] at hx
    obtain ⟨rfl, rfl⟩ := hx
    simp only at hk hsem
    rw [getD_at hi] at hnm ⊢
    obtain ⟨W1, HW1⟩ : ∃ W1, W1 = w.alloc (.cells #[.int .u8 0, .string ⟨#[]⟩, .string ⟨#[]⟩, .bool false, .bool false, .slice none 0 0, .slice none 0 0, .slice none 0 0, .slice none 0 0] 54) := ⟨_, rfl⟩
    have hf1 : Fr Non w W1 := by rw [HW1]; exact (fr_refl w).alloc _
    have hb1 : W1.heap[w.heap.size]? = some (.cells #[.int .u8 0, .string ⟨#[]⟩, .string ⟨#[]⟩, .bool false, .bool false, .slice none 0 0, .slice none 0 0, .slice none 0 0, .slice none 0 0] 54 (0, 0)) := by rw [HW1]; exact blk_new _ _ _
    have hbe := blk_lt h.eye.blk
    have hbp := blk_lt h.blk
    have H1 := Lib.hid (h.stay hf1); clear h
    have HF1 := Lib.hid hf1; clear hf1
    have HB1 := Lib.hid hb1; clear hb1
    have HE := Lib.hid he; clear he
    have HEQ := Lib.hid heq; clear heq
    have HBOX := Lib.hid hbox; clear hbox
    have HSEM := Lib.hid hsem; clear hsem
    have HNM := Lib.hid hnm; clear hnm
    have HOK := Lib.hid hok; clear hok
    have p0 := (cells_of H1.out.blk).1 0 _ rfl
    go_enter Tryz.func106, Tryz.ntmps106
    go_upto_region 1 with fail
    rw [← HW1]; clear HW1
    go_wp2_with fail
    refine (ename_any ok ts A c be W1 i H1.out.eye hi HNM.out).mono ?_
    rintro e w2 ⟨rfl, hf2, h2⟩
    generalize hnq : ts[i].text = nm at *
    have HNQ := Lib.hid hnq; clear hnq
    have hb2 := blk_fr HB1.out hf2 (by omega)
    have H2 := Lib.hid (H1.out.moved hf2 h2)
    have HF2 := Lib.hid (HF1.out.non.trans (eye_ps (bp := bp) hf2)); clear hf2 h2 p0
    have p0 := (cells_of H2.out.blk).1 0 _ rfl
    have HB2 := Lib.hid hb2; clear hb2
    obtain ⟨W3, HW3⟩ : ∃ W3, W3 = w2.alloc (.cells #[.int .u8 2, .string nm, .string ⟨#[]⟩, .bool false, .bool false, .slice none 0 0, .slice none 0 0, .slice none 0 0, .slice none 0 0] 54) := ⟨_, rfl⟩
    have hf3 : Fr Non w2 W3 := by rw [HW3]; exact (fr_refl _).alloc _
    have hb3 : W3.heap[w2.heap.size]? = some (.cells #[.int .u8 2, .string nm, .string ⟨#[]⟩, .bool false, .bool false, .slice none 0 0, .slice none 0 0, .slice none 0 0, .slice none 0 0] 54 (0, 0)) := by rw [HW3]; exact blk_new _ _ _
    have hlt2 := blk_lt HB2.out
    have H3 := Lib.hid (H2.out.stay hf3)
    have HB3 := Lib.hid hb3; clear hb3
    have HR3 := Lib.hid (blk_fr HB2.out hf3 (non _))
    have HF3 := Lib.hid (HF2.out.trans hf3.non); clear hf3
    go_upto_region 2 with fail
    rw [← HW3]; clear HW3 p0
    have p0 := (cells_of H3.out.blk).1 0 _ rfl
    have hlt3 := blk_lt HB3.out
    have hz2 : w.heap.size < w2.heap.size := hlt2
    go_wp2_with fail
    refine (esign_any ok ts A c be W3 (i + 1) ⟨#[91]⟩ H3.out.eye hi1).mono ?_
    rintro e w4 ⟨rfl, hf4, h4⟩
    rw [show tkK ts 4 ⟨#[91]⟩ (i + 1) = false from HBOX.out]
    rw [eyeI_f (show tkK ts 4 ⟨#[91]⟩ (i + 1) = false from HBOX.out)] at h4
    have H4 := Lib.hid (H3.out.moved hf4 h4)
    have HB4 := Lib.hid (blk_fr HB3.out hf4 (by omega))
    have HR4 := Lib.hid (blk_fr HR3.out hf4 (by omega))
    have HF4 := Lib.hid (HF3.out.trans (eye_ps (bp := bp) hf4)); clear hf4 h4 p0
    have p0 := (cells_of H4.out.blk).1 0 _ rfl
    go_wp2_with fail
    refine (need_any ok ts A c be w4 (i + 1) ⟨#[61]⟩ H4.out.eye hi1 HEQ.out).mono ?_
    rintro e w5 ⟨rfl, hf5, h5⟩
    have H5 := Lib.hid (H4.out.moved hf5 h5)
    have HB5 := Lib.hid (blk_fr HB4.out hf5 (by omega))
    have HR5 := Lib.hid (blk_fr HR4.out hf5 (by omega))
    have HF5 := Lib.hid (HF4.out.trans (eye_ps (bp := bp) hf5)); clear hf5 h5 p0
    have p0 := (cells_of H5.out.blk).1 0 _ rfl
    have s5 := (cells_of HB5.out).1 5 _ rfl
    have sf := (cells_of HB5.out).2
    have hz5 : w2.heap.size < w5.heap.size := blk_lt HB5.out
    have HCE := Lib.hid (pexpr_any ok ts A c be w5.drew (i + 1 + 1) 1 y k (H5.out.stay (fr_refl w5).drew).eye (by omega) HE.out (fun q hq => by have := HOK.out q hq; show q < w5.heap.size; omega))
    go_upto_region 7 with fail
    go_region_with (go_at_call 97; refine HCE.out.mono ?_; rintro e w6 ⟨rfl, hkk, hf6, h6⟩; have s5 := hf6.cell' s5 (by show ¬ w2.heap.size = be; omega); have sf := (cells_of (blk_fr (blk_fr HB5.out (fr_refl w5).drew (non _)) hf6 (by omega))).2; have hz6 : w2.heap.size < w6.heap.size := Nat.lt_of_lt_of_le hz5 hf6.size)
    all_goals
      have HFX := Lib.hid (show Fr (fun q => q = w2.heap.size) w6 ((((w6.setCell ⟨w2.heap.size, 5, none⟩ (.slice (some ⟨w6.heap.size + 1, 0, none⟩) 1 ((Question.appendCap 1 0 46).cut (w6.tape w6.drawn (Question.appendCap 1 0 46))))).alloc (.cells #[vu8 y.kind, vu64 y.num, .string y.name, vu8 y.op, .slice none 0 0] 46)).alloc (.cells (#[vu8 y.kind, vu64 y.num, .string y.name, vu8 y.op, .slice none 0 0] ++ Builtin.zeroCells #[.int .u8 0, .int .u64 0, .string ⟨#[]⟩, .int .u8 0, .slice none 0 0] ((Question.appendCap 1 0 46).cut (w6.tape w6.drawn (Question.appendCap 1 0 46)) - 1)) 46)).drew) from ((((Fr.refl (fun q => q = w2.heap.size) w6).setCell ⟨w2.heap.size, 5, none⟩ _ (.inl rfl)).alloc _).alloc _).drew)
      have HXX := Lib.hid (show ((((w6.setCell ⟨w2.heap.size, 5, none⟩ (.slice (some ⟨w6.heap.size + 1, 0, none⟩) 1 ((Question.appendCap 1 0 46).cut (w6.tape w6.drawn (Question.appendCap 1 0 46))))).alloc (.cells #[vu8 y.kind, vu64 y.num, .string y.name, vu8 y.op, .slice none 0 0] 46)).alloc (.cells (#[vu8 y.kind, vu64 y.num, .string y.name, vu8 y.op, .slice none 0 0] ++ Builtin.zeroCells #[.int .u8 0, .int .u64 0, .string ⟨#[]⟩, .int .u8 0, .slice none 0 0] ((Question.appendCap 1 0 46).cut (w6.tape w6.drawn (Question.appendCap 1 0 46)) - 1)) 46)).drew).heap[w6.heap.size + 1]? = some (.cells (#[vu8 y.kind, vu64 y.num, .string y.name, vu8 y.op, .slice none 0 0] ++ Builtin.zeroCells #[.int .u8 0, .int .u64 0, .string ⟨#[]⟩, .int .u8 0, .slice none 0 0] ((Question.appendCap 1 0 46).cut (w6.tape w6.drawn (Question.appendCap 1 0 46)) - 1)) 46 (0, 0)) from blk_new' (by simp) _ _)
      have HB6 := Lib.hid (blk_fr (blk_fr HB5.out (fr_refl w5).drew (non _)) hf6 (by omega))
      have HB8 := Lib.hid (show ((((w6.setCell ⟨w2.heap.size, 5, none⟩ (.slice (some ⟨w6.heap.size + 1, 0, none⟩) 1 ((Question.appendCap 1 0 46).cut (w6.tape w6.drawn (Question.appendCap 1 0 46))))).alloc (.cells #[vu8 y.kind, vu64 y.num, .string y.name, vu8 y.op, .slice none 0 0] 46)).alloc (.cells (#[vu8 y.kind, vu64 y.num, .string y.name, vu8 y.op, .slice none 0 0] ++ Builtin.zeroCells #[.int .u8 0, .int .u64 0, .string ⟨#[]⟩, .int .u8 0, .slice none 0 0] ((Question.appendCap 1 0 46).cut (w6.tape w6.drawn (Question.appendCap 1 0 46)) - 1)) 46)).drew).heap[w2.heap.size]? = some (.cells #[.int .u8 2, .string nm, .string ⟨#[]⟩, .bool false, .bool false, .slice (some ⟨w6.heap.size + 1, 0, none⟩) 1 ((Question.appendCap 1 0 46).cut (w6.tape w6.drawn (Question.appendCap 1 0 46))), .slice none 0 0, .slice none 0 0, .slice none 0 0] 54 (0, 0)) from blk_old (blk_old (blk_set HB6.out 5 _)))
      have hC := cap_one w6 46
      have HR6 := Lib.hid (blk_fr (blk_fr HR5.out (fr_refl w5).drew (non _)) hf6 (by omega))
      have H6 := Lib.hid ((H5.out.stay (fr_refl w5).drew).moved hf6 h6)
      have HF6 := Lib.hid ((HF5.out.trans (fr_refl w5).drew.non).trans (eye_ps (bp := bp) hf6))
      clear s5 sf p0 hf6 h6
      generalize (Question.appendCap 1 0 46).cut (w6.tape w6.drawn (Question.appendCap 1 0 46)) = C at *
      generalize (((w6.setCell ⟨w2.heap.size, 5, none⟩ (.slice (some ⟨w6.heap.size + 1, 0, none⟩) 1 C)).alloc (.cells #[vu8 y.kind, vu64 y.num, .string y.name, vu8 y.op, .slice none 0 0] 46)).alloc (.cells (#[vu8 y.kind, vu64 y.num, .string y.name, vu8 y.op, .slice none 0 0] ++ Builtin.zeroCells #[.int .u8 0, .int .u64 0, .string ⟨#[]⟩, .int .u8 0, .slice none 0 0] (C - 1)) 46)).drew = w8 at *
      have H8 := Lib.hid (H6.out.away HFX.out (by omega) (by omega) (fun q hq e => by have e : q = w2.heap.size := e; have := HOK.out q hq; omega))
      have HR8 := Lib.hid (blk_fr HR6.out HFX.out (by omega))
      have HF8 := Lib.hid (ps_new HF6.out HFX.out (by omega))
      have p0 := (cells_of H8.out.blk).1 0 _ rfl
      have hz68 := HFX.out.size
      have hzx := blk_lt HXX.out
      have hz56 : w.heap.size < w6.heap.size := by omega
      go_wp2_with fail
      refine (need_any ok ts A c be w8 k ⟨#[59]⟩ H8.out.eye hk HSEM.out).mono ?_
      rintro e w9 ⟨rfl, hf9, h9⟩
      have H9 := Lib.hid (H8.out.moved hf9 h9)
      have HB9 := Lib.hid (blk_fr HB8.out hf9 (by omega))
      have HR9 := Lib.hid (blk_fr HR8.out hf9 (by omega))
      have HX9 := Lib.hid (blk_fr HXX.out hf9 (by omega))
      have HF9 := Lib.hid (HF8.out.trans (eye_ps (bp := bp) hf9)); clear hf9 h9 p0
      have l0 := (cells_of HB9.out).1 0 _ rfl; have l1 := (cells_of HB9.out).1 1 _ rfl; have l2 := (cells_of HB9.out).1 2 _ rfl; have l3 := (cells_of HB9.out).1 3 _ rfl; have l4 := (cells_of HB9.out).1 4 _ rfl; have l5 := (cells_of HB9.out).1 5 _ rfl; have l6 := (cells_of HB9.out).1 6 _ rfl; have l7 := (cells_of HB9.out).1 7 _ rfl; have l8 := (cells_of HB9.out).1 8 _ rfl; have r0 := (cells_of HR9.out).1 0 _ rfl; have r1 := (cells_of HR9.out).1 1 _ rfl; have r2 := (cells_of HR9.out).1 2 _ rfl; have r3 := (cells_of HR9.out).1 3 _ rfl; have r4 := (cells_of HR9.out).1 4 _ rfl; have r5 := (cells_of HR9.out).1 5 _ rfl; have r6 := (cells_of HR9.out).1 6 _ rfl; have r7 := (cells_of HR9.out).1 7 _ rfl; have r8 := (cells_of HR9.out).1 8 _ rfl; have rf := (cells_of HR9.out).2
      go_wp2_with fail
      clear l0 l1 l2 l3 l4 l5 l6 l7 l8 r0 r1 r2 r3 r4 r5 r6 r7 r8 rf
      have HZ := Lib.hid (blk_put9 HR9.out (.int .u8 2) (.string nm) (.string ⟨#[]⟩) (.bool false) (.bool false) (.slice (some ⟨w6.heap.size + 1, 0, none⟩) 1 C) (.slice none 0 0) (.slice none 0 0) (.slice none 0 0))
      have HFZ := Lib.hid (fr_put9 (g := w.heap.size) (w := w9) (S := fun q => q = w.heap.size) rfl (.int .u8 2) (.string nm) (.string ⟨#[]⟩) (.bool false) (.bool false) (.slice (some ⟨w6.heap.size + 1, 0, none⟩) 1 C) (.slice none 0 0) (.slice none 0 0) (.slice none 0 0))
      generalize (((((((((w9.setCell ⟨w.heap.size, 0, none⟩ (.int .u8 2)).setCell ⟨w.heap.size, 1, none⟩ (.string nm)).setCell ⟨w.heap.size, 2, none⟩ (.string ⟨#[]⟩)).setCell ⟨w.heap.size, 3, none⟩ (.bool false)).setCell ⟨w.heap.size, 4, none⟩ (.bool false)).setCell ⟨w.heap.size, 5, none⟩ (.slice (some ⟨w6.heap.size + 1, 0, none⟩) 1 C)).setCell ⟨w.heap.size, 6, none⟩ (.slice none 0 0)).setCell ⟨w.heap.size, 7, none⟩ (.slice none 0 0)).setCell ⟨w.heap.size, 8, none⟩ (.slice none 0 0)) = wz at *
      have f0 := (cells_of HZ.out).1 0 _ rfl; have f1 := (cells_of HZ.out).1 1 _ rfl; have f2 := (cells_of HZ.out).1 2 _ rfl; have f3 := (cells_of HZ.out).1 3 _ rfl; have f4 := (cells_of HZ.out).1 4 _ rfl; have f5 := (cells_of HZ.out).1 5 _ rfl; have f6 := (cells_of HZ.out).1 6 _ rfl; have f7 := (cells_of HZ.out).1 7 _ rfl; have f8 := (cells_of HZ.out).1 8 _ rfl; have hxz := blk_fr HX9.out HFZ.out (by omega)
      have hlz := blk_lt hxz
      rw [HNQ.out]
      refine bodyPost_ret (v := stV (.mk 2 nm ⟨#[]⟩ false false [y] [] [] []) (some ⟨w6.heap.size + 1, 0, none⟩) none none none C 0 0 0) (by simp [results, Tryz.results106, go_sem, f0, f1, f2, f3, f4, f5, f6, f7, f8, stV, St.kind, St.name, St.frm, St.sec, St.mt, St.ex, St.args, St.body, St.els]) rfl ⟨_, _, _, _, _, _, _, _, rfl, ps_new HF9.out HFZ.out (Nat.le_refl _), H9.out.away HFZ.out (by omega) (by omega) (fun q hq e => by have e : q = w.heap.size := e; have := HOK.out q hq; omega), ?_⟩
      exact ⟨⟨hC, (by decide : 1 * 64 ≤ reach), rd_ex1' hxz hkk ⟨by omega, hlz⟩⟩, ⟨Nat.zero_le _, (by decide : 0 * 16 ≤ reach), trivial⟩, ⟨Nat.zero_le _, (by decide : 0 * 144 ≤ reach), trivial⟩, ⟨Nat.zero_le _, (by decide : 0 * 144 ≤ reach), trivial⟩⟩
end Go.Proofs.YtfncbemligfloaaGreatDoor
