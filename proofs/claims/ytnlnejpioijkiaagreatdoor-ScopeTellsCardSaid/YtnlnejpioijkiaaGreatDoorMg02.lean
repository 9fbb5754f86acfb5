/- Contracts and laws, file 2: RefD, RefF, RefH, RefI, RefJ, RefW, RefX -/
import Derived.Test.YtnlnejpioijkiaaGreatDoorMg01
import Derived.Deep.DeepCutAuto
/- Contracts of the reference's copies of statements and programs. -/
namespace Go.Proofs.YtnlnejpioijkiaaGreatDoor
open Go.RowKit
set_option linter.unusedVariables false
set_option linter.unusedSimpArgs false

mutual
def St.size : St → Nat
  | .mk _ _ _ _ _ _ _ body els => 1 + St.sizes body + St.sizes els
def St.sizes : List St → Nat
  | [] => 0
  | s :: l => s.size + St.sizes l
end
theorem St.size_eq (s : St) : s.size = 1 + St.sizes s.body + St.sizes s.els := by cases s; rfl
theorem ssize_le : ∀ (l : List St) (k : Nat) (h : k < l.length), l[k].size ≤ St.sizes l
  | e :: l, 0, _ => by simp [St.sizes]
  | e :: l, k + 1, h => by have := ssize_le l k (by simpa using h); simp [St.sizes]; omega

set_option maxHeartbeats 2000000 in
theorem copySts_any (N : Nat) : ∀ (l : List St) (ok : Nat → Prop) (A : Option Addr) (c : Nat) (w : World), St.sizes l ≤ N → (∀ k, ok k → k < w.heap.size) → RdRows ok w 9 A 0 (St.ds l) → l.length ≤ c → l.length * 144 ≤ reach →
   Calls Tryz.prog 16 #[.slice A l.length c] w fun r w' => ∃ A' c', r = .returned (.slice A' l.length c') ∧ Fr Non w w' ∧ l.length ≤ c' ∧ RdRows (New w.heap.size w') w' 9 A' 0 (St.ds l) := by
  induction N with
  | zero =>
    intro l ok A c w hN hok hr hlc hc
    obtain rfl : l = [] := by cases l with | nil => rfl | cons s l => cases s; simp [St.sizes, St.size] at hN
    go_enter Tryz.func16, Tryz.ntmps16
    go_wp2_with fail
    refine wp_loop_rounds 1 ?_
    rw [rounds_succ]
    go_wp2_with fail
    go_ret
    exact ⟨none, 0, rfl, fr_refl _, Nat.le_refl _, trivial⟩
  | succ N ih =>
  intro l ok A c w hN hok hr hlc hc
  have hlen : l.length ≤ 140737488355328 := by unfold reach at hc; omega
  have HR := Lib.hid hr; clear hr
  have HK := Lib.hid hok; clear hok
  have IH := Lib.hid ih; clear ih
  go_enter Tryz.func16, Tryz.ntmps16
  go_wp2_with fail
  go_loopw [3, 4] (fun v i wr => ∃ j : Nat, i = .int .i64 j ∧ j ≤ l.length ∧ Fr Non w wr ∧ Own w.heap.size 53 9 wr v (St.ds (l.take j))) (fun _ i _ => l.length - (intOf i).toNat)
  case atStart => exact ⟨0, rfl, by omega, fr_refl _, Own.nil _ _ _ _⟩
  case round =>
    obtain ⟨j, rfl, hj, hfr, hown⟩ := hrel
    have hz : w.heap.size ≤ wr.heap.size := hfr.size
    obtain ⟨A0, c0, rfl, hc0⟩ := hown.slice
    have hn : (St.ds (l.take j)).length = j := by simp; omega
    rw [hn] at hc0 hown ⊢
    have HN := Lib.hid hn; clear hn
    by_cases hlt : j < l.length
    · have hokr : ∀ k, ok k → k < wr.heap.size := fun k h => Nat.lt_of_lt_of_le (HK.out k h) hz
      have HKR := Lib.hid hokr; clear hokr
      obtain ⟨b, o1, A1, c1, A2, c2, A3, c3, A4, c4, rfl, hb, e0, e1, e2, e3, e4, e5, e6, e7, e8, ⟨p1, q1, r1⟩, ⟨p2, q2, r2⟩, ⟨p3, q3, r3⟩, ⟨p4, q4, r4⟩⟩ := at_st (HR.out.fr hfr (fun _ _ => non _) (fun _ h => h)) j hlt
      have R1 := Lib.hid r1; clear r1
      have R2 := Lib.hid r2; clear r2
      have R3 := Lib.hid r3; clear r3
      have R4 := Lib.hid r4; clear r4
      have HQ := Lib.hid (ssize_le l j hlt)
      have HO := Lib.hid hown; clear hown
      have HF := Lib.hid hfr; clear hfr
      go_wp2_with fail
      refine (copyExprs_any l[j].ex ok A1 c1 _ (R1.out.fr ((fr_refl wr).alloc _) (fun _ _ => non _) (fun _ h => h)) p1 q1).mono ?_
      rintro e w2 ⟨A1', c1', rfl, hf2, hl1, hr1⟩
      have hb2 := blk_fr (blk_new _ _ _) hf2 (non _)
      have HR1 := Lib.hid hr1; clear hr1
      have HF2 := Lib.hid (box_fr hf2); clear hf2
      have g5 := (cells_of hb2).1 5 _ rfl
      have g6 := (cells_of hb2).1 6 _ rfl
      have gf := (cells_of hb2).2
      have HB2 := Lib.hid hb2; clear hb2
      go_wp2_with (at_builtin; refine appX_str rfl _ _ rfl ok w2.heap.size (.slice none 0 0) [] rfl (OwnX.nil _ _ _ _ _) ?okb A2 c2 (l[j].args.map strD) (by rw [List.length_map]; rfl) ?src (one_strs _) ?b1 ?b2 ?b3 ?k)
      case okb => intro k hk; have := HKR.out k hk; have := HF2.out.size; omega
      case src => exact R2.out.fr (HF2.out.setCell _ _ (.inr (Nat.le_refl _))) (fun _ _ => non _) (fun _ h => h)
      case b1 => have := (room16 q2).1; simp; omega
      case b2 => have := (room16 q2).2; simp; omega
      case b3 => simp
      case k =>
      intro v3 w3 hown3 hf3
      obtain ⟨A2', c2', rfl, hl2⟩ := hown3.slice
      have hn3 : (l[j].args.map strD).length = l[j].args.length := List.length_map _
      rw [hn3] at hown3 hl2 ⊢
      clear hn3
      have hr2 := hown3.rows_strs
      have hf3' : Fr Non (w2.setCell ⟨wr.heap.size, 5, none⟩ (.slice A1' l[j].ex.length c1')) w3 := hf3.mono fun k _ h => by cases h.2
      have hb3 := blk_fr (blk_set HB2.out 5 (.slice A1' l[j].ex.length c1')) hf3' (non _)
      have HR2 := Lib.hid hr2; clear hr2 hown3 hf3
      have HF3 := Lib.hid ((HF2.out.setCell ⟨wr.heap.size, 5, none⟩ (.slice A1' l[j].ex.length c1') (.inr (Nat.le_refl _))).trans hf3')
      have GF3 := Lib.hid hf3'; clear hf3'
      clear g5 g6 gf
      have g6 := (cells_of hb3).1 6 _ rfl
      have g7 := (cells_of hb3).1 7 _ rfl
      have gf := (cells_of hb3).2
      have HB3 := Lib.hid hb3; clear hb3
      go_wp2_with fail
      refine (IH.out l[j].body ok A3 c3 _ (by have := HQ.out; rw [St.size_eq] at this; omega) (fun k hk => by have := HKR.out k hk; have := HF3.out.size; simp; omega) (R3.out.fr (HF3.out.setCell _ _ (.inr (Nat.le_refl _))) (fun _ _ => non _) (fun _ h => h)) p3 q3).mono ?_
      rintro e w5 ⟨A3', c3', rfl, hf5, hl3, hr3⟩
      have hb5 := blk_fr (blk_set HB3.out 6 (.slice A2' l[j].args.length c2')) hf5 (non _)
      have HR3 := Lib.hid hr3; clear hr3
      have HF5 := Lib.hid ((HF3.out.setCell ⟨wr.heap.size, 6, none⟩ (.slice A2' l[j].args.length c2') (.inr (Nat.le_refl _))).trans hf5)
      have GF5 := Lib.hid hf5; clear hf5
      clear g6 g7 gf
      have g7 := (cells_of hb5).1 7 _ rfl
      have g8 := (cells_of hb5).1 8 _ rfl
      have gf := (cells_of hb5).2
      have HB5 := Lib.hid hb5; clear hb5
      go_wp2_with fail
      refine (IH.out l[j].els ok A4 c4 _ (by have := HQ.out; rw [St.size_eq] at this; omega) (fun k hk => by have := HKR.out k hk; have := HF5.out.size; simp; omega) (R4.out.fr (HF5.out.setCell _ _ (.inr (Nat.le_refl _))) (fun _ _ => non _) (fun _ h => h)) p4 q4).mono ?_
      rintro e w7 ⟨A4', c4', rfl, hf7, hl4, hr4⟩
      have hb7 := blk_fr (blk_set HB5.out 7 (.slice A3' l[j].body.length c3')) hf7 (non _)
      have HR4 := Lib.hid hr4; clear hr4
      have HF7 := Lib.hid ((HF5.out.setCell ⟨wr.heap.size, 7, none⟩ (.slice A3' l[j].body.length c3') (.inr (Nat.le_refl _))).trans hf7)
      have GF7 := Lib.hid hf7; clear hf7
      clear g7 g8 gf
      have g0 := (cells_of hb7).1 0 _ rfl
      have g1 := (cells_of hb7).1 1 _ rfl
      have g2 := (cells_of hb7).1 2 _ rfl
      have g3 := (cells_of hb7).1 3 _ rfl
      have g4 := (cells_of hb7).1 4 _ rfl
      have g5 := (cells_of hb7).1 5 _ rfl
      have g6 := (cells_of hb7).1 6 _ rfl
      have g7 := (cells_of hb7).1 7 _ rfl
      have g8 := (cells_of hb7).1 8 _ rfl
      have gf := (cells_of hb7).2
      have HB7 := Lib.hid hb7; clear hb7
      have S7 := Lib.hid (show Fr (fun k => k = wr.heap.size) w7 (w7.setCell ⟨wr.heap.size, 8, none⟩ (.slice A4' l[j].els.length c4')) from (Fr.refl _ _).setCell _ _ (.inl rfl))
      have S5 := Lib.hid ((((Fr.refl (fun k => k = wr.heap.size) w5).setCell ⟨wr.heap.size, 7, none⟩ (.slice A3' l[j].body.length c3') (.inl rfl)).trans GF7.out.non).trans S7.out)
      have S3 := Lib.hid ((((Fr.refl (fun k => k = wr.heap.size) w3).setCell ⟨wr.heap.size, 6, none⟩ (.slice A2' l[j].args.length c2') (.inl rfl)).trans GF5.out.non).trans S5.out)
      have S2 := Lib.hid ((((Fr.refl (fun k => k = wr.heap.size) w2).setCell ⟨wr.heap.size, 5, none⟩ (.slice A1' l[j].ex.length c1') (.inl rfl)).trans GF3.out.non).trans S3.out)
      go_wp2_with (at_builtin; refine app_st rfl _ _ rfl w.heap.size (.slice A0 j c0) (St.ds (l.take j)) rfl ?o ⟨w7.heap.size, 0, none⟩ 1 1 rfl [l[j].d] [vu8 l[j].kind, .string l[j].name, .string l[j].frm, .bool l[j].sec, .bool l[j].mt, .slice A1' l[j].ex.length c1', .slice A2' l[j].args.length c2', .slice A3' l[j].body.length c3', .slice A4' l[j].els.length c4'] ?ch rfl ?nc (one_st _ _ _ _ _ _ _ _ _ _ _ _ _ _ _ _ _) ?b1 ?b2 ?b3 ?k)
      case nc => exact new_cells' (by simp)
      case o => exact HO.out.fr ((HF7.out.setCell _ _ (.inr (Nat.le_refl _))).alloc _) (fun _ _ => non _)
      case ch => 
        have hv := HO.out.lt
        have sz3 := HF3.out.size
        have sz2 := HF2.out.size
        have sz5 := HF5.out.size
        have sz7 := HF7.out.size
        have lt2 := blk_lt HB2.out
        have lt3 := blk_lt HB3.out
        have lt5 := blk_lt HB5.out
        have lt7 := blk_lt HB7.out
        have z2 := S2.out.size
        have z3 := S3.out.size
        have z5 := S5.out.size
        rw [setCell_size] at z2 z3 z5
        refine chunk_st l[j] hl1 q1 (HR1.out.fr (S2.out.alloc _) ?_ ?_) hl2 q2 (HR2.out.fr (S3.out.alloc _) ?_ ?_) hl3 q3 (HR3.out.fr (S5.out.alloc _) ?_ ?_) hl4 q4 (HR4.out.fr (S7.out.alloc _) ?_ ?_)
        all_goals (intro k hk; have h1 := hk.1; have h2 := hk.2; try simp at h1; try simp at h2)
        all_goals first
          | (intro h; have h : k = wr.heap.size := h; omega)
          | (refine ⟨by omega, by simp; omega, fun e => ?_⟩; have := (hv k e).2; omega)
      case b1 => rw [HN.out]; exact (room144 (by omega)).1
      case b2 => rw [HN.out]; exact (room144 (by omega)).2
      case b3 => have := HF7.out.size; simp; omega
      case k =>
        intro v' w' hown' hfr'
        have HO' := Lib.hid hown'; clear hown'
        have HF' := Lib.hid hfr'; clear hfr'
        go_wp2_with fail
        go_roundw
        case rel => exact ⟨j + 1, by go_num, by omega, ((HF.out.trans ((HF7.out.setCell _ _ (.inr (Nat.le_refl _))))).alloc _).then HF'.out (fun k hk ht => by have := ht.1; omega), by rw [take_snoc _ _ hlt, St.ds_eq, List.map_append, ← St.ds_eq]; exact HO'.out⟩
        case measure => simp [intOf]; omega
    · have HO := Lib.hid hown; clear hown
      have HF := Lib.hid hfr; clear hfr
      go_wp2_with fail
      go_ret
      obtain rfl : j = l.length := by omega
      have h3 := HO.out.rows
      rw [List.take_length] at h3
      exact ⟨A0, c0, rfl, HF.out, hc0, h3⟩

set_option maxHeartbeats 2000000 in
theorem copyP_any (l : List Fu) (ok : Nat → Prop) (A : Option Addr) (c : Nat) (w : World) (hok : ∀ k, ok k → k < w.heap.size) (hr : RdRows ok w 5 A 0 (l.map Fu.d)) (hlc : l.length ≤ c) (hc : l.length * 96 ≤ reach) :
   Calls Tryz.prog 6 #[.agg #[.slice A l.length c]] w fun r w' => ∃ A' c', r = .returned (.agg #[.slice A' l.length c']) ∧ Fr Non w w' ∧ l.length ≤ c' ∧ RdRows (New w.heap.size w') w' 5 A' 0 (l.map Fu.d) := by
  have hlen : l.length ≤ 140737488355328 := by unfold reach at hc; omega
  have HR := Lib.hid hr; clear hr
  have HK := Lib.hid hok; clear hok
  go_enter Tryz.func6, Tryz.ntmps6
  go_wp2_with fail
  obtain ⟨W1, HW1⟩ : ∃ W1, W1 = ((w.alloc (.cells #[.slice A l.length c] 24)).alloc (.cells #[.slice none 0 0] 24)).alloc (.cells #[.slice none 0 0] 24) := ⟨_, rfl⟩
  have hb1 : W1.heap[w.heap.size]? = some (.cells #[.slice A l.length c] 24 (0, 0)) := by rw [HW1]; exact blk_old (blk_old (blk_new _ _ _))
  have hb2 : W1.heap[w.heap.size + 1]? = some (.cells #[.slice none 0 0] 24 (0, 0)) := by rw [HW1]; exact blk_old (blk_new' (by simp) _ _)
  have hb3 : W1.heap[w.heap.size + 2]? = some (.cells #[.slice none 0 0] 24 (0, 0)) := by rw [HW1]; exact blk_new' (by simp) _ _
  have hf0 : Fr Non w W1 := by rw [HW1]; exact (((fr_refl w).alloc _).alloc _).alloc _
  have hW1 : w.heap.size + 3 ≤ W1.heap.size := by rw [HW1]; simp
  have hW2 : W1.heap.size ≤ w.heap.size + 3 := by rw [HW1]; simp
  have HB1 := Lib.hid hb1; clear hb1
  have HB2 := Lib.hid hb2; clear hb2
  have HB3 := Lib.hid hb3; clear hb3
  have HF0 := Lib.hid hf0; clear hf0
  rw [← HW1]
  clear HW1
  go_loopw [4] (fun i wr => ∃ j : Nat, i = .int .i64 j ∧ j ≤ l.length ∧ Fr (fun k => k = w.heap.size + 2) W1 wr ∧ ∃ v, wr.heap[w.heap.size + 2]? = some (.cells #[v] 24 (0, 0)) ∧ Own (w.heap.size + 3) 44 5 wr v ((l.map Fu.d).take j)) (fun i _ => l.length - (intOf i).toNat)
  case atStart => exact ⟨0, rfl, by omega, Fr.refl _ _, _, HB3.out, Own.nil _ _ _ _⟩
  case round =>
    obtain ⟨j, rfl, hj, hfr, v, hbv, hown⟩ := hrel
    have hz : w.heap.size + 3 ≤ wr.heap.size := Nat.le_trans hW1 hfr.size
    obtain ⟨A0, c0, rfl, hc0⟩ := hown.slice
    have hn : ((l.map Fu.d).take j).length = j := by simp; omega
    rw [hn] at hc0 hown hbv
    have HN := Lib.hid hn; clear hn
    have hb1 := blk_fr HB1.out hfr (by intro h; have h : w.heap.size = w.heap.size + 2 := h; omega)
    have hb2 := blk_fr HB2.out hfr (by intro h; have h : w.heap.size + 1 = w.heap.size + 2 := h; omega)
    have a0 := (cells_of hb1).1 0 _ rfl
    have HBV := Lib.hid hbv; clear hbv
    have hfw : Fr Non w wr := HF0.out.then hfr (fun k hk h => by have h : k = w.heap.size + 2 := h; omega)
    by_cases hlt : j < l.length
    · have hokr : ∀ k, ok k → k < wr.heap.size := fun k h => by have := HK.out k h; omega
      have HKR := Lib.hid hokr; clear hokr
      obtain ⟨b, o1, A1, c1, A2, c2, A3, c3, rfl, hb, e0, e1, e2, e3, e4, ⟨p1, q1, r1⟩, ⟨p2, q2, r2⟩, ⟨p3, q3, r3⟩⟩ := at_fu (HR.out.fr hfw (fun _ _ => non _) (fun _ h => h)) j hlt
      have R1 := Lib.hid r1; clear r1
      have R2 := Lib.hid r2; clear r2
      have R3 := Lib.hid r3; clear r3
      have HO := Lib.hid hown; clear hown
      have HF := Lib.hid hfr; clear hfr
      have HFW := Lib.hid hfw; clear hfw
      have HB1' := Lib.hid hb1; clear hb1
      have HB2' := Lib.hid hb2; clear hb2
      go_wp2_with (at_builtin; refine appX_pa rfl _ _ rfl ok (wr.heap.size + 1) (.slice none 0 0) [] rfl (OwnX.nil _ _ _ _ _) ?okb A1 c1 (l[j].params.map Pa.d) (by rw [List.length_map]; rfl) ?src (one_pas _) ?b1 ?b2 ?b3 ?k)
      case okb => intro k hk; have := HKR.out k hk; omega
      case src => exact R1.out.fr ((fr_refl _).alloc _) (fun _ _ => non _) (fun _ h => h)
      case b1 => have := (room24 q1).1; simp; omega
      case b2 => have := (room24 q1).2; simp; omega
      case b3 => simp
      case k =>
      intro v3 w3 hown3 hf3
      obtain ⟨A1', c1', rfl, hl1⟩ := hown3.slice
      have hn3 : (l[j].params.map Pa.d).length = l[j].params.length := List.length_map _
      rw [hn3] at hown3 hl1 ⊢
      clear hn3
      have hr1 := hown3.rows_pas
      have hf3' : Fr Non (wr.alloc (.cells #[.string l[j].name, .slice A1 l[j].params.length c1, .slice A2 l[j].body.length c2, .bool l[j].sec, .slice A3 l[j].ret.length c3] 44)) w3 := hf3.mono fun k _ h => by cases h.2
      have hb3 := blk_fr (blk_new _ _ _) hf3' (non _)
      have HR1 := Lib.hid hr1; clear hr1 hown3 hf3
      have HF3 := Lib.hid (box_fr hf3'); clear hf3'
      have g1 := (cells_of hb3).1 1 _ rfl
      have g2 := (cells_of hb3).1 2 _ rfl
      have gf := (cells_of hb3).2
      have HB3 := Lib.hid hb3; clear hb3
      go_wp2_with fail
      refine (copySts_any (St.sizes l[j].body) l[j].body ok A2 c2 _ (Nat.le_refl _) (fun k hk => by have := HKR.out k hk; have := HF3.out.size; simp; omega) (R2.out.fr (HF3.out.setCell _ _ (.inr (Nat.le_refl _))) (fun _ _ => non _) (fun _ h => h)) p2 q2).mono ?_
      rintro e w5 ⟨A2', c2', rfl, hf5, hl2, hr2⟩
      have hb5 := blk_fr (blk_set HB3.out 1 (.slice A1' l[j].params.length c1')) hf5 (non _)
      have HR2 := Lib.hid hr2; clear hr2
      have HF5 := Lib.hid ((HF3.out.setCell ⟨wr.heap.size, 1, none⟩ (.slice A1' l[j].params.length c1') (.inr (Nat.le_refl _))).trans hf5)
      have GF5 := Lib.hid hf5; clear hf5
      clear g1 g2 gf
      have g2 := (cells_of hb5).1 2 _ rfl
      have g4 := (cells_of hb5).1 4 _ rfl
      have gf := (cells_of hb5).2
      have HB5 := Lib.hid hb5; clear hb5
      go_wp2_with fail
      refine (copyExprs_any l[j].ret ok A3 c3 _ (R3.out.fr (HF5.out.setCell _ _ (.inr (Nat.le_refl _))) (fun _ _ => non _) (fun _ h => h)) p3 q3).mono ?_
      rintro e w7 ⟨A3', c3', rfl, hf7, hl3, hr3⟩
      have hb7 := blk_fr (blk_set HB5.out 2 (.slice A2' l[j].body.length c2')) hf7 (non _)
      have HR3 := Lib.hid hr3; clear hr3
      have HF7 := Lib.hid ((HF5.out.setCell ⟨wr.heap.size, 2, none⟩ (.slice A2' l[j].body.length c2') (.inr (Nat.le_refl _))).trans hf7)
      have GF7 := Lib.hid hf7; clear hf7
      clear g2 g4 gf
      have g0 := (cells_of hb7).1 0 _ rfl
      have g1 := (cells_of hb7).1 1 _ rfl
      have g2 := (cells_of hb7).1 2 _ rfl
      have g3 := (cells_of hb7).1 3 _ rfl
      have g4 := (cells_of hb7).1 4 _ rfl
      have gf := (cells_of hb7).2
      have HB7 := Lib.hid hb7; clear hb7
      have hbv7 := blk_fr HBV.out HF7.out (non _)
      have v0 := (cells_of hbv7).1 0 _ rfl
      have HBV7 := Lib.hid hbv7; clear hbv7
      have S7 := Lib.hid (show Fr (fun k => k = wr.heap.size) w7 (w7.setCell ⟨wr.heap.size, 4, none⟩ (.slice A3' l[j].ret.length c3')) from (Fr.refl _ _).setCell _ _ (.inl rfl))
      have S5 := Lib.hid ((((Fr.refl (fun k => k = wr.heap.size) w5).setCell ⟨wr.heap.size, 2, none⟩ (.slice A2' l[j].body.length c2') (.inl rfl)).trans GF7.out.non).trans S7.out)
      have S3 := Lib.hid ((((Fr.refl (fun k => k = wr.heap.size) w3).setCell ⟨wr.heap.size, 1, none⟩ (.slice A1' l[j].params.length c1') (.inl rfl)).trans GF5.out.non).trans S5.out)
      go_wp2_with (at_builtin; refine app_fu rfl _ _ rfl (w.heap.size + 3) (.slice A0 j c0) ((l.map Fu.d).take j) rfl ?o ⟨w7.heap.size, 0, none⟩ 1 1 rfl [l[j].d] [.string l[j].name, .slice A1' l[j].params.length c1', .slice A2' l[j].body.length c2', .bool l[j].sec, .slice A3' l[j].ret.length c3'] ?ch rfl ?nc (one_fu _ _ _ _ _ _ _ _ _ _ _) ?b1 ?b2 ?b3 ?k)
      case nc => exact new_cells' (by simp)
      case o => exact HO.out.fr ((HF7.out.setCell _ _ (.inr (Nat.le_refl _))).alloc _) (fun _ _ => non _)
      case ch =>
        have hv := HO.out.lt
        have sz3 := HF3.out.size
        have sz5 := HF5.out.size
        have sz7 := HF7.out.size
        have lt3 := blk_lt HB3.out
        have lt5 := blk_lt HB5.out
        have lt7 := blk_lt HB7.out
        have z3 := S3.out.size
        have z5 := S5.out.size
        rw [setCell_size] at z3 z5
        refine chunk_fu l[j] hl1 q1 (HR1.out.fr (S3.out.alloc _) ?_ ?_) hl2 q2 (HR2.out.fr (S5.out.alloc _) ?_ ?_) hl3 q3 (HR3.out.fr (S7.out.alloc _) ?_ ?_)
        all_goals (intro k hk; have h1 := hk.1; have h2 := hk.2; try simp at h1; try simp at h2)
        all_goals first
          | (intro h; have h : k = wr.heap.size := h; omega)
          | (refine ⟨by omega, by simp; omega, fun e => ?_⟩; have := (hv k e).2; omega)
      case b1 => rw [HN.out]; exact (room96 (by omega)).1
      case b2 => rw [HN.out]; exact (room96 (by omega)).2
      case b3 => have := HF7.out.size; simp; omega
      case k =>
        intro v' w' hown' hfr'
        obtain ⟨L, hL⟩ : ∃ L, L = (l.map Fu.d).take j ++ [l[j].d] := ⟨_, rfl⟩
        have hLn : L.length = j + 1 := by rw [hL]; simp; omega
        rw [← hL] at hown'
        obtain ⟨A9, c9, rfl, hc9⟩ := hown'.slice
        rw [hLn] at hown' ⊢
        have HL := Lib.hid hL; clear hL hLn hc9
        have hbv' := blk_fr (blk_old (o' := .cells #[.string l[j].name, .slice A1' l[j].params.length c1', .slice A2' l[j].body.length c2', .bool l[j].sec, .slice A3' l[j].ret.length c3'] 44) (blk_fr HBV7.out S7.out (by intro h; have h : w.heap.size + 2 = wr.heap.size := h; omega))) hfr' (by intro h; have := h.1; omega)
        have HO' := Lib.hid hown'; clear hown'
        have HF' := Lib.hid hfr'; clear hfr'
        have v0' := (cells_of hbv').1 0 _ rfl
        have vf' := (cells_of hbv').2
        have HBV' := Lib.hid hbv'; clear hbv'
        go_wp2_with fail
        go_roundw
        case rel => 
          refine ⟨j + 1, by go_num, by omega, ?_, _, blk_set HBV'.out 0 _, ?_⟩
          · refine Fr.setCell ?_ _ _ (.inl rfl)
            exact (HF.out.trans ((HF7.out.setCell _ _ (.inr (Nat.le_refl _))).alloc _).non).then HF'.out (fun k hk ht => by have := ht.1; omega)
          · rw [show (l.map Fu.d).take (j + 1) = L by rw [HL.out, take_snoc _ _ (by simpa using hlt), List.getElem_map]]
            exact HO'.out.fr (S := fun k => k = w.heap.size + 2) ((Fr.refl _ _).setCell _ _ (.inl rfl)) (fun k hk h => by have h : k = w.heap.size + 2 := h; omega)
        case measure => simp [intOf]; omega
    · have HO := Lib.hid hown; clear hown
      have HF := Lib.hid hfr; clear hfr
      have HFW := Lib.hid hfw; clear hfw
      have v0 := (cells_of HBV.out).1 0 _ rfl
      have r0 := (cells_of hb2).1 0 _ rfl
      have rf := (cells_of hb2).2
      clear hb1 hb2
      go_wp2_with fail
      refine bodyPost_ret (v := .agg #[.slice A0 j c0]) ?_ rfl ?_
      · simp [results, Tryz.results6, go_sem, r0]
      · obtain rfl : j = l.length := by omega
        refine ⟨A0, c0, rfl, HFW.out.setCell _ _ (.inr (by simp)), hc0, ?_⟩
        have h3 := HO.out.rows
        rw [List.take_of_length_le (by simp)] at h3
        exact h3.fr (S := fun k => k = w.heap.size + 1) ((Fr.refl _ _).setCell _ _ (.inl rfl)) (fun b hb h => by have h : b = w.heap.size + 1 := h; have := hb.1; omega) (fun b hb => ⟨by have := hb.1; omega, by simp; exact hb.2⟩)
end Go.Proofs.YtnlnejpioijkiaaGreatDoor
/- Contracts of the reference's looks at programs: which statements, functions and programs may be. -/
namespace Go.Proofs.YtnlnejpioijkiaaGreatDoor
open Go.RowKit
set_option linter.unusedVariables false
set_option linter.unusedSimpArgs false

def nIs (k : UInt8) : Bool := decide (1 ≤ k.toNat ∧ k.toNat ≤ 12)
def nEx (k : UInt8) : Int := if k.toNat = 4 ∨ k.toNat = 8 then 2 else if k.toNat = 11 then -1 else if k.toNat = 1 ∨ k.toNat = 2 ∨ k.toNat = 3 ∨ k.toNat = 5 ∨ k.toNat = 6 ∨ k.toNat = 7 ∨ k.toNat = 10 then 1 else 0
def nName (k : UInt8) : Bool := decide (k.toNat = 1 ∨ k.toNat = 2 ∨ k.toNat = 3 ∨ k.toNat = 4 ∨ k.toNat = 7 ∨ k.toNat = 8 ∨ k.toNat = 9 ∨ k.toNat = 10)
def nFrom (k : UInt8) : Bool := decide (k.toNat = 8 ∨ k.toNat = 9 ∨ k.toNat = 11)
def nSec (k : UInt8) : Bool := decide (k.toNat = 1 ∨ k.toNat = 3)
def nMut (k : UInt8) : Bool := decide (k.toNat = 8)
def nBody (k : UInt8) : Bool := decide (5 ≤ k.toNat ∧ k.toNat ≤ 8)
def nElse (k : UInt8) : Bool := decide (k.toNat = 5)
def needV (k : UInt8) : Value := .agg #[.int .i64 (nEx k), .bool (nName k), .bool (nFrom k), .bool (nSec k), .bool (nMut k), .bool (nBody k), .bool (nElse k)]

theorem needV_at (k : UInt8) (n : Nat) (h : k.toNat = n) (hn : n < 256) : needV k = needV (UInt8.ofNat n) ∧ nIs k = nIs (UInt8.ofNat n) := by
  obtain rfl : k = UInt8.ofNat n := UInt8.toNat.inj (by rw [h]; simp; omega)
  exact ⟨rfl, rfl⟩
theorem needV_no (k : UInt8) (h : k.toNat = 0 ∨ 12 < k.toNat) : needV k = .agg #[.int .i64 0, .bool false, .bool false, .bool false, .bool false, .bool false, .bool false] ∧ nIs k = false := by
  unfold needV nEx nName nFrom nSec nMut nBody nElse nIs
  repeat rw [if_neg (by omega)]
  repeat rw [decide_eq_false (by omega)]
  exact ⟨rfl, rfl⟩

set_option maxHeartbeats 2000000 in
theorem needs_any (k : UInt8) (w : World) : Calls Tryz.prog 85 #[vu8 k] w fun e w' => e = .returned (.tuple #[needV k, .bool (nIs k)]) ∧ Fr Non w w' := by
  have hc := k.toNat_lt
  go_enter Tryz.func85, Tryz.ntmps85
  go_wp2_with fail
  all_goals simp only [beq_iff_eq, beq_eq_false_iff_ne, ne_eq] at *
  all_goals first
    | (have hk : k.toNat = 1 := by omega
       obtain ⟨h1, h2⟩ := needV_at k 1 hk (by omega)
       rw [h1, h2]
       refine bodyPost_ret (v := .tuple #[needV (UInt8.ofNat 1), .bool (nIs (UInt8.ofNat 1))]) (by simp [results, Tryz.results85, go_sem, needV, nEx, nName, nFrom, nSec, nMut, nBody, nElse, nIs]) rfl ⟨rfl, ?_⟩)
    | (have hk : k.toNat = 2 := by omega
       obtain ⟨h1, h2⟩ := needV_at k 2 hk (by omega)
       rw [h1, h2]
       refine bodyPost_ret (v := .tuple #[needV (UInt8.ofNat 2), .bool (nIs (UInt8.ofNat 2))]) (by simp [results, Tryz.results85, go_sem, needV, nEx, nName, nFrom, nSec, nMut, nBody, nElse, nIs]) rfl ⟨rfl, ?_⟩)
    | (have hk : k.toNat = 3 := by omega
       obtain ⟨h1, h2⟩ := needV_at k 3 hk (by omega)
       rw [h1, h2]
       refine bodyPost_ret (v := .tuple #[needV (UInt8.ofNat 3), .bool (nIs (UInt8.ofNat 3))]) (by simp [results, Tryz.results85, go_sem, needV, nEx, nName, nFrom, nSec, nMut, nBody, nElse, nIs]) rfl ⟨rfl, ?_⟩)
    | (have hk : k.toNat = 4 := by omega
       obtain ⟨h1, h2⟩ := needV_at k 4 hk (by omega)
       rw [h1, h2]
       refine bodyPost_ret (v := .tuple #[needV (UInt8.ofNat 4), .bool (nIs (UInt8.ofNat 4))]) (by simp [results, Tryz.results85, go_sem, needV, nEx, nName, nFrom, nSec, nMut, nBody, nElse, nIs]) rfl ⟨rfl, ?_⟩)
    | (have hk : k.toNat = 5 := by omega
       obtain ⟨h1, h2⟩ := needV_at k 5 hk (by omega)
       rw [h1, h2]
       refine bodyPost_ret (v := .tuple #[needV (UInt8.ofNat 5), .bool (nIs (UInt8.ofNat 5))]) (by simp [results, Tryz.results85, go_sem, needV, nEx, nName, nFrom, nSec, nMut, nBody, nElse, nIs]) rfl ⟨rfl, ?_⟩)
    | (have hk : k.toNat = 6 := by omega
       obtain ⟨h1, h2⟩ := needV_at k 6 hk (by omega)
       rw [h1, h2]
       refine bodyPost_ret (v := .tuple #[needV (UInt8.ofNat 6), .bool (nIs (UInt8.ofNat 6))]) (by simp [results, Tryz.results85, go_sem, needV, nEx, nName, nFrom, nSec, nMut, nBody, nElse, nIs]) rfl ⟨rfl, ?_⟩)
    | (have hk : k.toNat = 7 := by omega
       obtain ⟨h1, h2⟩ := needV_at k 7 hk (by omega)
       rw [h1, h2]
       refine bodyPost_ret (v := .tuple #[needV (UInt8.ofNat 7), .bool (nIs (UInt8.ofNat 7))]) (by simp [results, Tryz.results85, go_sem, needV, nEx, nName, nFrom, nSec, nMut, nBody, nElse, nIs]) rfl ⟨rfl, ?_⟩)
    | (have hk : k.toNat = 8 := by omega
       obtain ⟨h1, h2⟩ := needV_at k 8 hk (by omega)
       rw [h1, h2]
       refine bodyPost_ret (v := .tuple #[needV (UInt8.ofNat 8), .bool (nIs (UInt8.ofNat 8))]) (by simp [results, Tryz.results85, go_sem, needV, nEx, nName, nFrom, nSec, nMut, nBody, nElse, nIs]) rfl ⟨rfl, ?_⟩)
    | (have hk : k.toNat = 9 := by omega
       obtain ⟨h1, h2⟩ := needV_at k 9 hk (by omega)
       rw [h1, h2]
       refine bodyPost_ret (v := .tuple #[needV (UInt8.ofNat 9), .bool (nIs (UInt8.ofNat 9))]) (by simp [results, Tryz.results85, go_sem, needV, nEx, nName, nFrom, nSec, nMut, nBody, nElse, nIs]) rfl ⟨rfl, ?_⟩)
    | (have hk : k.toNat = 10 := by omega
       obtain ⟨h1, h2⟩ := needV_at k 10 hk (by omega)
       rw [h1, h2]
       refine bodyPost_ret (v := .tuple #[needV (UInt8.ofNat 10), .bool (nIs (UInt8.ofNat 10))]) (by simp [results, Tryz.results85, go_sem, needV, nEx, nName, nFrom, nSec, nMut, nBody, nElse, nIs]) rfl ⟨rfl, ?_⟩)
    | (have hk : k.toNat = 11 := by omega
       obtain ⟨h1, h2⟩ := needV_at k 11 hk (by omega)
       rw [h1, h2]
       refine bodyPost_ret (v := .tuple #[needV (UInt8.ofNat 11), .bool (nIs (UInt8.ofNat 11))]) (by simp [results, Tryz.results85, go_sem, needV, nEx, nName, nFrom, nSec, nMut, nBody, nElse, nIs]) rfl ⟨rfl, ?_⟩)
    | (have hk : k.toNat = 12 := by omega
       obtain ⟨h1, h2⟩ := needV_at k 12 hk (by omega)
       rw [h1, h2]
       refine bodyPost_ret (v := .tuple #[needV (UInt8.ofNat 12), .bool (nIs (UInt8.ofNat 12))]) (by simp [results, Tryz.results85, go_sem, needV, nEx, nName, nFrom, nSec, nMut, nBody, nElse, nIs]) rfl ⟨rfl, ?_⟩)
    | (obtain ⟨h1, h2⟩ := needV_no k (by omega)
       rw [h1, h2]
       refine bodyPost_ret (v := .tuple #[.agg #[.int .i64 0, .bool false, .bool false, .bool false, .bool false, .bool false, .bool false], .bool false]) (by simp [results, Tryz.results85, go_sem]) rfl ⟨rfl, ?_⟩)
  all_goals first | exact (fr_refl w).alloc _ | exact ((fr_refl w).alloc _).setCell _ _ (.inr (Nat.le_refl _))

def namedX (s : ByteArray) (b : Bool) : Bool := if b then namedM s else emp s
theorem namedX_any (s : ByteArray) (b : Bool) (w : World) : Calls Tryz.prog 86 #[.string s, .bool b] w fun e w' => e = .returned (.bool (namedX s b)) ∧ Fr Non w w' := by
  cases b with
  | true =>
    go_enter Tryz.func86, Tryz.ntmps86
    go_wp2_with fail
    refine (named_any _ _).mono ?_
    rintro e w1 ⟨rfl, hf⟩
    go_wp2_with fail
    go_ret
    exact ⟨rfl, hf⟩
  | false =>
    go_enter Tryz.func86, Tryz.ntmps86
    go_wp2_with fail
    go_ret
    exact ⟨ret_bool (by first | rfl | (rw [toemp]; rfl)), fr_refl _⟩

theorem names_any (l : List ByteArray) (ok : Nat → Prop) (A : Option Addr) (c : Nat) (w : World) (hr : RdRows ok w 1 A 0 (l.map strD)) (hc : l.length * 16 ≤ reach) :
   Calls Tryz.prog 87 #[.slice A l.length c] w fun e w' => e = .returned (.bool (l.all namedM)) ∧ Fr Non w w' := by
  have hlen : l.length ≤ 140737488355328 := by unfold reach at hc; omega
  have HR := Lib.hid hr; clear hr
  go_enter Tryz.func87, Tryz.ntmps87
  go_wp2_with fail
  go_loopw [3] (fun i wr => ∃ j : Nat, i = .int .i64 j ∧ j ≤ l.length ∧ Fr Non w wr ∧ ∀ q, q < j → ∀ hq : q < l.length, namedM l[q] = true) (fun i _ => l.length - (intOf i).toNat)
  case atStart => exact ⟨0, rfl, by omega, fr_refl _, fun j hj => by omega⟩
  case round =>
    obtain ⟨j, rfl, hj, hfr, hno⟩ := hrel
    have HN := Lib.hid hno; clear hno
    by_cases hlt : j < l.length
    · obtain ⟨b, o1, rfl, hb, e0⟩ := at_str (HR.out.fr hfr (fun _ _ => non _) (fun _ h => h)) j hlt
      go_wp2_with fail
      refine (named_any _ _).mono ?_
      rintro e w2 ⟨rfl, hf2⟩
      generalize hm : namedM l[j] = m
      have HM := Lib.hid hm; clear hm
      cases m with
      | true =>
        go_wp2_with fail
        go_roundw
        case rel => exact ⟨j + 1, by go_num, by omega, hfr.trans hf2, till HN.out fun _ => HM.out⟩
        case measure => simp [intOf]; omega
      | false =>
        go_wp2_with fail
        go_ret
        exact ⟨ret_bool (all_false_of j hlt HM.out).symm, hfr.trans hf2⟩
    · go_wp2_with fail
      go_ret
      exact ⟨ret_bool (all_true_of fun q hq => HN.out q (by omega) hq).symm, hfr⟩

def exM (e : Ex) : Bool := Ex.may e 1
theorem exM_any (e : Ex) (ok : Nat → Prop) (A : Option Addr) (c : Nat) (w : World) (hr : RdRows ok w 5 A 0 (Ex.ds e.kids)) (h1 : e.kids.length ≤ c) (h2 : e.kids.length * 64 ≤ reach) :
   Calls Tryz.prog 91 #[exV e.kind e.num e.name e.op A e.kids.length c] w fun r w' => r = .returned (.bool (exM e)) ∧ Fr Non w w' := by
  have := mayE_any e.kind e.num e.name e.op e.kids ok A c w hr h1 h2
  rw [ex_eta] at this
  exact this
theorem exprsM_any (l : List Ex) (n : Int) (ok : Nat → Prop) (A : Option Addr) (c : Nat) (w : World) (hr : RdRows ok w 5 A 0 (Ex.ds l)) (hc : l.length * 64 ≤ reach) :
   Calls Tryz.prog 55 #[.slice A l.length c, .int .i64 n] w fun e w' => e = .returned (.bool (l.all exM && ((l.length : Int) == n))) ∧ Fr Non w w' := by
  have hlen : l.length ≤ 140737488355328 := by unfold reach at hc; omega
  have HR := Lib.hid hr; clear hr
  go_enter Tryz.func55, Tryz.ntmps55
  go_wp2_with fail
  go_loopw [5] (fun i wr => ∃ j : Nat, i = .int .i64 j ∧ j ≤ l.length ∧ Fr Non w wr ∧ ∀ q, q < j → ∀ hq : q < l.length, exM l[q] = true) (fun i _ => l.length - (intOf i).toNat)
  case atStart => exact ⟨0, rfl, by omega, fr_refl _, fun j hj => by omega⟩
  case round =>
    obtain ⟨j, rfl, hj, hfr, hno⟩ := hrel
    have HN := Lib.hid hno; clear hno
    by_cases hlt : j < l.length
    · obtain ⟨b, o1, A1, c1, rfl, hb, e0, e1, e2, e3, e4, p1, p2, p3⟩ := at_ex (HR.out.fr hfr (fun _ _ => non _) (fun _ h => h)) j hlt
      have P3 := Lib.hid p3; clear p3
      go_wp2_with fail
      refine (exM_any l[j] ok A1 c1 _ P3.out p1 p2).mono ?_
      rintro e w2 ⟨rfl, hf2⟩
      generalize hm : exM l[j] = m
      have HM := Lib.hid hm; clear hm
      cases m with
      | true =>
        go_wp2_with fail
        go_roundw
        case rel => exact ⟨j + 1, by go_num, by omega, hfr.trans hf2, till HN.out fun _ => HM.out⟩
        case measure => simp [intOf]; omega
      | false =>
        go_wp2_with fail
        go_ret
        exact ⟨ret_bool (by rw [all_false_of j hlt HM.out]; rfl), hfr.trans hf2⟩
    · go_wp2_with fail
      go_ret
      exact ⟨ret_bool (by rw [all_true_of (l := l) fun q hq => HN.out q (by omega) hq]; rfl), hfr⟩
end Go.Proofs.YtnlnejpioijkiaaGreatDoor
/- The contract of the reference's look at one statement's form. -/
namespace Go.Proofs.YtnlnejpioijkiaaGreatDoor
open Go.RowKit
set_option linter.unusedVariables false
set_option linter.unusedSimpArgs false

def headM (k : UInt8) (f : ByteArray) (s m : Bool) (nb ne : Nat) : Bool := nIs k && (!s || nSec k) && (!m || nMut k) && (nb == 0 || nBody k) && (ne == 0 || nElse k) && namedX f (nFrom k)
def callM (n : ByteArray) (ex : List Ex) (args : List ByteArray) : Bool := (emp n || namedM n) && ex.all exM && decide (ex.length ≤ 8) && args.all namedM && decide (args.length ≤ 8)
def restM (k : UInt8) (n : ByteArray) (ex : List Ex) (args : List ByteArray) : Bool := namedX n (nName k) && (args.length == 0) && (ex.all exM && ((ex.length : Int) == nEx k))
def formM (s : St) : Bool := headM s.kind s.frm s.sec s.mt s.body.length s.els.length && if s.kind.toNat = 11 then callM s.name s.ex s.args else restM s.kind s.name s.ex s.args

set_option maxRecDepth 4000 in
set_option maxHeartbeats 4000000 in
theorem form_any (s : St) (ok : Nat → Prop) (A1 A2 A3 A4 : Option Addr) (c1 c2 c3 c4 : Nat) (w : World) (r1 : RdRows ok w 5 A1 0 (Ex.ds s.ex)) (q1 : s.ex.length * 64 ≤ reach) (r2 : RdRows ok w 1 A2 0 (s.args.map strD)) (q2 : s.args.length * 16 ≤ reach) (q3 : s.body.length * 144 ≤ reach) (q4 : s.els.length * 144 ≤ reach) :
   Calls Tryz.prog 53 #[.agg #[vu8 s.kind, .string s.name, .string s.frm, .bool s.sec, .bool s.mt, .slice A1 s.ex.length c1, .slice A2 s.args.length c2, .slice A3 s.body.length c3, .slice A4 s.els.length c4]] w fun e w' => e = .returned (.bool (formM s)) ∧ Fr Non w w' := by
  have hl1 : s.ex.length ≤ 140737488355328 := by unfold reach at q1; omega
  have hl2 : s.args.length ≤ 140737488355328 := by unfold reach at q2; omega
  have hl3 : s.body.length ≤ 140737488355328 := by unfold reach at q3; omega
  have hl4 : s.els.length ≤ 140737488355328 := by unfold reach at q4; omega
  have R1 := Lib.hid r1; clear r1
  have R2 := Lib.hid r2; clear r2
  have Q1 := Lib.hid q1; clear q1
  have Q2 := Lib.hid q2; clear q2 q3 q4
  go_enter Tryz.func53, Tryz.ntmps53
  go_wp2_with fail
  refine (needs_any _ _).mono ?_
  rintro e w1 ⟨rfl, hf1⟩
  have hb1 := blk_fr (blk_new _ _ _) hf1 (non _)
  have HF1 := Lib.hid (box_fr hf1); clear hf1
  have HB1 := Lib.hid hb1; clear hb1
  unfold needV
  go_upto_region 2 with fail
  obtain ⟨W1, HW1⟩ : ∃ W1, W1 = w1.alloc (.cells #[.int .i64 (nEx s.kind), .bool (nName s.kind), .bool (nFrom s.kind), .bool (nSec s.kind), .bool (nMut s.kind), .bool (nBody s.kind), .bool (nElse s.kind)] 153) := ⟨_, rfl⟩
  rw [← HW1]
  have hbb : W1.heap[w.heap.size]? = some (.cells #[vu8 s.kind, .string s.name, .string s.frm, .bool s.sec, .bool s.mt, .slice A1 s.ex.length c1, .slice A2 s.args.length c2, .slice A3 s.body.length c3, .slice A4 s.els.length c4] 53 (0, 0)) := by rw [HW1]; exact blk_old HB1.out
  have hbn : W1.heap[w1.heap.size]? = some (.cells #[.int .i64 (nEx s.kind), .bool (nName s.kind), .bool (nFrom s.kind), .bool (nSec s.kind), .bool (nMut s.kind), .bool (nBody s.kind), .bool (nElse s.kind)] 153 (0, 0)) := by rw [HW1]; exact blk_new _ _ _
  have hfw : Fr Non w W1 := by rw [HW1]; exact HF1.out.alloc _
  clear HW1
  have b2 := (cells_of hbb).1 2 _ rfl
  have b3 := (cells_of hbb).1 3 _ rfl
  have b4 := (cells_of hbb).1 4 _ rfl
  have b7 := (cells_of hbb).1 7 _ rfl
  have b8 := (cells_of hbb).1 8 _ rfl
  have n2 := (cells_of hbn).1 2 _ rfl
  have n3 := (cells_of hbn).1 3 _ rfl
  have n4 := (cells_of hbn).1 4 _ rfl
  have n5 := (cells_of hbn).1 5 _ rfl
  have n6 := (cells_of hbn).1 6 _ rfl
  have HBB := Lib.hid hbb; clear hbb
  have HBN := Lib.hid hbn; clear hbn
  have HFW := Lib.hid hfw; clear hfw
  go_cut [0, 4, 60] (fun v0 v4 v wx => v = .bool (!headM s.kind s.frm s.sec s.mt s.body.length s.els.length) ∧ Fr Non W1 wx)
  case first =>
    go_wp2_with fail
    all_goals try
      refine (namedX_any _ _ _).mono ?_
      rintro e w2 ⟨rfl, hf2⟩
      go_wp2_with fail
    all_goals go_meet
    all_goals (refine ⟨congrArg Value.bool ?_, ?_⟩; rotate_left; first | exact fr_refl _ | exact hf2)
    all_goals (clear b2 b3 b4 b7 b8 n2 n3 n4 n5 n6 HBB HBN HF1 HB1 HFW R1 R2 Q1 Q2)
    all_goals simp_all [headM, Nat.pos_iff_ne_zero]
  case rest =>
    obtain ⟨rfl, hfx⟩ := hcut
    have hbb' := blk_fr HBB.out hfx (non _)
    have hbn' := blk_fr HBN.out hfx (non _)
    have HFX := Lib.hid (HFW.out.trans hfx); clear hfx b2 b3 b4 b7 b8 n2 n3 n4 n5 n6
    have b0 := (cells_of hbb').1 0 _ rfl
    have b1 := (cells_of hbb').1 1 _ rfl
    have b5 := (cells_of hbb').1 5 _ rfl
    have b6 := (cells_of hbb').1 6 _ rfl
    have n0 := (cells_of hbn').1 0 _ rfl
    have n1 := (cells_of hbn').1 1 _ rfl
    have HBB' := Lib.hid hbb'; clear hbb'
    have HBN' := Lib.hid hbn'; clear hbn'
    generalize hh : headM s.kind s.frm s.sec s.mt s.body.length s.els.length = hd
    have HH := Lib.hid hh; clear hh
    cases hd with
    | false =>
      go_wp2_with fail
      go_ret
      exact ⟨ret_bool (by rw [formM, HH.out]; rfl), HFX.out⟩
    | true =>
      by_cases hk : s.kind.toNat = 11
      · have hk' : (((s.kind.toNat : Int)) == 11) = true := by simp [hk]
        have HK := Lib.hid hk; clear hk
        cases he : emp s.name with
        | true =>
          have he' : s.name.toList.isEmpty = true := by rw [toemp]; exact he
          have EE := Lib.hid (show (emp s.name || namedM s.name) = true by rw [he]; rfl); clear he
          go_wp2_with fail
          have b5' := b5
          have b6' := b6
          clear b0 b1 b5 b6 n0 n1
          have HF2 := HFX
          refine (exprsM_any s.ex _ ok A1 c1 _ (R1.out.fr HF2.out (fun _ _ => non _) (fun _ h => h)) Q1.out).mono ?_
          rintro e w3 ⟨rfl, hf3⟩
          rw [show (s.ex.all exM && ((s.ex.length : Int) == (s.ex.length : Int))) = s.ex.all exM by simp]
          have b5'' := hf3.cell' b5' (non _)
          have b6'' := hf3.cell' b6' (non _)
          clear b5' b6'
          have HF3 := Lib.hid (HF2.out.trans hf3); clear hf3
          generalize hm2 : s.ex.all exM = m2
          have HM2 := Lib.hid hm2; clear hm2
          cases m2 with
          | false =>
            go_wp2_with fail
            go_ret
            exact ⟨ret_bool (by rw [formM, HH.out, if_pos HK.out, callM, EE.out, HM2.out]; rfl), HF3.out⟩
          | true =>
          by_cases h8 : s.ex.length ≤ 8
          · have H8 := Lib.hid (decide_eq_true h8)
            go_wp2_with fail
            refine (names_any s.args ok A2 c2 _ (R2.out.fr HF3.out (fun _ _ => non _) (fun _ h => h)) Q2.out).mono ?_
            rintro e w4 ⟨rfl, hf4⟩
            have b6''' := hf4.cell' b6'' (non _)
            clear b5'' b6''
            have HF4 := Lib.hid (HF3.out.trans hf4); clear hf4
            generalize hm3 : s.args.all namedM = m3
            have HM3 := Lib.hid hm3; clear hm3
            cases m3 with
            | false =>
              go_wp2_with fail
              go_ret
              exact ⟨ret_bool (by rw [formM, HH.out, if_pos HK.out, callM, EE.out, HM2.out, H8.out, HM3.out]; rfl), HF4.out⟩
            | true =>
              go_wp2_with fail
              go_ret
              exact ⟨ret_bool (by rw [formM, HH.out, if_pos HK.out, callM, EE.out, HM2.out, H8.out, HM3.out, Bool.eq_iff_iff]; simp; try omega), HF4.out⟩
          · have H8 := Lib.hid (decide_eq_false h8)
            go_wp2_with fail
            go_ret
            exact ⟨ret_bool (by rw [formM, HH.out, if_pos HK.out, callM, EE.out, HM2.out, H8.out]; rfl), HF3.out⟩
        | false =>
          have he' : s.name.toList.isEmpty = false := by rw [toemp]; exact he
          have HE := Lib.hid he; clear he
          go_wp2_with fail
          refine (named_any _ _).mono ?_
          rintro e w2 ⟨rfl, hf2⟩
          have b5' := hf2.cell' b5 (non _)
          have b6' := hf2.cell' b6 (non _)
          clear b0 b1 b5 b6 n0 n1
          have HF2 := Lib.hid (HFX.out.trans hf2); clear hf2
          generalize hm : namedM s.name = m
          have EE := Lib.hid (show (emp s.name || namedM s.name) = m by rw [HE.out, hm]; rfl); clear hm
          cases m with
          | false =>
            go_wp2_with fail
            go_ret
            exact ⟨ret_bool (by rw [formM, HH.out, if_pos HK.out, callM, EE.out]; rfl), HF2.out⟩
          | true =>
          go_wp2_with fail
          refine (exprsM_any s.ex _ ok A1 c1 _ (R1.out.fr HF2.out (fun _ _ => non _) (fun _ h => h)) Q1.out).mono ?_
          rintro e w3 ⟨rfl, hf3⟩
          rw [show (s.ex.all exM && ((s.ex.length : Int) == (s.ex.length : Int))) = s.ex.all exM by simp]
          have b5'' := hf3.cell' b5' (non _)
          have b6'' := hf3.cell' b6' (non _)
          clear b5' b6'
          have HF3 := Lib.hid (HF2.out.trans hf3); clear hf3
          generalize hm2 : s.ex.all exM = m2
          have HM2 := Lib.hid hm2; clear hm2
          cases m2 with
          | false =>
            go_wp2_with fail
            go_ret
            exact ⟨ret_bool (by rw [formM, HH.out, if_pos HK.out, callM, EE.out, HM2.out]; rfl), HF3.out⟩
          | true =>
          by_cases h8 : s.ex.length ≤ 8
          · have H8 := Lib.hid (decide_eq_true h8)
            go_wp2_with fail
            refine (names_any s.args ok A2 c2 _ (R2.out.fr HF3.out (fun _ _ => non _) (fun _ h => h)) Q2.out).mono ?_
            rintro e w4 ⟨rfl, hf4⟩
            have b6''' := hf4.cell' b6'' (non _)
            clear b5'' b6''
            have HF4 := Lib.hid (HF3.out.trans hf4); clear hf4
            generalize hm3 : s.args.all namedM = m3
            have HM3 := Lib.hid hm3; clear hm3
            cases m3 with
            | false =>
              go_wp2_with fail
              go_ret
              exact ⟨ret_bool (by rw [formM, HH.out, if_pos HK.out, callM, EE.out, HM2.out, H8.out, HM3.out]; rfl), HF4.out⟩
            | true =>
              go_wp2_with fail
              go_ret
              exact ⟨ret_bool (by rw [formM, HH.out, if_pos HK.out, callM, EE.out, HM2.out, H8.out, HM3.out, Bool.eq_iff_iff]; simp; try omega), HF4.out⟩
          · have H8 := Lib.hid (decide_eq_false h8)
            go_wp2_with fail
            go_ret
            exact ⟨ret_bool (by rw [formM, HH.out, if_pos HK.out, callM, EE.out, HM2.out, H8.out]; rfl), HF3.out⟩
      · have hk' : (((s.kind.toNat : Int)) == 11) = false := by simp; omega
        have HK := Lib.hid hk; clear hk
        go_wp2_with fail
        refine (namedX_any _ _ _).mono ?_
        rintro e w2 ⟨rfl, hf2⟩
        have b5' := hf2.cell' b5 (non _)
        have b6' := hf2.cell' b6 (non _)
        have n0' := hf2.cell' n0 (non _)
        clear b0 b1 b5 b6 n0 n1
        generalize hm : namedX s.name (nName s.kind) = m
        have HM := Lib.hid hm; clear hm
        have HF2 := Lib.hid (HFX.out.trans hf2); clear hf2
        cases m with
        | false =>
          go_wp2_with fail
          go_ret
          exact ⟨ret_bool (by rw [formM, HH.out, if_neg HK.out, restM, HM.out]; rfl), HF2.out⟩
        | true =>
          by_cases hz : s.args.length = 0
          · have hz' : (((s.args.length : Int)) == 0) = true := by simp [hz]
            have HZ := Lib.hid hz; clear hz
            go_wp2_with fail
            refine (exprsM_any s.ex _ ok A1 c1 _ (R1.out.fr HF2.out (fun _ _ => non _) (fun _ h => h)) Q1.out).mono ?_
            rintro e w3 ⟨rfl, hf3⟩
            go_wp2_with fail
            go_ret
            exact ⟨ret_bool (by rw [formM, HH.out, if_neg HK.out, restM, HM.out, HZ.out]; rfl), HF2.out.trans hf3⟩
          · have hz' : (((s.args.length : Int)) == 0) = false := by simp; intro h; simp [h] at hz
            have HZ := Lib.hid (show (s.args.length == 0) = false by simp; intro h; simp [h] at hz); clear hz
            go_wp2_with fail
            go_ret
            exact ⟨ret_bool (by rw [formM, HH.out, if_neg HK.out, restM, HM.out, HZ.out]; rfl), HF2.out⟩
end Go.Proofs.YtnlnejpioijkiaaGreatDoor
/- Contracts of the reference's count of statements, its look at functions, and May. -/
namespace Go.Proofs.YtnlnejpioijkiaaGreatDoor
open Go.RowKit
set_option linter.unusedVariables false
set_option linter.unusedSimpArgs false

mutual
def St.ok : St → Nat → Bool
  | .mk k n f s m ex args body els, deep => decide (deep ≤ 40) && formM (.mk k n f s m ex args body els) && St.oks body (deep + 1) && St.oks els (deep + 1)
def St.oks : List St → Nat → Bool
  | [], _ => true
  | s :: l, deep => St.ok s deep && St.oks l deep
end
theorem oks_true : ∀ (l : List St) (d : Nat), (∀ j (h : j < l.length), St.ok l[j] d = true) → St.oks l d = true
  | [], _, _ => rfl
  | e :: l, d, h => by
    simp only [St.oks, Bool.and_eq_true]
    exact ⟨h 0 (by simp), oks_true l d fun j hj => h (j + 1) (by simpa using hj)⟩
theorem oks_false : ∀ (l : List St) (d : Nat) (j : Nat) (h : j < l.length), St.ok l[j] d = false → St.oks l d = false
  | e :: l, d, 0, _, h => by simp [St.oks, show St.ok e d = false from h]
  | e :: l, d, j + 1, h1, h => by simp [St.oks, oks_false l d j (by simpa using h1) (by simpa using h)]
theorem St.ok_eq (s : St) (d : Nat) : s.ok d = (decide (d ≤ 40) && formM s && St.oks s.body (d + 1) && St.oks s.els (d + 1)) := by cases s; rfl
theorem sizes_take (l : List St) (j : Nat) (h : j < l.length) : St.sizes (l.take (j + 1)) = St.sizes (l.take j) + l[j].size := by
  induction l generalizing j with
  | nil => simp at h
  | cons e l ih =>
    cases j with
    | zero => simp [St.sizes]
    | succ j => have := ih j (by simpa using h); simp [St.sizes] at this ⊢; omega
theorem sizes_take_le (l : List St) (j : Nat) : St.sizes (l.take j) ≤ St.sizes l := by
  induction l generalizing j with
  | nil => simp [St.sizes]
  | cons e l ih =>
    cases j with
    | zero => simp [St.sizes]
    | succ j => have := ih j; simp [St.sizes]; omega
def cntM (l : List St) (d : Nat) : Int := if St.oks l d then (St.sizes l : Int) else -1
theorem cnt_true {l : List St} {d : Nat} (h : St.oks l d = true) : cntM l d = St.sizes l := if_pos h
theorem cnt_false {l : List St} {d : Nat} (h : St.oks l d = false) : cntM l d = -1 := if_neg (by simp [h])

set_option maxHeartbeats 4000000 in
theorem count_any (N : Nat) : ∀ (l : List St) (deep : Nat) (ok : Nat → Prop) (A : Option Addr) (c : Nat) (w : World), St.sizes l ≤ N → St.sizes l ≤ 1099511627776 → deep ≤ 41 → RdRows ok w 9 A 0 (St.ds l) → l.length * 144 ≤ reach →
   Calls Tryz.prog 28 #[.slice A l.length c, .int .i64 (deep : Int)] w fun e w' => e = .returned (.int .i64 (cntM l deep)) ∧ Fr Non w w' := by
  induction N with
  | zero =>
    intro l deep ok A c w hN hN2 hd hr hc
    obtain rfl : l = [] := by cases l with | nil => rfl | cons s l => cases s; simp [St.sizes, St.size] at hN
    go_enter Tryz.func28, Tryz.ntmps28
    go_wp2_with fail
    refine wp_loop_rounds 1 ?_
    rw [rounds_succ]
    go_wp2_with fail
    go_ret
    exact ⟨rfl, fr_refl _⟩
  | succ N ih =>
  intro l deep ok A c w hN hN2 hd hr hc
  have hlen : l.length ≤ 140737488355328 := by unfold reach at hc; omega
  have IH := Lib.hid ih; clear ih
  have HR := Lib.hid hr; clear hr
  have HC := Lib.hid hc; clear hc
  have HNN := Lib.hid hN; clear hN
  go_enter Tryz.func28, Tryz.ntmps28
  go_wp2_with fail
  go_loopw [5, 6] (fun t i wr => ∃ j : Nat, i = .int .i64 j ∧ t = .int .i64 (St.sizes (l.take j)) ∧ j ≤ l.length ∧ Fr Non w wr ∧ ∀ q, q < j → ∀ hq : q < l.length, St.ok l[q] deep = true) (fun _ i _ => l.length - (intOf i).toNat)
  case atStart => exact ⟨0, rfl, by simp [St.sizes], by omega, fr_refl _, fun j hj => by omega⟩
  case round =>
    obtain ⟨j, rfl, rfl, hj, hfr, hno⟩ := hrel
    have HN := Lib.hid hno; clear hno
    by_cases hlt : j < l.length
    · obtain ⟨b, o1, A1, c1, A2, c2, A3, c3, A4, c4, rfl, hb, e0, e1, e2, e3, e4, e5, e6, e7, e8, ⟨p1, q1, r1⟩, ⟨p2, q2, r2⟩, ⟨p3, q3, r3⟩, ⟨p4, q4, r4⟩⟩ := at_st (HR.out.fr hfr (fun _ _ => non _) (fun _ h => h)) j hlt
      have R1 := Lib.hid r1; clear r1
      have R2 := Lib.hid r2; clear r2
      have R3 := Lib.hid r3; clear r3
      have R4 := Lib.hid r4; clear r4
      have HQ := Lib.hid (ssize_le l j hlt)
      have HT := Lib.hid (sizes_take l j hlt)
      have HT2 := Lib.hid (sizes_take_le l (j + 1))
      have HF := Lib.hid hfr; clear hfr
      by_cases hdd : deep ≤ 40
      · go_wp2_with fail
        refine (form_any l[j] ok A1 A2 A3 A4 c1 c2 c3 c4 wr R1.out q1 R2.out q2 q3 q4).mono ?_
        rintro e w2 ⟨rfl, hf2⟩
        have x7 := ext_cell (hf2.cell' e7 (non _))
        have x8 := ext_cell (hf2.cell' e8 (non _))
        generalize hm : formM l[j] = m
        have HM := Lib.hid hm; clear hm
        clear e0 e1 e2 e3 e4 e5 e6 e7 e8
        have HF2 := Lib.hid (HF.out.trans hf2)
        have HG2 := Lib.hid hf2; clear hf2
        cases m with
        | false =>
          go_wp2_with fail
          go_ret
          exact ⟨ret_int (cnt_false (oks_false _ _ j hlt (by rw [St.ok_eq, HM.out]; simp))).symm, HF2.out⟩
        | true =>
          go_wp2_with fail
          refine wp_region_ext (by kernel_rfl) (by kernel_rfl) ?_
          repeat (go_big_quiet_step (fail))
          go_big_quiet_want
          go_big_quiet_op
          apply Exists.intro
          refine ⟨fun x => ?_, ?_⟩
          · exact calls_ext (v := .int .i64 (cntM l[j].body (deep + 1))) (IH.out l[j].body (deep + 1) ok A3 c3 _ (by have := HNN.out; have := HQ.out; rw [St.size_eq] at this; omega) (by have := HQ.out; rw [St.size_eq] at this; omega) (by omega) (R3.out.fr (HG2.out.trans (ext_fr _ _)) (fun _ _ => non _) (fun _ h => h)) q3)
          go_big_quiet_on
          repeat (go_big_quiet_step (fail))
          go_big_quiet_want
          go_big_quiet_op
          apply Exists.intro
          refine ⟨fun x => ?_, ?_⟩
          · exact calls_ext (v := .int .i64 (cntM l[j].els (deep + 1))) (IH.out l[j].els (deep + 1) ok A4 c4 _ (by have := HNN.out; have := HQ.out; rw [St.size_eq] at this; omega) (by have := HQ.out; rw [St.size_eq] at this; omega) (by omega) (R4.out.fr (HG2.out.trans (ext_fr _ _)) (fun _ _ => non _) (fun _ h => h)) q4)
          go_big_quiet_on
          repeat (go_big_quiet_step (fail))
          refine wpQuiet_nil ?_
          intro w3 hf3
          clear x7 x8
          have HF3 := Lib.hid (HF2.out.trans hf3); clear hf3
          have hs1 : St.sizes (l.take j) + 1 + St.sizes l[j].body + St.sizes l[j].els ≤ 1099511627776 := by have := HT.out; have := HT2.out; rw [St.size_eq] at *; omega
          cases hob : St.oks l[j].body (deep + 1) with
          | false =>
            rw [cnt_false hob]
            have HB := Lib.hid hob; clear hob
            go_wp2_with fail
            go_ret
            exact ⟨ret_int (cnt_false (oks_false _ _ j hlt (by rw [St.ok_eq, HB.out]; simp))).symm, HF3.out⟩
          | true =>
            rw [cnt_true hob]
            have HB := Lib.hid hob; clear hob
            cases hoe : St.oks l[j].els (deep + 1) with
            | false =>
              rw [cnt_false hoe]
              have HE := Lib.hid hoe; clear hoe
              go_wp2_with fail
              go_ret
              exact ⟨ret_int (cnt_false (oks_false _ _ j hlt (by rw [St.ok_eq, HE.out]; simp))).symm, HF3.out⟩
            | true =>
              rw [cnt_true hoe]
              have HE := Lib.hid hoe; clear hoe
              go_wp2_with fail
              go_roundw
              case rel => exact ⟨j + 1, by go_num, by rw [HT.out, St.size_eq]; congr 1; omega, by omega, HF3.out, till HN.out fun _ => by rw [St.ok_eq, HM.out, HB.out, HE.out, decide_eq_true hdd]; rfl⟩
              case measure => simp [intOf]; omega
      · go_wp2_with fail
        go_ret
        exact ⟨ret_int (cnt_false (oks_false _ _ j hlt (by rw [St.ok_eq, decide_eq_false hdd]; rfl))).symm, HF.out⟩
    · go_wp2_with fail
      go_ret
      obtain rfl : j = l.length := by omega
      rw [List.take_length]
      exact ⟨ret_int (cnt_true (oks_true _ _ fun q hq => HN.out q (by omega) hq)).symm, hfr⟩
end Go.Proofs.YtnlnejpioijkiaaGreatDoor
/- Contracts of the reference's look at a function, and May. -/
namespace Go.Proofs.YtnlnejpioijkiaaGreatDoor
open Go.RowKit
set_option linter.unusedVariables false
set_option linter.unusedSimpArgs false

def parM (x : Pa) : Bool := namedM x.name && (!x.mt || x.buf)
def fheadM (f : Fu) : Bool := namedM f.name && decide (f.params.length ≤ 8) && decide (f.ret.length ≤ 1) && f.ret.all exM && !(f.ret.length == 0 && f.sec)
def funM (f : Fu) : Bool := fheadM f && f.params.all parM

set_option maxRecDepth 4000 in
set_option maxHeartbeats 4000000 in
theorem function_any (f : Fu) (ok : Nat → Prop) (A1 A2 A3 : Option Addr) (c1 c2 c3 : Nat) (w : World) (r1 : RdRows ok w 4 A1 0 (f.params.map Pa.d)) (q1 : f.params.length * 24 ≤ reach) (r3 : RdRows ok w 5 A3 0 (Ex.ds f.ret)) (q3 : f.ret.length * 64 ≤ reach) :
   Calls Tryz.prog 29 #[.agg #[.string f.name, .slice A1 f.params.length c1, .slice A2 f.body.length c2, .bool f.sec, .slice A3 f.ret.length c3]] w fun e w' => e = .returned (.bool (funM f)) ∧ Fr Non w w' := by
  have hl1 : f.params.length ≤ 140737488355328 := by unfold reach at q1; omega
  have hl3 : f.ret.length ≤ 140737488355328 := by unfold reach at q3; omega
  have R1 := Lib.hid r1; clear r1
  have R3 := Lib.hid r3; clear r3
  have Q3 := Lib.hid q3; clear q1 q3
  go_enter Tryz.func29, Tryz.ntmps29
  go_upto_region 1 with fail
  obtain ⟨W1, HW1⟩ : ∃ W1, W1 = w.alloc (.cells #[.string f.name, .slice A1 f.params.length c1, .slice A2 f.body.length c2, .bool f.sec, .slice A3 f.ret.length c3] 44) := ⟨_, rfl⟩
  rw [← HW1]
  have hbb : W1.heap[w.heap.size]? = some (.cells #[.string f.name, .slice A1 f.params.length c1, .slice A2 f.body.length c2, .bool f.sec, .slice A3 f.ret.length c3] 44 (0, 0)) := by rw [HW1]; exact blk_new _ _ _
  have hfw : Fr Non w W1 := by rw [HW1]; exact (fr_refl w).alloc _
  clear HW1
  have HBB := Lib.hid hbb; clear hbb
  have HFW := Lib.hid hfw; clear hfw
  go_cut [0, 38] (fun v0 v wx => v = .bool (!fheadM f) ∧ Fr Non W1 wx)
  case first =>
    have g0 := (cells_of HBB.out).1 0 _ rfl
    go_wp2_with fail
    refine (named_any _ _).mono ?_
    rintro e w2 ⟨rfl, hf2⟩
    have hb2 := blk_fr HBB.out hf2 (non _)
    have g1 := (cells_of hb2).1 1 _ rfl
    have g3 := (cells_of hb2).1 3 _ rfl
    have g4 := (cells_of hb2).1 4 _ rfl
    clear g0
    have HB2 := Lib.hid hb2; clear hb2
    generalize hm : namedM f.name = m
    have HM := Lib.hid hm; clear hm
    have HF2 := Lib.hid hf2; clear hf2
    cases m with
    | false =>
      go_wp2_with fail
      go_meet
      exact ⟨congrArg Value.bool (by simp [fheadM, HM.out] <;> omega), HF2.out⟩
    | true =>
    by_cases h8 : f.params.length ≤ 8
    · by_cases h1 : f.ret.length ≤ 1
      · go_wp2_with fail
        refine (exprsM_any f.ret _ ok A3 c3 _ (R3.out.fr (HFW.out.trans HF2.out) (fun _ _ => non _) (fun _ h => h)) Q3.out).mono ?_
        rintro e w3 ⟨rfl, hf3⟩
        rw [show (f.ret.all exM && ((f.ret.length : Int) == (f.ret.length : Int))) = f.ret.all exM by simp]
        have hb3 := blk_fr HB2.out hf3 (non _)
        clear g1 g3 g4
        have g3 := (cells_of hb3).1 3 _ rfl
        have g4 := (cells_of hb3).1 4 _ rfl
        have HB3 := Lib.hid hb3; clear hb3
        generalize hm2 : f.ret.all exM = m2
        have HM2 := Lib.hid hm2; clear hm2
        have HF3 := Lib.hid (HF2.out.trans hf3); clear hf3
        cases m2 with
        | false =>
          go_wp2_with fail
          go_meet
          exact ⟨congrArg Value.bool (by simp [fheadM, HM2.out] <;> omega), HF3.out⟩
        | true =>
          by_cases hz : f.ret.length = 0
          · have HZ := Lib.hid hz
            cases hs : f.sec with
            | true =>
              rw [hs] at g3
              have HS := Lib.hid hs; clear hs
              go_wp2_with fail
              go_meet
              exact ⟨congrArg Value.bool (by simp [fheadM, HZ.out, HS.out] <;> omega), HF3.out⟩
            | false =>
              rw [hs] at g3
              have HS := Lib.hid hs; clear hs
              go_wp2_with fail
              go_meet
              exact ⟨congrArg Value.bool (by rw [fheadM, HM.out, HM2.out, decide_eq_true h8, decide_eq_true h1, HS.out]; simp; omega), HF3.out⟩
          · go_wp2_with fail
            go_meet
            exact ⟨congrArg Value.bool (by rw [fheadM, HM.out, HM2.out, decide_eq_true h8, decide_eq_true h1, show (f.ret.length == 0) = false by simpa using hz]; simp; omega), HF3.out⟩
      · go_wp2_with fail
        go_meet
        exact ⟨congrArg Value.bool (by simp [fheadM, h1] <;> omega), HF2.out⟩
    · go_wp2_with fail
      go_meet
      exact ⟨congrArg Value.bool (by simp [fheadM, h8] <;> omega), HF2.out⟩
  case rest =>
    obtain ⟨rfl, hfx⟩ := hcut
    have hbx := blk_fr HBB.out hfx (non _)
    have HBX := Lib.hid hbx; clear hbx
    have HFX := Lib.hid (HFW.out.trans hfx); clear hfx
    generalize hh : fheadM f = hd
    have HH := Lib.hid hh; clear hh
    cases hd with
    | false =>
      go_wp2_with fail
      go_ret
      exact ⟨ret_bool (by rw [funM, HH.out]; rfl), HFX.out⟩
    | true =>
      rw [show (!true) = false from rfl]
      go_wp2_with fail
      go_loopw [3] (fun i wr => ∃ j : Nat, i = .int .i64 j ∧ j ≤ f.params.length ∧ Fr Non wc wr ∧ ∀ q, q < j → ∀ hq : q < f.params.length, parM f.params[q] = true) (fun i _ => f.params.length - (intOf i).toNat)
      case atStart => exact ⟨0, rfl, by omega, fr_refl _, fun j hj => by omega⟩
      case round =>
        obtain ⟨j, rfl, hj, hfr, hno⟩ := hrel
        have HN := Lib.hid hno; clear hno
        have hbr := blk_fr HBX.out hfr (non _)
        have g1 := (cells_of hbr).1 1 _ rfl
        have HBR := Lib.hid hbr; clear hbr
        by_cases hlt : j < f.params.length
        · obtain ⟨b, o1, rfl, hb, e0, e1, e2, e3⟩ := at_pa (R1.out.fr (HFX.out.trans hfr) (fun _ _ => non _) (fun _ h => h)) j hlt
          have HF := Lib.hid hfr; clear hfr
          go_wp2_with fail
          refine (named_any _ _).mono ?_
          rintro e w2 ⟨rfl, hf2⟩
          have g1' := (cells_of (blk_fr HBR.out hf2 (non _))).1 1 _ rfl
          have e1' := hf2.cell' e1 (non _)
          have e3' := hf2.cell' e3 (non _)
          clear g1 e0 e1 e2 e3
          generalize hm : namedM f.params[j].name = m
          have HM := Lib.hid hm; clear hm
          have HF2 := Lib.hid (HF.out.trans hf2); clear hf2
          cases m with
          | false =>
            go_wp2_with fail
            go_ret
            exact ⟨ret_bool (by rw [funM, HH.out, all_false_of (p := parM) j hlt (by simp [parM, HM.out])]; rfl), HFX.out.trans HF2.out⟩
          | true =>
            cases hmt : f.params[j].mt with
            | false =>
              rw [hmt] at e3'
              have HMT := Lib.hid hmt; clear hmt
              go_wp2_with fail
              go_roundw
              case rel => exact ⟨j + 1, by go_num, by omega, HF2.out, till HN.out fun _ => by simp [parM, HM.out, HMT.out]⟩
              case measure => simp [intOf]; omega
            | true =>
              rw [hmt] at e3'
              have HMT := Lib.hid hmt; clear hmt
              cases hbf : f.params[j].buf with
              | true =>
                rw [hbf] at e1'
                have HBF := Lib.hid hbf; clear hbf
                go_wp2_with fail
                go_roundw
                case rel => exact ⟨j + 1, by go_num, by omega, HF2.out, till HN.out fun _ => by simp [parM, HM.out, HMT.out, HBF.out]⟩
                case measure => simp [intOf]; omega
              | false =>
                rw [hbf] at e1'
                have HBF := Lib.hid hbf; clear hbf
                go_wp2_with fail
                go_ret
                exact ⟨ret_bool (by rw [funM, HH.out, all_false_of (p := parM) j hlt (by simp [parM, HMT.out, HBF.out])]; rfl), HFX.out.trans HF2.out⟩
        · have HF := Lib.hid hfr; clear hfr
          go_wp2_with fail
          go_ret
          exact ⟨ret_bool (by rw [funM, HH.out, all_true_of (p := parM) (l := f.params) fun q hq => HN.out q (by omega) hq]; rfl), HFX.out.trans HF.out⟩

def Fu.size (f : Fu) : Nat := St.sizes f.body
def Fu.sizes : List Fu → Nat
  | [] => 0
  | f :: l => f.size + Fu.sizes l
theorem fsizes_take (l : List Fu) (j : Nat) (h : j < l.length) : Fu.sizes (l.take (j + 1)) = Fu.sizes (l.take j) + St.sizes l[j].body := by
  induction l generalizing j with
  | nil => simp at h
  | cons e l ih =>
    cases j with
    | zero => simp [Fu.sizes, Fu.size]
    | succ j => have := ih j (by simpa using h); simp [Fu.sizes] at this ⊢; omega
theorem fsizes_take_le (l : List Fu) (j : Nat) : Fu.sizes (l.take j) ≤ Fu.sizes l := by
  induction l generalizing j with
  | nil => simp [Fu.sizes]
  | cons e l ih =>
    cases j with
    | zero => simp [Fu.sizes]
    | succ j => have := ih j; simp [Fu.sizes]; omega
theorem fsize_le : ∀ (l : List Fu) (k : Nat) (h : k < l.length), St.sizes l[k].body ≤ Fu.sizes l
  | e :: l, 0, _ => by simp [Fu.sizes, Fu.size]
  | e :: l, k + 1, h => by have := fsize_le l k (by simpa using h); simp [Fu.sizes]; omega
def okF (f : Fu) : Bool := St.oks f.body 1 && funM f
def mayM (l : List Fu) : Bool := l.all okF && (decide (l.length ≤ 16) && decide (Fu.sizes l ≤ 400))

set_option maxRecDepth 4000 in
set_option maxHeartbeats 4000000 in
theorem mayP_any (l : List Fu) (ok : Nat → Prop) (A : Option Addr) (c : Nat) (w : World) (hr : RdRows ok w 5 A 0 (l.map Fu.d)) (hc : l.length * 96 ≤ reach) (hs : Fu.sizes l ≤ 1099511627776) :
   Calls Tryz.prog 12 #[.agg #[.slice A l.length c]] w fun e w' => e = .returned (.bool (mayM l)) ∧ Fr Non w w' := by
  have hlen : l.length ≤ 140737488355328 := by unfold reach at hc; omega
  have HR := Lib.hid hr; clear hr
  go_enter Tryz.func12, Tryz.ntmps12
  go_wp2_with fail
  obtain ⟨W1, HW1⟩ : ∃ W1, W1 = w.alloc (.cells #[.slice A l.length c] 24) := ⟨_, rfl⟩
  rw [← HW1]
  have hbb : W1.heap[w.heap.size]? = some (.cells #[.slice A l.length c] 24 (0, 0)) := by rw [HW1]; exact blk_new _ _ _
  have hfw : Fr Non w W1 := by rw [HW1]; exact (fr_refl w).alloc _
  clear HW1
  have HBB := Lib.hid hbb; clear hbb
  have HFW := Lib.hid hfw; clear hfw
  go_loopw [3, 4] (fun t i wr => ∃ j : Nat, i = .int .i64 j ∧ t = .int .i64 (Fu.sizes (l.take j)) ∧ j ≤ l.length ∧ Fr Non W1 wr ∧ ∀ q, q < j → ∀ hq : q < l.length, okF l[q] = true) (fun _ i _ => l.length - (intOf i).toNat)
  case atStart => exact ⟨0, rfl, by simp [Fu.sizes], by omega, fr_refl _, fun j hj => by omega⟩
  case round =>
    obtain ⟨j, rfl, rfl, hj, hfr, hno⟩ := hrel
    have HN := Lib.hid hno; clear hno
    have hbr := blk_fr HBB.out hfr (non _)
    have g0 := (cells_of hbr).1 0 _ rfl
    have HBR := Lib.hid hbr; clear hbr
    by_cases hlt : j < l.length
    · obtain ⟨b, o1, A1, c1, A2, c2, A3, c3, rfl, hb, e0, e1, e2, e3, e4, ⟨p1, q1, r1⟩, ⟨p2, q2, r2⟩, ⟨p3, q3, r3⟩⟩ := at_fu (HR.out.fr (HFW.out.trans hfr) (fun _ _ => non _) (fun _ h => h)) j hlt
      have R1 := Lib.hid r1; clear r1
      have R2 := Lib.hid r2; clear r2
      have R3 := Lib.hid r3; clear r3
      have HF := Lib.hid hfr; clear hfr
      have HQ := Lib.hid (fsize_le l j hlt)
      have HT := Lib.hid (fsizes_take l j hlt)
      have HT2 := Lib.hid (fsizes_take_le l (j + 1))
      go_wp2_with fail
      refine (count_any (St.sizes l[j].body) l[j].body 1 ok A2 c2 wr (Nat.le_refl _) (by have := HQ.out; omega) (by omega) R2.out q2).mono ?_
      rintro e w2 ⟨rfl, hf2⟩
      have g0' := (cells_of (blk_fr HBR.out hf2 (non _))).1 0 _ rfl
      have e0' := hf2.cell' e0 (non _)
      have e1' := hf2.cell' e1 (non _)
      have e2' := hf2.cell' e2 (non _)
      have e3' := hf2.cell' e3 (non _)
      have e4' := hf2.cell' e4 (non _)
      clear g0 e0 e1 e2 e3 e4
      have HF2 := Lib.hid (HF.out.trans hf2)
      have HG2 := Lib.hid hf2; clear hf2
      have hs1 : Fu.sizes (l.take j) + St.sizes l[j].body ≤ 1099511627776 := by have := HT.out; have := HT2.out; omega
      cases hob : St.oks l[j].body 1 with
      | false =>
        rw [cnt_false hob]
        have HB := Lib.hid hob; clear hob
        go_wp2_with fail
        go_ret
        exact ⟨ret_bool (by rw [mayM, all_false_of (p := okF) j hlt (by simp [okF, HB.out])]; rfl), HFW.out.trans HF2.out⟩
      | true =>
        rw [cnt_true hob]
        have HB := Lib.hid hob; clear hob
        go_wp2_with fail
        refine (function_any l[j] ok A1 A2 A3 c1 c2 c3 w2 (R1.out.fr HG2.out (fun _ _ => non _) (fun _ h => h)) q1 (R3.out.fr HG2.out (fun _ _ => non _) (fun _ h => h)) q3).mono ?_
        rintro e w3 ⟨rfl, hf3⟩
        clear g0' e0' e1' e2' e3' e4'
        generalize hm : funM l[j] = m
        have HM := Lib.hid hm; clear hm
        have HF3 := Lib.hid (HF2.out.trans hf3); clear hf3
        cases m with
        | false =>
          go_wp2_with fail
          go_ret
          exact ⟨ret_bool (by rw [mayM, all_false_of (p := okF) j hlt (by simp [okF, HM.out])]; rfl), HFW.out.trans HF3.out⟩
        | true =>
          go_wp2_with fail
          go_roundw
          case rel => exact ⟨j + 1, by go_num, by rw [HT.out]; congr 1 <;> omega, by omega, HF3.out, till HN.out fun _ => by simp [okF, HM.out, HB.out]⟩
          case measure => simp [intOf]; omega
    · obtain rfl : j = l.length := by omega
      have HA := Lib.hid (all_true_of (p := okF) (l := l) fun q hq => HN.out q (by omega) hq)
      have HF := Lib.hid hfr; clear hfr
      rw [List.take_length]
      by_cases h16 : l.length ≤ 16
      · go_wp2_with fail
        go_ret
        exact ⟨ret_bool (by rw [mayM, HA.out]; try (rw [Bool.eq_iff_iff]; simp <;> omega)), HFW.out.trans HF.out⟩
      · go_wp2_with fail
        go_ret
        exact ⟨ret_bool (by rw [mayM, HA.out]; try (rw [Bool.eq_iff_iff]; simp <;> omega)), HFW.out.trans HF.out⟩
end Go.Proofs.YtnlnejpioijkiaaGreatDoor
/- The reference's walker: its state in memory, and contracts of its small methods. -/
namespace Go.Proofs.YtnlnejpioijkiaaGreatDoor
open Go.RowKit
set_option linter.unusedVariables false
set_option linter.unusedSimpArgs false

structure Va where
  name : ByteArray
  buf : Bool
  sec : Bool
  mt : Bool
  own : Bool
  set : Bool
  gone : Bool
  lent : Int
  loops : Int
def Va.cells (v : Va) : List Value := [.string v.name, .bool v.buf, .bool v.sec, .bool v.mt, .bool v.own, .bool v.set, .bool v.gone, .int .i64 v.lent, .int .i64 v.loops]
def Va.zero : Va := ⟨⟨#[]⟩, false, false, false, false, false, false, 0, 0⟩
def Va.v (v : Va) : Value := .agg #[.string v.name, .bool v.buf, .bool v.sec, .bool v.mt, .bool v.own, .bool v.set, .bool v.gone, .int .i64 v.lent, .int .i64 v.loops]
def vasC (l : List Va) : List Value := l.flatMap Va.cells
structure Wk where
  env : List Va
  given : List ByteArray
  n : Int
  fat : Int
  ferr : Int
  loops : Int
  f : Int

/-- A walker that lies in block b, and rows of its own. -/
structure WkAt (base b : Nat) (PV : Value) (ru : Int) (w : World) (s : Wk) (ve vg : Value) : Prop where
  blk : w.heap[b]? = some (.cells #[PV, .int .i64 s.f, ve, vg, .int .i64 s.n, .int .i64 s.fat, .int .i64 s.ferr, .int .i64 ru, .int .i64 s.loops] 70 (0, 0))
  env : w.ownsRow base 148 9 ve s.env.length (vasC s.env)
  giv : w.ownsRow base 9 1 vg s.given.length (s.given.map Value.string)
  be : ve.ownBlock ≠ some b
  bg : vg.ownBlock ≠ some b
  eg : ∀ k, ve.ownBlock = some k → vg.ownBlock ≠ some k
  hb : base ≤ b
theorem row_fr {base : Nat} {e : TypeId} {sz : Nat} {w w' : World} {v : Value} {n : Nat} {xs : List Value} {S : Nat → Prop} (h : w.ownsRow base e sz v n xs) (hf : Fr S w w') (hs : ∀ k, v.ownBlock = some k → ¬ S k) : w'.ownsRow base e sz v n xs := by
  obtain ⟨h1, h2⟩ := h
  refine ⟨h1, ?_⟩
  rcases h2 with h2 | ⟨g, cap, cur, hv, hb, hh, r⟩
  · exact .inl h2
  · exact .inr ⟨g, cap, cur, hv, hb, by rw [hf.block g (Array.getElem?_eq_some_iff.1 hh).1 (hs g (by rw [hv]; rfl))]; exact hh, r⟩
theorem row_slice {base : Nat} {e : TypeId} {sz : Nat} {w : World} {v : Value} {n : Nat} {xs : List Value} (h : w.ownsRow base e sz v n xs) : ∃ A c, v = .slice A n c ∧ n ≤ c := by
  rcases h.2 with ⟨rfl, h2⟩ | ⟨g, cap, cur, hv, hb, hh, h3, _⟩
  · exact ⟨none, 0, by rw [h2], by omega⟩
  · exact ⟨_, cap, hv, h3⟩
/-- The cells of a row that has elements. -/
theorem row_at {base : Nat} {e : TypeId} {sz : Nat} {w : World} {A : Option Addr} {c n : Nat} {xs : List Value} (h : w.ownsRow base e sz (.slice A n c) n xs) (hn : 0 < n) : ∃ g, A = some ⟨g, 0, none⟩ ∧ base ≤ g ∧ ∀ i u, xs[i]? = some u → w.cell? ⟨g, i, none⟩ = some u ∧ w.frozen? ⟨g, i, none⟩ = false := by
  have h' := h
  rcases h.2 with ⟨_, h2⟩ | ⟨g, cap, cur, hv, hb, hh, h3, _⟩
  · omega
  · cases hv
    refine ⟨g, rfl, hb, fun i u hu => ⟨?_, (cells_of hh).2 i⟩⟩
    have := h'.cells (g := g) rfl i u hu
    simpa [Addr.add_lit] using this
theorem row_set {base : Nat} {e : TypeId} {sz : Nat} {w : World} {g c n : Nat} {xs : List Value} (h : w.ownsRow base e sz (.slice (some ⟨g, 0, none⟩) n c) n xs) (i : Nat) (u : Value) (hi : i < xs.length) : (w.setCell ⟨g, i, none⟩ u).ownsRow base e sz (.slice (some ⟨g, 0, none⟩) n c) n (xs.set i u) := by
  obtain ⟨h1, h2⟩ := h
  refine ⟨by simpa using h1, ?_⟩
  rcases h2 with ⟨h2, _⟩ | ⟨g', cap, cur, hv, hb, hh, h3, h4, h5, h6⟩
  · cases h2
  · cases hv
    refine .inr ⟨g, c, cur.setIfInBounds i u, rfl, hb, blk_set hh i u, h3, h4, by simpa using h5, ?_⟩
    rw [← h6, Array.toList_setIfInBounds, List.take_set]
theorem vas_at : ∀ (l : List Va) (j : Nat) (hj : j < l.length) (i : Nat), i < 9 → (vasC l)[j * 9 + i]? = (l[j].cells)[i]?
  | v :: l, 0, _, i, hi => by
    simp only [vasC, List.flatMap_cons, Nat.zero_mul, Nat.zero_add, List.getElem_cons_zero]
    rw [List.getElem?_append_left (by simpa [Va.cells] using hi)]
  | v :: l, j + 1, hj, i, hi => by
    have := vas_at l j (by simpa using hj) i hi
    simp only [vasC, List.flatMap_cons, List.getElem_cons_succ] at this ⊢
    rw [List.getElem?_append_right (by simp [Va.cells]; omega), ← this]
    congr 1
    simp [Va.cells]; omega
theorem vas_len (l : List Va) : (vasC l).length = l.length * 9 := by
  induction l with
  | nil => rfl
  | cons v l ih => rw [vasC, List.flatMap_cons, List.length_append, show (l.flatMap Va.cells).length = _ from ih, List.length_cons, Nat.succ_mul, Nat.add_comm]; rfl
theorem vas_set : ∀ (l : List Va) (j : Nat) (x : Va), j < l.length → ((((((((((vasC l).set (j * 9) (.string x.name)).set (j * 9 + 1) (.bool x.buf)).set (j * 9 + 2) (.bool x.sec)).set (j * 9 + 3) (.bool x.mt)).set (j * 9 + 4) (.bool x.own)).set (j * 9 + 5) (.bool x.set)).set (j * 9 + 6) (.bool x.gone)).set (j * 9 + 7) (.int .i64 x.lent)).set (j * 9 + 8) (.int .i64 x.loops)) = vasC (l.set j x)
  | v :: l, 0, x, _ => rfl
  | v :: l, j + 1, x, hj => by
    have ih := vas_set l j x (by simpa using hj)
    rw [List.set_cons_succ]
    show _ = v.cells ++ vasC (l.set j x)
    rw [← ih]
    show ((((((((((v.cells ++ vasC l).set ((j + 1) * 9) _).set _ _).set _ _).set _ _).set _ _).set _ _).set _ _).set _ _).set _ _) = _
    have hl : v.cells.length = 9 := rfl
    repeat rw [List.set_append_right _ _ (by omega)]
    have e0 : (j + 1) * 9 - v.cells.length = j * 9 := by omega
    rw [e0]
    congr 10 <;> omega
theorem WkAt.with {base b : Nat} {PV : Value} {ru : Int} {w w' : World} {s s' : Wk} {ve vg : Value} (h : WkAt base b PV ru w s ve vg) (hf : Fr (fun k => k = b) w w')
    (hb : w'.heap[b]? = some (.cells #[PV, .int .i64 s'.f, ve, vg, .int .i64 s'.n, .int .i64 s'.fat, .int .i64 s'.ferr, .int .i64 ru, .int .i64 s'.loops] 70 (0, 0))) (he : s'.env = s.env) (hg : s'.given = s.given) : WkAt base b PV ru w' s' ve vg :=
  ⟨hb, by rw [he]; exact row_fr h.env hf (fun k hk e => h.be (by rw [hk, e])), by rw [hg]; exact row_fr h.giv hf (fun k hk e => h.bg (by rw [hk, e])), h.be, h.bg, h.eg, h.hb⟩
/-- The blocks that a walker's method may write. -/
def WS (b : Nat) (ve vg : Value) (k : Nat) : Prop := k = b ∨ ve.ownBlock = some k ∨ vg.ownBlock = some k
/-- What a walker's method leaves: the state s', somewhere. -/
def Stp (base b : Nat) (PV : Value) (ru : Int) (w : World) (ve vg : Value) (w' : World) (s' : Wk) : Prop :=
  ∃ ve' vg', WkAt base b PV ru w' s' ve' vg' ∧ Fr (WS b ve vg) w w' ∧ ∀ k, WS b ve' vg' k → WS b ve vg k ∨ w.heap.size ≤ k
theorem WkAt.stay {base b : Nat} {PV : Value} {ru : Int} {w w' : World} {s : Wk} {ve vg : Value} (h : WkAt base b PV ru w s ve vg) (hf : Fr Non w w') : WkAt base b PV ru w' s ve vg :=
  ⟨blk_fr h.blk hf (non _), ownsRow_fr h.env hf (fun _ _ => non _), ownsRow_fr h.giv hf (fun _ _ => non _), h.be, h.bg, h.eg, h.hb⟩
theorem Stp.self {base b : Nat} {PV : Value} {ru : Int} {w w' : World} {s : Wk} {ve vg : Value} (h : WkAt base b PV ru w s ve vg) (hf : Fr Non w w') : Stp base b PV ru w ve vg w' s :=
  ⟨ve, vg, h.stay hf, hf.mono (fun k _ h => by cases h), fun k h => .inl h⟩
theorem WkAt.lt {base b : Nat} {PV : Value} {ru : Int} {w : World} {s : Wk} {ve vg : Value} (h : WkAt base b PV ru w s ve vg) : ∀ k, WS b ve vg k → base ≤ k ∧ k < w.heap.size := fun k hk => by
  rcases hk with rfl | hk | hk
  · exact ⟨h.hb, blk_lt h.blk⟩
  · exact h.env.lt k hk
  · exact h.giv.lt k hk
theorem Stp.then {base b : Nat} {PV : Value} {ru : Int} {w w1 w2 : World} {s' : Wk} {ve vg ve1 vg1 : Value} (hf : Fr (WS b ve vg) w w1) (hn : ∀ k, WS b ve1 vg1 k → WS b ve vg k ∨ w.heap.size ≤ k) (h : Stp base b PV ru w1 ve1 vg1 w2 s') : Stp base b PV ru w ve vg w2 s' := by
  obtain ⟨ve2, vg2, h1, h2, h3⟩ := h
  refine ⟨ve2, vg2, h1, ⟨h2.os.trans hf.os, h2.tape.trans hf.tape, h2.output.trans hf.output, Nat.le_trans hf.size h2.size, fun k hk hs => ?_⟩, fun k hk => ?_⟩
  · rw [h2.block k (Nat.lt_of_lt_of_le hk hf.size) fun h => ?_, hf.block k hk hs]
    rcases hn k h with h | h
    · exact hs h
    · omega
  · rcases h3 k hk with h | h
    · exact hn k h
    · exact .inr (Nat.le_trans hf.size h)
def Wk.fine (s : Wk) : Bool := s.ferr == 0
def Wk.bad (ru : Int) (s : Wk) (r : Int) (is : Bool) (e : Int) : Wk := if is && r == ru && s.fine then { s with fat := s.n, ferr := e } else s

theorem fine_any (base b : Nat) (PV : Value) (ru : Int) (w : World) (s : Wk) (ve vg : Value) (h : WkAt base b PV ru w s ve vg) :
   Calls Tryz.prog 25 #[.pointer (some ⟨b, 0, none⟩)] w fun e w' => e = .returned (.bool s.fine) ∧ w = w' := by
  have b6 := (cells_of h.blk).1 6 _ rfl
  have H := Lib.hid h; clear h
  go_enter Tryz.func25, Tryz.ntmps25
  go_wp2_with fail
  go_ret
  exact ⟨rfl, rfl⟩

set_option maxHeartbeats 1000000 in
theorem bad_any (base b : Nat) (PV : Value) (ru : Int) (w : World) (s : Wk) (ve vg : Value) (r : Int) (is : Bool) (er : Int) (h : WkAt base b PV ru w s ve vg) :
   Calls Tryz.prog 73 #[.pointer (some ⟨b, 0, none⟩), .int .i64 r, .bool is, .int .i64 er] w fun e w' => e = .returned (.tuple #[]) ∧ Fr (fun k => k = b) w w' ∧ WkAt base b PV ru w' (s.bad ru r is er) ve vg := by
  have b7 := (cells_of h.blk).1 7 _ rfl
  have b4 := (cells_of h.blk).1 4 _ rfl
  have b5 := (cells_of h.blk).1 5 _ rfl
  have b6 := (cells_of h.blk).1 6 _ rfl
  have bf := (cells_of h.blk).2
  have H := Lib.hid h; clear h
  cases is with
  | false =>
    go_enter Tryz.func73, Tryz.ntmps73
    go_wp2_with fail
    go_end0
    exact ⟨rfl, Fr.refl _ _, H.out⟩
  | true =>
    by_cases hr : r = ru
    · have hr' : (r == ru) = true := by simp [hr]
      have HR := Lib.hid hr'; clear hr
      go_enter Tryz.func73, Tryz.ntmps73
      go_wp2_with fail
      refine (fine_any base b PV ru w s ve vg H.out).mono ?_
      rintro e w1 ⟨rfl, rfl⟩
      generalize hf : s.fine = f
      have HF := Lib.hid hf; clear hf
      cases f with
      | false =>
        go_wp2_with fail
        go_end0
        exact ⟨rfl, Fr.refl _ _, by rw [Wk.bad, HF.out]; simpa using H.out⟩
      | true =>
        go_wp2_with fail
        go_end0
        have hf : Fr (fun k => k = b) w ((w.setCell ⟨b, 5, none⟩ (.int .i64 s.n)).setCell ⟨b, 6, none⟩ (.int .i64 er)) := (((Fr.refl (fun k => k = b) w).setCell ⟨b, 5, none⟩ _ (.inl rfl)).setCell ⟨b, 6, none⟩ _ (.inl rfl))
        refine ⟨rfl, hf, ?_⟩
        rw [Wk.bad, HF.out, HR.out]
        exact H.out.with hf (blk_set (blk_set H.out.blk 5 _) 6 _) rfl rfl
    · have hr' : (r == ru) = false := by simp [hr]
      have HR := Lib.hid hr'; clear hr
      go_enter Tryz.func73, Tryz.ntmps73
      go_wp2_with fail
      go_end0
      exact ⟨rfl, Fr.refl _ _, by rw [Wk.bad, HR.out]; simpa using H.out⟩

theorem strs_at {l : List ByteArray} (j : Nat) (hj : j < l.length) : (l.map Value.string)[j]? = some (.string l[j]) := by simp [hj]
theorem in10_any (base e : Nat) (A : Option Addr) (c : Nat) (l : List ByteArray) (s : ByteArray) (w : World) (h : w.ownsRow base e 1 (.slice A l.length c) l.length (l.map Value.string)) (hc : l.length ≤ 140737488355328) :
    Calls Tryz.prog 107 #[.slice A l.length c, .string s] w fun e w' => e = .returned (.bool (inM l s)) ∧ w = w' := by
  have H := Lib.hid h; clear h
  go_enter Tryz.func107, Tryz.ntmps107
  go_wp2_with fail
  go_loop [5] (fun i => ∃ k : Nat, i = .int .i64 k ∧ k ≤ l.length ∧ ∀ j, j < k → ∀ hj : j < l.length, sq l[j] s = false) (fun i => l.length - (intOf i).toNat)
  case atStart => exact ⟨0, rfl, by omega, fun j hj => by omega⟩
  case round =>
    obtain ⟨k, rfl, hk, hno⟩ := hrel
    have HN := Lib.hid hno; clear hno
    by_cases hlt : k < l.length
    · obtain ⟨g, rfl, hg, hcell⟩ := row_at H.out (by omega)
      have h0 := (hcell k _ (strs_at k hlt)).1
      have HC := Lib.hid hcell; clear hcell
      cases hq : sq l[k] s with
      | true =>
        have hq' := hq; rw [← tosq] at hq'
        have HQ := Lib.hid hq; clear hq
        go_wp2_with fail
        go_ret
        exact ⟨ret_bool (any_true_of k hlt HQ.out).symm, rfl⟩
      | false =>
        have hq' := hq; rw [← tosq] at hq'
        have HQ := Lib.hid hq; clear hq
        go_wp2_with fail
        go_round
        case rel => exact ⟨k + 1, by go_num, by omega, till HN.out fun _ => HQ.out⟩
        case measure => simp [intOf]; omega
    · go_wp2_with fail
      go_ret
      exact ⟨ret_bool (any_false_of fun j hj => HN.out j (by omega) hj).symm, rfl⟩

theorem va_cells {w : World} {g : Nat} {l : List Va} (h : ∀ i u, (vasC l)[i]? = some u → w.cell? ⟨g, i, none⟩ = some u ∧ w.frozen? ⟨g, i, none⟩ = false) (k : Nat) (hk : k < l.length) :
    (w.cell? ⟨g, k * 9, none⟩ = some (.string l[k].name) ∧ w.cell? ⟨g, k * 9 + 1, none⟩ = some (.bool l[k].buf) ∧ w.cell? ⟨g, k * 9 + 2, none⟩ = some (.bool l[k].sec) ∧ w.cell? ⟨g, k * 9 + 3, none⟩ = some (.bool l[k].mt) ∧
     w.cell? ⟨g, k * 9 + 4, none⟩ = some (.bool l[k].own) ∧ w.cell? ⟨g, k * 9 + 5, none⟩ = some (.bool l[k].set) ∧ w.cell? ⟨g, k * 9 + 6, none⟩ = some (.bool l[k].gone) ∧ w.cell? ⟨g, k * 9 + 7, none⟩ = some (.int .i64 l[k].lent) ∧
     w.cell? ⟨g, k * 9 + 8, none⟩ = some (.int .i64 l[k].loops)) ∧ w.frozen? ⟨g, k * 9, none⟩ = false ∧ (∀ i, i < 9 → w.frozen? ⟨g, k * 9 + i, none⟩ = false) := by
  have hx := fun i hi => vas_at l k hk i hi
  refine ⟨⟨(h _ _ (hx 0 (by omega))).1, (h _ _ (hx 1 (by omega))).1, (h _ _ (hx 2 (by omega))).1, (h _ _ (hx 3 (by omega))).1, (h _ _ (hx 4 (by omega))).1, (h _ _ (hx 5 (by omega))).1, (h _ _ (hx 6 (by omega))).1, (h _ _ (hx 7 (by omega))).1, (h _ _ (hx 8 (by omega))).1⟩, (h _ _ (hx 0 (by omega))).2, fun i hi => ?_⟩
  have hz : i < (l[k].cells).length := hi
  exact (h _ _ ((hx i hi).trans (List.getElem?_eq_getElem hz))).2
def Wk.find (s : Wk) (nm : ByteArray) : Option Va := s.env.find? fun v => sq v.name nm
def foundV (o : Option Va) : Value := .tuple #[(o.getD Va.zero).v, .bool o.isSome]
theorem find_some {l : List Va} {nm : ByteArray} (k : Nat) (hk : k < l.length) (hq : sq l[k].name nm = true) (hno : ∀ j, j < k → ∀ hj : j < l.length, sq l[j].name nm = false) : (l.find? fun v => sq v.name nm) = some l[k] := by
  induction l generalizing k with
  | nil => simp at hk
  | cons v l ih =>
    cases k with
    | zero => simp at hq; simp [hq]
    | succ k =>
      have h0 := hno 0 (by omega) (by simp)
      simp at h0
      rw [List.find?_cons_of_neg (by simp [h0])]
      exact ih k (by simpa using hk) (by simpa using hq) fun j hj hj' => by have := hno (j + 1) (by omega) (by simpa using hj'); simpa using this
theorem find_none {l : List Va} {nm : ByteArray} (hno : ∀ j, ∀ hj : j < l.length, sq l[j].name nm = false) : (l.find? fun v => sq v.name nm) = none := by
  rw [List.find?_eq_none]
  intro v hv
  obtain ⟨j, hj, rfl⟩ := List.mem_iff_getElem.1 hv
  simp [hno j hj]

set_option maxRecDepth 4000 in
set_option maxHeartbeats 2000000 in
theorem Find_any (base b : Nat) (PV : Value) (ru : Int) (w : World) (s : Wk) (ve vg : Value) (nm : ByteArray) (h : WkAt base b PV ru w s ve vg) (hc : s.env.length ≤ 1099511627776) :
   Calls Tryz.prog 108 #[.pointer (some ⟨b, 0, none⟩), .string nm] w fun e w' => e = .returned (foundV (s.find nm)) ∧ Fr Non w w' := by
  obtain ⟨A, c, rfl, hlc⟩ := row_slice h.env
  have hb2 := blk_fr h.blk ((fr_refl w).alloc (.cells #[.string ⟨#[]⟩, .bool false, .bool false, .bool false, .bool false, .bool false, .bool false, .int .i64 0, .int .i64 0] 148)) (non _)
  have henv := row_fr h.env ((fr_refl w).alloc (.cells #[.string ⟨#[]⟩, .bool false, .bool false, .bool false, .bool false, .bool false, .bool false, .int .i64 0, .int .i64 0] 148)) (fun _ _ => non _)
  have b2 := (cells_of hb2).1 2 _ rfl
  have HB := Lib.hid hb2; clear hb2
  have HE := Lib.hid henv; clear henv
  have H := Lib.hid h; clear h
  go_enter Tryz.func108, Tryz.ntmps108
  go_wp2_with fail
  go_loop [6] (fun i => ∃ k : Nat, i = .int .i64 k ∧ k ≤ s.env.length ∧ ∀ j, j < k → ∀ hj : j < s.env.length, sq s.env[j].name nm = false) (fun i => s.env.length - (intOf i).toNat)
  case atStart => exact ⟨0, rfl, by omega, fun j hj => by omega⟩
  case round =>
    obtain ⟨k, rfl, hk, hno⟩ := hrel
    have HN := Lib.hid hno; clear hno
    by_cases hlt : k < s.env.length
    · obtain ⟨g, rfl, hg, hcell⟩ := row_at HE.out (by omega)
      obtain ⟨⟨v0, v1, v2, v3, v4, v5, v6, v7, v8⟩, _⟩ := va_cells hcell k hlt
      have HC := Lib.hid hcell; clear hcell
      cases hq : sq s.env[k].name nm with
      | true =>
        have hq' := hq; rw [← tosq] at hq'
        have HQ := Lib.hid hq; clear hq
        go_wp2_with fail
        refine bodyPost_ret (v := .tuple #[s.env[k].v, .bool true]) ?_ rfl ?_
        · simp [results, Tryz.results108, go_sem] <;> rfl
        · refine ⟨by rw [Wk.find, find_some k hlt HQ.out HN.out]; rfl, ?_⟩
          first
            | exact (fr_refl w).alloc _
            | exact ((((((((((fr_refl w).alloc _).setCell _ _ (.inr (Nat.le_refl _))).setCell _ _ (.inr (Nat.le_refl _))).setCell _ _ (.inr (Nat.le_refl _))).setCell _ _ (.inr (Nat.le_refl _))).setCell _ _ (.inr (Nat.le_refl _))).setCell _ _ (.inr (Nat.le_refl _))).setCell _ _ (.inr (Nat.le_refl _))).setCell _ _ (.inr (Nat.le_refl _))).setCell _ _ (.inr (Nat.le_refl _))
      | false =>
        have hq' := hq; rw [← tosq] at hq'
        have HQ := Lib.hid hq; clear hq
        go_wp2_with fail
        go_round
        case rel => exact ⟨k + 1, by go_num, by omega, till HN.out fun _ => HQ.out⟩
        case measure => simp [intOf]; omega
    · go_wp2_with fail
      refine bodyPost_ret (v := .tuple #[Va.zero.v, .bool false]) ?_ rfl ?_
      · simp [results, Tryz.results108, go_sem] <;> rfl
      · refine ⟨by rw [Wk.find, find_none fun j hj => HN.out j (by omega) hj]; rfl, ?_⟩
        first
          | exact (fr_refl w).alloc _
          | exact ((((((((((fr_refl w).alloc _).setCell _ _ (.inr (Nat.le_refl _))).setCell _ _ (.inr (Nat.le_refl _))).setCell _ _ (.inr (Nat.le_refl _))).setCell _ _ (.inr (Nat.le_refl _))).setCell _ _ (.inr (Nat.le_refl _))).setCell _ _ (.inr (Nat.le_refl _))).setCell _ _ (.inr (Nat.le_refl _))).setCell _ _ (.inr (Nat.le_refl _))).setCell _ _ (.inr (Nat.le_refl _))

end Go.Proofs.YtnlnejpioijkiaaGreatDoor
/- Contracts of the reference's walker: what is known of names. -/
namespace Go.Proofs.YtnlnejpioijkiaaGreatDoor
open Go.RowKit
set_option linter.unusedVariables false
set_option linter.unusedSimpArgs false
theorem row_put {base e g c n : Nat} {w : World} {l : List Va} (h : w.ownsRow base e 9 (.slice (some ⟨g, 0, none⟩) n c) n (vasC l)) (k : Nat) (hk : k < l.length) (x : Va) :
    (((((((((w.setCell ⟨g, k * 9, none⟩ (.string x.name)).setCell ⟨g, k * 9 + 1, none⟩ (.bool x.buf)).setCell ⟨g, k * 9 + 2, none⟩ (.bool x.sec)).setCell ⟨g, k * 9 + 3, none⟩ (.bool x.mt)).setCell ⟨g, k * 9 + 4, none⟩ (.bool x.own)).setCell ⟨g, k * 9 + 5, none⟩ (.bool x.set)).setCell ⟨g, k * 9 + 6, none⟩ (.bool x.gone)).setCell ⟨g, k * 9 + 7, none⟩ (.int .i64 x.lent)).setCell ⟨g, k * 9 + 8, none⟩ (.int .i64 x.loops)).ownsRow base e 9 (.slice (some ⟨g, 0, none⟩) n c) n (vasC (l.set k x)) := by
  have hl := vas_len l
  rw [← vas_set l k x hk]
  refine row_set (row_set (row_set (row_set (row_set (row_set (row_set (row_set (row_set h _ _ ?_) _ _ ?_) _ _ ?_) _ _ ?_) _ _ ?_) _ _ ?_) _ _ ?_) _ _ ?_) _ _ ?_
  all_goals first | omega | (simp only [List.length_set]; omega)
theorem fr_put {g k : Nat} {w : World} {S : Nat → Prop} (hs : S g) (v0 v1 v2 v3 v4 v5 v6 v7 v8 : Value) :
    Fr S w (((((((((w.setCell ⟨g, k * 9, none⟩ v0).setCell ⟨g, k * 9 + 1, none⟩ v1).setCell ⟨g, k * 9 + 2, none⟩ v2).setCell ⟨g, k * 9 + 3, none⟩ v3).setCell ⟨g, k * 9 + 4, none⟩ v4).setCell ⟨g, k * 9 + 5, none⟩ v5).setCell ⟨g, k * 9 + 6, none⟩ v6).setCell ⟨g, k * 9 + 7, none⟩ v7).setCell ⟨g, k * 9 + 8, none⟩ v8) :=
  (((((((((Fr.refl S w).setCell _ _ (.inl hs)).setCell _ _ (.inl hs)).setCell _ _ (.inl hs)).setCell _ _ (.inl hs)).setCell _ _ (.inl hs)).setCell _ _ (.inl hs)).setCell _ _ (.inl hs)).setCell _ _ (.inl hs)).setCell _ _ (.inl hs)
theorem set_self (l : List Va) (k : Nat) (hk : k < l.length) (v : Va) (h : l[k] = v) : l.set k v = l := by subst h; simp
def vput (l : List Va) (x : Va) (k : Nat) : List Va := (l.take k).map (fun v => if sq v.name x.name then x else v) ++ l.drop k
def Wk.put (s : Wk) (x : Va) : Wk := { s with env := s.env.map fun v => if sq v.name x.name then x else v }
theorem vput_step (l : List Va) (x : Va) (k : Nat) (hk : k < l.length) : vput l x (k + 1) = (vput l x k).set k (if sq l[k].name x.name then x else l[k]) := by
  rw [vput, vput, take_snoc l k hk, List.map_append, List.set_append_right _ _ (by simp; omega)]
  simp [Nat.min_eq_left (Nat.le_of_lt hk)]
  rw [List.drop_eq_getElem_cons hk]; rfl
theorem vput_len (l : List Va) (x : Va) (k : Nat) : (vput l x k).length = l.length := by
  simp [vput]; omega
theorem vput_at (l : List Va) (x : Va) (k : Nat) (hk : k < l.length) : (vput l x k)[k]'(by rw [vput_len]; exact hk) = l[k] := by
  simp [vput, List.getElem_append_right, Nat.min_eq_left (Nat.le_of_lt hk)]
theorem vput_all (l : List Va) (x : Va) : vput l x l.length = l.map fun v => if sq v.name x.name then x else v := by simp [vput]

set_option maxRecDepth 4000 in
set_option maxHeartbeats 2000000 in
theorem put_any (base b : Nat) (PV : Value) (ru : Int) (w : World) (s : Wk) (ve vg : Value) (x : Va) (h : WkAt base b PV ru w s ve vg) (hc : s.env.length ≤ 1099511627776) :
   Calls Tryz.prog 110 #[.pointer (some ⟨b, 0, none⟩), x.v] w fun e w' => e = .returned (.tuple #[]) ∧ Stp base b PV ru w ve vg w' (s.put x) := by
  obtain ⟨A, c, rfl, hlc⟩ := row_slice h.env
  obtain ⟨W1, HW1⟩ : ∃ W1, W1 = w.alloc (.cells #[.string x.name, .bool x.buf, .bool x.sec, .bool x.mt, .bool x.own, .bool x.set, .bool x.gone, .int .i64 x.lent, .int .i64 x.loops] 148) := ⟨_, rfl⟩
  have hbx : W1.heap[w.heap.size]? = some (.cells #[.string x.name, .bool x.buf, .bool x.sec, .bool x.mt, .bool x.own, .bool x.set, .bool x.gone, .int .i64 x.lent, .int .i64 x.loops] 148 (0, 0)) := by rw [HW1]; exact blk_new _ _ _
  have hf1 : Fr Non w W1 := by rw [HW1]; exact (fr_refl w).alloc _
  have hlt := h.lt
  have HLT := Lib.hid hlt; clear hlt
  have HW := Lib.hid h; clear h
  have HBX := Lib.hid hbx; clear hbx
  have HF1 := Lib.hid hf1; clear hf1
  unfold Va.v
  go_enter Tryz.func110, Tryz.ntmps110
  go_wp2_with fail
  rw [← HW1]
  clear HW1
  go_loopw [4] (fun i wr => ∃ k : Nat, i = .int .i64 k ∧ k ≤ s.env.length ∧ Fr (fun q => (Value.slice A s.env.length c).ownBlock = some q) W1 wr ∧ wr.ownsRow base 148 9 (.slice A s.env.length c) s.env.length (vasC (vput s.env x k))) (fun i _ => s.env.length - (intOf i).toNat)
  case atStart => exact ⟨0, rfl, by omega, Fr.refl _ _, row_fr HW.out.env HF1.out (fun _ _ => non _)⟩
  case round =>
    obtain ⟨k, rfl, hk, hfr, hrow⟩ := hrel
    have hbb := blk_fr (blk_fr HW.out.blk HF1.out (non _)) hfr HW.out.be
    have b2 := (cells_of hbb).1 2 _ rfl
    have HBB := Lib.hid hbb; clear hbb
    have hnb : (Value.slice A s.env.length c).ownBlock ≠ some w.heap.size := fun e => by have := (HLT.out _ (.inr (.inl e))).2; omega
    have hbx := blk_fr HBX.out hfr hnb
    have HNB := Lib.hid hnb; clear hnb
    have HBR := Lib.hid hbx; clear hbx
    have HF := Lib.hid hfr; clear hfr
    by_cases hlt : k < s.env.length
    · obtain ⟨g, rfl, hg, hcell⟩ := row_at hrow (by omega)
      have HRW := Lib.hid hrow; clear hrow
      obtain ⟨⟨v0, _⟩, _⟩ := va_cells hcell k (by rw [vput_len]; exact hlt)
      rw [vput_at s.env x k hlt] at v0
      have HC := Lib.hid hcell; clear hcell
      have x0 := (cells_of HBR.out).1 0 _ rfl
      go_wp2_with fail
      have y0 := ext_cell v0
      have y1 := ext_cell b2
      have y2 := ext_cell x0
      clear v0 b2 x0
      refine wp_region_ext (by kernel_rfl) (by kernel_rfl) ?_
      repeat (go_big_quiet_step (fail))
      refine wpQuiet_nil ?_
      intro w2 hf2
      clear y0 y1 y2
      rw [tosq]
      have hb2 := blk_fr HBB.out hf2 (non _)
      have b2 := (cells_of hb2).1 2 _ rfl
      have HB2 := Lib.hid hb2; clear hb2
      have hx2 := blk_fr HBR.out hf2 (non _)
      have hr2 := row_fr HRW.out hf2 (fun _ _ => non _)
      have HX2 := Lib.hid hx2; clear hx2
      have HR2 := Lib.hid hr2; clear hr2
      have HF2 := Lib.hid (HF.out.trans hf2.non); clear hf2
      generalize hq : sq s.env[k].name x.name = q
      have HQ := Lib.hid hq; clear hq
      cases q with
      | true =>
        have x0 := (cells_of HX2.out).1 0 _ rfl
        have x1 := (cells_of HX2.out).1 1 _ rfl
        have x2 := (cells_of HX2.out).1 2 _ rfl
        have x3 := (cells_of HX2.out).1 3 _ rfl
        have x4 := (cells_of HX2.out).1 4 _ rfl
        have x5 := (cells_of HX2.out).1 5 _ rfl
        have x6 := (cells_of HX2.out).1 6 _ rfl
        have x7 := (cells_of HX2.out).1 7 _ rfl
        have x8 := (cells_of HX2.out).1 8 _ rfl
        obtain ⟨g', e', hg', hcell⟩ := row_at HR2.out (by omega)
        cases e'
        obtain ⟨⟨v0, v1, v2, v3, v4, v5, v6, v7, v8⟩, fz, fi⟩ := va_cells hcell k (by rw [vput_len]; exact hlt)
        have f1 := fi 1 (by omega)
        have f2 := fi 2 (by omega)
        have f3 := fi 3 (by omega)
        have f4 := fi 4 (by omega)
        have f5 := fi 5 (by omega)
        have f6 := fi 6 (by omega)
        have f7 := fi 7 (by omega)
        have f8 := fi 8 (by omega)
        clear fi hcell
        go_wp2_with fail
        go_region
        clear x0 x1 x2 x3 x4 x5 x6 x7 x8 v0 v1 v2 v3 v4 v5 v6 v7 v8 fz f1 f2 f3 f4 f5 f6 f7 f8 b2
        have hr9 := row_put HR2.out k (by rw [vput_len]; exact hlt) x
        have hf9 := fr_put (w := w2) (g := g) (k := k) (S := fun q => (Value.slice (some ⟨g, 0, none⟩) s.env.length c).ownBlock = some q) rfl (.string x.name) (.bool x.buf) (.bool x.sec) (.bool x.mt) (.bool x.own) (.bool x.set) (.bool x.gone) (.int .i64 x.lent) (.int .i64 x.loops)
        generalize hw9 : World.setCell _ _ _ = w9 at *
        have HR9 := Lib.hid hr9; clear hr9
        have HF9 := Lib.hid (HF2.out.trans hf9); clear hf9 hw9
        go_wp2_with fail
        go_roundw
        case rel => exact ⟨k + 1, by go_num, by omega, HF9.out.drew, by rw [vput_step _ _ _ hlt, HQ.out]; exact row_fr HR9.out (fr_refl _).drew (fun _ _ => non _)⟩
        case measure => simp [intOf]; omega
      | false =>
        go_wp2_with fail
        go_roundw
        case rel => exact ⟨k + 1, by go_num, by omega, HF2.out, by rw [vput_step _ _ _ hlt, HQ.out]; simp only [Bool.false_eq_true, if_false]; rw [set_self _ _ (by rw [vput_len]; exact hlt) _ (vput_at _ _ _ hlt)]; exact HR2.out⟩
        case measure => simp [intOf]; omega
    · go_wp2_with fail
      go_end0
      obtain rfl : k = s.env.length := by omega
      rw [vput_all] at hrow
      refine ⟨rfl, .slice A s.env.length c, vg, ⟨HBB.out, ?_, row_fr (row_fr HW.out.giv HF1.out (fun _ _ => non _)) HF.out (fun q hq e => HW.out.eg q e hq), HW.out.be, HW.out.bg, HW.out.eg, HW.out.hb⟩, (HF1.out.non).trans (HF.out.mono fun q _ e => .inr (.inl e)), fun q hq => .inl hq⟩
      show World.ownsRow _ _ _ _ _ (List.map _ s.env).length _
      rw [List.length_map]
      exact hrow
end Go.Proofs.YtnlnejpioijkiaaGreatDoor
