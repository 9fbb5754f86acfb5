/- Contracts and laws, file 13: CpA, PuA, LwN -/
import Derived.Test.YtfncbemligfloaaGreatDoorMg12
/- Contract of the reference's copy of a program: the row that it hands back is the call's own. -/
namespace Go.Proofs.YtfncbemligfloaaGreatDoor
open Go.RowKit
set_option linter.unusedVariables false
set_option linter.unusedSimpArgs false
set_option maxHeartbeats 2000000 in
theorem copyP_own (l : List Fu) (ok : Nat → Prop) (A : Option Addr) (c : Nat) (w : World) (hok : ∀ k, ok k → k < w.heap.size) (hr : RdRows ok w 5 A 0 (l.map Fu.d)) (hlc : l.length ≤ c) (hc : l.length * 96 ≤ reach) :
   Calls Tryz.prog 12 #[.agg #[.slice A l.length c]] w fun r w' => ∃ A' c', r = .returned (.agg #[.slice A' l.length c']) ∧ Fr Non w w' ∧ l.length ≤ c' ∧ Own (w.heap.size + 3) 36 5 w' (.slice A' l.length c') (l.map Fu.d) := by
  have hlen : l.length ≤ 140737488355328 := by unfold reach at hc; omega
  have HR := Lib.hid hr; clear hr
  have HK := Lib.hid hok; clear hok
  go_enter Tryz.func12, Tryz.ntmps12
  go_wp2_with fail
  obtain ⟨W1, HW1⟩ : ∃ W1, W1 = ((w.alloc (.cells #[.slice A l.length c] 24)).alloc (.cells #[.slice none 0 0] 24)).alloc (.cells #[.slice none 0 0] 24) := ⟨_, rfl⟩
  have hb1 : W1.heap[w.heap.size]? = some (.cells #[.slice A l.length c] 24 (0, 0)) := by rw [HW1]; exact blk_old (blk_old (blk_new _ _ _))
  have hb2 : W1.heap[w.heap.size + 1]? = some (.cells #[.slice none 0 0] 24 (0, 0)) := by rw [HW1]; exact blk_old (blk_new' (by simp) _ _)
  have hb3 : W1.heap[w.heap.size + 2]? = some (.cells #[.slice none 0 0] 24 (0, 0)) := by rw [HW1]; exact blk_new' (by simp) _ _
  have hf0 : Fr Non w W1 := by rw [HW1]; exact (((fr_refl w).alloc _).alloc _).alloc _
  have hW1 : w.heap.size + 3 ≤ W1.heap.size := by rw [HW1]; simp
  have hW2 : W1.heap.size ≤ w.heap.size + 3 := by rw [HW1]; simp
  have HB1 := Lib.hid hb1; clear hb1
  have HB2 := Lib.hid hb2; clear hb2
  have HB3 := Lib.hid hb3; clear hb3
  have HF0 := Lib.hid hf0; clear hf0
  rw [← HW1]
  clear HW1
  go_loopw [4] (fun i wr => ∃ j : Nat, i = .int .i64 j ∧ j ≤ l.length ∧ Fr (fun k => k = w.heap.size + 2) W1 wr ∧ ∃ v, wr.heap[w.heap.size + 2]? = some (.cells #[v] 24 (0, 0)) ∧ Own (w.heap.size + 3) 36 5 wr v ((l.map Fu.d).take j)) (fun i _ => l.length - (intOf i).toNat)
  case atStart => exact ⟨0, rfl, by omega, Fr.refl _ _, _, HB3.out, Own.nil _ _ _ _⟩
  case round =>
    obtain ⟨j, rfl, hj, hfr, v, hbv, hown⟩ := hrel
    have hz : w.heap.size + 3 ≤ wr.heap.size := Nat.le_trans hW1 hfr.size
    obtain ⟨A0, c0, rfl, hc0⟩ := hown.slice
    have hn : ((l.map Fu.d).take j).length = j := by simp; omega
    rw [hn] at hc0 hown hbv
    have HN := Lib.hid hn; clear hn
    have hb1 := blk_fr HB1.out hfr (by intro h; have h : w.heap.size = w.heap.size + 2 := h; omega)
    have hb2 := blk_fr HB2.out hfr (by intro h; have h : w.heap.size + 1 = w.heap.size + 2 := h; omega)
    have a0 := (cells_of hb1).1 0 _ rfl
    have HBV := Lib.hid hbv; clear hbv
    have hfw : Fr Non w wr := HF0.out.then hfr (fun k hk h => by have h : k = w.heap.size + 2 := h; omega)
    by_cases hlt : j < l.length
    · have hokr : ∀ k, ok k → k < wr.heap.size := fun k h => by have := HK.out k h; omega
      have HKR := Lib.hid hokr; clear hokr
      obtain ⟨b, o1, A1, c1, A2, c2, A3, c3, rfl, hb, e0, e1, e2, e3, e4, ⟨p1, q1, r1⟩, ⟨p2, q2, r2⟩, ⟨p3, q3, r3⟩⟩ := at_fu (HR.out.fr hfw (fun _ _ => non _) (fun _ h => h)) j hlt
      have R1 := Lib.hid r1; clear r1
      have R2 := Lib.hid r2; clear r2
      have R3 := Lib.hid r3; clear r3
      have HO := Lib.hid hown; clear hown
      have HF := Lib.hid hfr; clear hfr
      have HFW := Lib.hid hfw; clear hfw
      have HB1' := Lib.hid hb1; clear hb1
      have HB2' := Lib.hid hb2; clear hb2
      go_wp2_with (at_builtin; refine appX_pa rfl _ _ rfl ok (wr.heap.size + 1) (.slice none 0 0) [] rfl (OwnX.nil _ _ _ _ _) ?okb A1 c1 (l[j].params.map Pa.d) (by rw [List.length_map]; rfl) ?src (one_pas _) ?b1 ?b2 ?b3 ?k)
      case okb => intro k hk; have := HKR.out k hk; omega
      case src => exact R1.out.fr ((fr_refl _).alloc _) (fun _ _ => non _) (fun _ h => h)
      case b1 => have := (room24 q1).1; simp; omega
      case b2 => have := (room24 q1).2; simp; omega
      case b3 => simp
      case k =>
      intro v3 w3 hown3 hf3
      obtain ⟨A1', c1', rfl, hl1⟩ := hown3.slice
      have hn3 : (l[j].params.map Pa.d).length = l[j].params.length := List.length_map _
      rw [hn3] at hown3 hl1 ⊢
      clear hn3
      have hr1 := hown3.rows_pas
      have hf3' : Fr Non (wr.alloc (.cells #[.string l[j].name, .slice A1 l[j].params.length c1, .slice A2 l[j].body.length c2, .bool l[j].sec, .slice A3 l[j].ret.length c3] 36)) w3 := hf3.mono fun k _ h => by cases h.2
      have hb3 := blk_fr (blk_new _ _ _) hf3' (non _)
      have HR1 := Lib.hid hr1; clear hr1 hown3 hf3
      have HF3 := Lib.hid (box_fr hf3'); clear hf3'
      have g1 := (cells_of hb3).1 1 _ rfl
      have g2 := (cells_of hb3).1 2 _ rfl
      have gf := (cells_of hb3).2
      have HB3 := Lib.hid hb3; clear hb3
      go_wp2_with fail
      refine (copySts_any (St.sizes l[j].body) l[j].body ok A2 c2 _ (Nat.le_refl _) (fun k hk => by have := HKR.out k hk; have := HF3.out.size; simp; omega) (R2.out.fr (HF3.out.setCell _ _ (.inr (Nat.le_refl _))) (fun _ _ => non _) (fun _ h => h)) p2 q2).mono ?_
      rintro e w5 ⟨A2', c2', rfl, hf5, hl2, hr2⟩
      have hb5 := blk_fr (blk_set HB3.out 1 (.slice A1' l[j].params.length c1')) hf5 (non _)
      have HR2 := Lib.hid hr2; clear hr2
      have HF5 := Lib.hid ((HF3.out.setCell ⟨wr.heap.size, 1, none⟩ (.slice A1' l[j].params.length c1') (.inr (Nat.le_refl _))).trans hf5)
      have GF5 := Lib.hid hf5; clear hf5
      clear g1 g2 gf
      have g2 := (cells_of hb5).1 2 _ rfl
      have g4 := (cells_of hb5).1 4 _ rfl
      have gf := (cells_of hb5).2
      have HB5 := Lib.hid hb5; clear hb5
      go_wp2_with fail
      refine (copyExprs_any l[j].ret ok A3 c3 _ (R3.out.fr (HF5.out.setCell _ _ (.inr (Nat.le_refl _))) (fun _ _ => non _) (fun _ h => h)) p3 q3).mono ?_
      rintro e w7 ⟨A3', c3', rfl, hf7, hl3, hr3⟩
      have hb7 := blk_fr (blk_set HB5.out 2 (.slice A2' l[j].body.length c2')) hf7 (non _)
      have HR3 := Lib.hid hr3; clear hr3
      have HF7 := Lib.hid ((HF5.out.setCell ⟨wr.heap.size, 2, none⟩ (.slice A2' l[j].body.length c2') (.inr (Nat.le_refl _))).trans hf7)
      have GF7 := Lib.hid hf7; clear hf7
      clear g2 g4 gf
      have g0 := (cells_of hb7).1 0 _ rfl
      have g1 := (cells_of hb7).1 1 _ rfl
      have g2 := (cells_of hb7).1 2 _ rfl
      have g3 := (cells_of hb7).1 3 _ rfl
      have g4 := (cells_of hb7).1 4 _ rfl
      have gf := (cells_of hb7).2
      have HB7 := Lib.hid hb7; clear hb7
      have hbv7 := blk_fr HBV.out HF7.out (non _)
      have v0 := (cells_of hbv7).1 0 _ rfl
      have HBV7 := Lib.hid hbv7; clear hbv7
      have S7 := Lib.hid (show Fr (fun k => k = wr.heap.size) w7 (w7.setCell ⟨wr.heap.size, 4, none⟩ (.slice A3' l[j].ret.length c3')) from (Fr.refl _ _).setCell _ _ (.inl rfl))
      have S5 := Lib.hid ((((Fr.refl (fun k => k = wr.heap.size) w5).setCell ⟨wr.heap.size, 2, none⟩ (.slice A2' l[j].body.length c2') (.inl rfl)).trans GF7.out.non).trans S7.out)
      have S3 := Lib.hid ((((Fr.refl (fun k => k = wr.heap.size) w3).setCell ⟨wr.heap.size, 1, none⟩ (.slice A1' l[j].params.length c1') (.inl rfl)).trans GF5.out.non).trans S5.out)
      go_wp2_with (at_builtin; refine app_fu rfl _ _ rfl (w.heap.size + 3) (.slice A0 j c0) ((l.map Fu.d).take j) rfl ?o ⟨w7.heap.size, 0, none⟩ 1 1 rfl [l[j].d] [.string l[j].name, .slice A1' l[j].params.length c1', .slice A2' l[j].body.length c2', .bool l[j].sec, .slice A3' l[j].ret.length c3'] ?ch rfl ?nc (one_fu _ _ _ _ _ _ _ _ _ _ _) ?b1 ?b2 ?b3 ?k)
      case nc => exact new_cells' (by simp)
      case o => exact HO.out.fr ((HF7.out.setCell _ _ (.inr (Nat.le_refl _))).alloc _) (fun _ _ => non _)
      case ch =>
        have hv := HO.out.lt
        have sz3 := HF3.out.size
        have sz5 := HF5.out.size
        have sz7 := HF7.out.size
        have lt3 := blk_lt HB3.out
        have lt5 := blk_lt HB5.out
        have lt7 := blk_lt HB7.out
        have z3 := S3.out.size
        have z5 := S5.out.size
        rw [setCell_size] at z3 z5
        refine chunk_fu l[j] hl1 q1 (HR1.out.fr (S3.out.alloc _) ?_ ?_) hl2 q2 (HR2.out.fr (S5.out.alloc _) ?_ ?_) hl3 q3 (HR3.out.fr (S7.out.alloc _) ?_ ?_)
        all_goals (intro k hk; have h1 := hk.1; have h2 := hk.2; try simp at h1; try simp at h2)
        all_goals first
          | (intro h; have h : k = wr.heap.size := h; omega)
          | (refine ⟨by omega, by simp; omega, fun e => ?_⟩; have := (hv k e).2; omega)
      case b1 => rw [HN.out]; exact (room96 (by omega)).1
      case b2 => rw [HN.out]; exact (room96 (by omega)).2
      case b3 => have := HF7.out.size; simp; omega
      case k =>
        intro v' w' hown' hfr'
        obtain ⟨L, hL⟩ : ∃ L, L = (l.map Fu.d).take j ++ [l[j].d] := ⟨_, rfl⟩
        have hLn : L.length = j + 1 := by rw [hL]; simp; omega
        rw [← hL] at hown'
        obtain ⟨A9, c9, rfl, hc9⟩ := hown'.slice
        rw [hLn] at hown' ⊢
        have HL := Lib.hid hL; clear hL hLn hc9
        have hbv' := blk_fr (blk_old (o' := .cells #[.string l[j].name, .slice A1' l[j].params.length c1', .slice A2' l[j].body.length c2', .bool l[j].sec, .slice A3' l[j].ret.length c3'] 36) (blk_fr HBV7.out S7.out (by intro h; have h : w.heap.size + 2 = wr.heap.size := h; omega))) hfr' (by intro h; have := h.1; omega)
        have HO' := Lib.hid hown'; clear hown'
        have HF' := Lib.hid hfr'; clear hfr'
        have v0' := (cells_of hbv').1 0 _ rfl
        have vf' := (cells_of hbv').2
        have HBV' := Lib.hid hbv'; clear hbv'
        go_wp2_with fail
        go_roundw
        case rel => 
          refine ⟨j + 1, by go_num, by omega, ?_, _, blk_set HBV'.out 0 _, ?_⟩
          · refine Fr.setCell ?_ _ _ (.inl rfl)
            exact (HF.out.trans ((HF7.out.setCell _ _ (.inr (Nat.le_refl _))).alloc _).non).then HF'.out (fun k hk ht => by have := ht.1; omega)
          · rw [show (l.map Fu.d).take (j + 1) = L by rw [HL.out, take_snoc _ _ (by simpa using hlt), List.getElem_map]]
            exact HO'.out.fr (S := fun k => k = w.heap.size + 2) ((Fr.refl _ _).setCell _ _ (.inl rfl)) (fun k hk h => by have h : k = w.heap.size + 2 := h; omega)
        case measure => simp [intOf]; omega
    · have HO := Lib.hid hown; clear hown
      have HF := Lib.hid hfr; clear hfr
      have HFW := Lib.hid hfw; clear hfw
      have v0 := (cells_of HBV.out).1 0 _ rfl
      have r0 := (cells_of hb2).1 0 _ rfl
      have rf := (cells_of hb2).2
      clear hb1 hb2
      go_wp2_with fail
      refine bodyPost_ret (v := .agg #[.slice A0 j c0]) ?_ rfl ?_
      · simp [results, Tryz.results12, go_sem, r0]
      · obtain rfl : j = l.length := by omega
        refine ⟨A0, c0, rfl, HFW.out.setCell _ _ (.inr (by simp)), hc0, ?_⟩
        have h3 := HO.out
        rw [List.take_of_length_le (by simp)] at h3
        exact h3.fr (S := fun k => k = w.heap.size + 1) ((Fr.refl _ _).setCell _ _ (.inl rfl)) (fun k hk h => by have h : k = w.heap.size + 1 := h; omega)
end Go.Proofs.YtfncbemligfloaaGreatDoor
/- A store of a struct of five cells into an own row. -/
namespace Go.Proofs.YtfncbemligfloaaGreatDoor
open Go.RowKit
set_option linter.unusedVariables false
set_option linter.unusedSimpArgs false
/-- The world behind a store of five cells. -/
def put5 (w : World) (g o : Nat) (u0 u1 u2 u3 u4 : Value) : World := ((((w.setCell ⟨g, o, none⟩ u0).setCell ⟨g, o + 1, none⟩ u1).setCell ⟨g, o + 2, none⟩ u2).setCell ⟨g, o + 3, none⟩ u3).setCell ⟨g, o + 4, none⟩ u4
theorem put5_fr (w : World) (g o : Nat) (u0 u1 u2 u3 u4 : Value) : Fr (fun k => k = g) w (put5 w g o u0 u1 u2 u3 u4) :=
  (((((Fr.refl (fun k => k = g) w).setCell _ _ (.inl rfl)).setCell _ _ (.inl rfl)).setCell _ _ (.inl rfl)).setCell _ _ (.inl rfl)).setCell _ _ (.inl rfl)
theorem ne_off {g a b : Nat} (h : a ≠ b) : (⟨g, a, none⟩ : Addr) ≠ ⟨g, b, none⟩ := fun e => h (by cases e; rfl)
theorem put5_other {w : World} {g o q : Nat} (u0 u1 u2 u3 u4 : Value) (h : q < o ∨ o + 5 ≤ q) : (put5 w g o u0 u1 u2 u3 u4).cell? ⟨g, q, none⟩ = w.cell? ⟨g, q, none⟩ := by
  unfold put5
  rw [World.cell?_setCell_other _ _ _ _ (ne_off (by omega)), World.cell?_setCell_other _ _ _ _ (ne_off (by omega)), World.cell?_setCell_other _ _ _ _ (ne_off (by omega)), World.cell?_setCell_other _ _ _ _ (ne_off (by omega)), World.cell?_setCell_other _ _ _ _ (ne_off (by omega))]
theorem put5_at {w : World} {g o : Nat} {u0 u1 u2 u3 u4 v0 v1 v2 v3 v4 : Value} (h0 : w.cell? ⟨g, o, none⟩ = some v0) (h1 : w.cell? ⟨g, o + 1, none⟩ = some v1) (h2 : w.cell? ⟨g, o + 2, none⟩ = some v2) (h3 : w.cell? ⟨g, o + 3, none⟩ = some v3) (h4 : w.cell? ⟨g, o + 4, none⟩ = some v4) :
    ∀ i u, [u0, u1, u2, u3, u4][i]? = some u → (put5 w g o u0 u1 u2 u3 u4).cell? ⟨g, o + i, none⟩ = some u := by
  intro i u hi
  have o0 : ∀ {x : World} {a b : Nat} {y : Value}, a ≠ b → (x.setCell ⟨g, a, none⟩ y).cell? ⟨g, b, none⟩ = x.cell? ⟨g, b, none⟩ := fun h => World.cell?_setCell_other _ _ _ _ (ne_off h)
  unfold put5
  match i, hi with
  | 0, hi => cases hi; rw [Nat.add_zero, o0 (by omega), o0 (by omega), o0 (by omega), o0 (by omega)]; exact World.cell?_setCell_same _ _ _ h0
  | 1, hi => cases hi; rw [o0 (by omega), o0 (by omega), o0 (by omega)]; exact World.cell?_setCell_same _ _ _ (by rw [o0 (by omega)]; exact h1)
  | 2, hi => cases hi; rw [o0 (by omega), o0 (by omega)]; exact World.cell?_setCell_same _ _ _ (by rw [o0 (by omega), o0 (by omega)]; exact h2)
  | 3, hi => cases hi; rw [o0 (by omega)]; exact World.cell?_setCell_same _ _ _ (by rw [o0 (by omega), o0 (by omega), o0 (by omega)]; exact h3)
  | 4, hi => cases hi; exact World.cell?_setCell_same _ _ _ (by rw [o0 (by omega), o0 (by omega), o0 (by omega), o0 (by omega)]; exact h4)
  | i + 5, hi => simp at hi
/-- The cells of one element of an own row. -/
theorem Own.at {base : Nat} {e : TypeId} {sz : Nat} {w : World} {A : Option Addr} {c n : Nat} {l : List (List D)} (h : Own base e sz w (.slice A n c) l) (k : Nat) (hk : k < l.length) :
    ∃ g us, A = some ⟨g, 0, none⟩ ∧ base ≤ g ∧ g < w.heap.size ∧ RdL (okOwn base w (.slice A n c)) w l[k] us ∧ us.length = sz ∧ (∀ i u, us[i]? = some u → w.cell? ⟨g, k * sz + i, none⟩ = some u) ∧ ∀ i, w.frozen? ⟨g, i, none⟩ = false := by
  obtain ⟨xs, h1, h2⟩ := h
  obtain ⟨us, g1, g2, g3⟩ := Chunks.at k hk h2
  have h1' := h1
  obtain ⟨_, h3⟩ := h1
  rcases h3 with ⟨hv, h3⟩ | ⟨g, cap, cur, hv, hb, hh, _⟩
  · omega
  · obtain ⟨rfl, rfl, rfl⟩ : A = some ⟨g, 0, none⟩ ∧ n = l.length ∧ c = cap := by cases hv; exact ⟨rfl, rfl, rfl⟩
    refine ⟨g, us, rfl, hb, (Array.getElem?_eq_some_iff.1 hh).1, g1, g2, fun i u hu => ?_, (cells_of hh).2⟩
    have := h1'.cells (g := g) rfl (k * sz + i) u (g3 i u hu)
    simpa [Addr.add_lit] using this
/-- An own row of functions, one of them another: how it reads. -/
theorem own_put {base g c K : Nat} {w : World} {P : List Fu} {f' : Fu} {u0 u1 u2 u3 u4 : Value} {ok2 : Nat → Prop} (h : Own base 36 5 w (.slice (some ⟨g, 0, none⟩) P.length c) (P.map Fu.d)) (hK : K < P.length)
    (hf' : RdL ok2 w f'.d [u0, u1, u2, u3, u4]) (hok2 : ∀ k, ok2 k → k ≠ g) :
    RdRows (fun k => ok2 k ∨ base ≤ k ∧ k < w.heap.size) (put5 w g (K * 5) u0 u1 u2 u3 u4) 5 (some ⟨g, 0, none⟩) 0 ((P.set K f').map Fu.d) := by
  have hl : (P.map Fu.d).length = P.length := List.length_map _
  obtain ⟨g', us, e, hb, hlt, _, _, _⟩ := h.at K (by rw [hl]; exact hK)
  cases e
  have hfr := put5_fr w g (K * 5) u0 u1 u2 u3 u4
  refine RdRows.mk (.inr ⟨hb, hlt⟩) fun i hi => ?_
  have hi' : i < P.length := by simpa using hi
  rw [List.getElem_map]
  refine ⟨rfl, ?_⟩
  rw [Nat.zero_add, Nat.zero_add]
  by_cases hik : i = K
  · subst hik
    rw [List.getElem_set_self]
    obtain ⟨g', us, e, _, _, _, hlen, hc, _⟩ := h.at i (by rw [hl]; exact hK)
    cases e
    obtain ⟨v0, v1, v2, v3, v4, rfl⟩ : ∃ v0 v1 v2 v3 v4, us = [v0, v1, v2, v3, v4] := by
      match us, hlen with
      | [a, b, c, d, e], _ => exact ⟨a, b, c, d, e, rfl⟩
    refine RdAt.of (hf'.mono (fun b o v hb hc => hfr.cell' hc (hok2 b hb)) fun b hb => .inl hb) ?_
    exact put5_at (hc 0 _ rfl) (hc 1 _ rfl) (hc 2 _ rfl) (hc 3 _ rfl) (hc 4 _ rfl)
  · rw [List.getElem_set_ne (Ne.symm hik)]
    obtain ⟨g', us, e, _, _, hrd, hlen, hc, _⟩ := h.at i (by rw [hl]; exact hi')
    cases e
    have hd : (P.map Fu.d)[i]'(by rw [hl]; exact hi') = P[i].d := by rw [List.getElem_map]
    rw [hd] at hrd
    refine RdAt.of (hrd.mono (fun b o v hb hc => hfr.cell' hc fun e => hb.2.2 (by have e : b = g := e; rw [e]; rfl)) fun b hb => .inr ⟨hb.1, hb.2.1⟩) fun q u hu => ?_
    have hq : q < 5 := by rw [← hlen]; exact (List.getElem?_eq_some_iff.1 hu).1
    rw [put5_other _ _ _ _ _ (by rcases Nat.lt_or_gt_of_ne hik with h | h <;> omega)]
    exact hc q u hu
/-- A row of params with one more behind it. -/
theorem own_plus {ok : Nat → Prop} {base n g cap : Nat} {A : Option Addr} {c : Nat} {w W w' : World} {ps : List Pa} {x : Pa} {xs : List Value} (hrow : w.ownsRow base 50 4 (.slice A n c) n xs) (hch : Chunks ok w 4 (ps.map Pa.d) xs)
    (hok : ∀ b, ok b → b < base) (hn : ps.length = n) (hf : Fr Non w W) (hrow' : w'.ownsRow base 50 4 (.slice (some ⟨g, 0, none⟩) (n + 1) cap) (n + 1) (xs ++ [.string x.name, .bool x.buf, .bool x.sec, .bool x.mt]))
    (hf' : Fr (fun k => (Value.slice A n c).ownBlock = some k) W w') :
    RdRows (fun k => ok k ∨ base ≤ k ∧ k < w'.heap.size) w' 4 (some ⟨g, 0, none⟩) 0 ((ps ++ [x]).map Pa.d) ∧ n + 1 ≤ cap := by
  have hnf : ∀ q, (Value.slice A n c).ownBlock = some q → base ≤ q := fun q hq => (hrow.lt q hq).1
  have hone : Chunks ok w' 4 [Pa.d x] [.string x.name, .bool x.buf, .bool x.sec, .bool x.mt] := ⟨_, [], rfl, rfl, rfl, ⟨_, _, rfl, rfl, _, _, rfl, rfl, _, _, rfl, rfl, _, _, rfl, rfl, rfl⟩, rfl⟩
  have hold : Chunks ok w' 4 (ps.map Pa.d) xs := hch.mono (fun b o v hb hc => hf'.cell' (hf.cell' hc (non _)) fun h => by have := hnf b h; have := hok b hb; omega) fun _ h => h
  have hall : Chunks ok w' 4 ((ps ++ [x]).map Pa.d) (xs ++ [.string x.name, .bool x.buf, .bool x.sec, .bool x.mt]) := by
    rw [List.map_append]; exact Chunks.append hone hold
  have hlen : ((ps ++ [x]).map Pa.d).length = n + 1 := by rw [List.length_map, List.length_append, hn]; rfl
  have how : OwnX ok base 50 4 w' (.slice (some ⟨g, 0, none⟩) (n + 1) cap) ((ps ++ [x]).map Pa.d) := ⟨_, by rw [hlen]; exact hrow', hall⟩
  refine ⟨how.rows, ?_⟩
  obtain ⟨A', c', e, hc⟩ := how.slice
  rw [hlen] at hc e
  injection e with _ _ e3
  omega
/-- A function with one param more, whose params lie elsewhere: its cells. -/
theorem plus_cells {ok : Nat → Prop} {w : World} {f : Fu} {x : Pa} {g cap c2 c3 : Nat} {A2 A3 : Option Addr} (hl : f.params.length ≤ 1000) (h1 : f.params.length + 1 ≤ cap) (r1 : RdRows ok w 4 (some ⟨g, 0, none⟩) 0 ((f.params ++ [x]).map Pa.d))
    (h2 : f.body.length ≤ c2) (q2 : f.body.length * 144 ≤ reach) (r2 : RdRows ok w 9 A2 0 (St.ds f.body)) (h3 : f.ret.length ≤ c3) (q3 : f.ret.length * 64 ≤ reach) (r3 : RdRows ok w 5 A3 0 (Ex.ds f.ret)) :
    RdL ok w (f.plus x).d [.string f.name, .slice (some ⟨g, 0, none⟩) (f.params.length + 1) cap, .slice A2 f.body.length c2, .bool f.sec, .slice A3 f.ret.length c3] := by
  have hp : (f.plus x).params.length = f.params.length + 1 := by unfold Fu.plus; simp
  have := chunk_fu (f.plus x) (A1 := some ⟨g, 0, none⟩) (c1 := cap) (A2 := A2) (c2 := c2) (A3 := A3) (c3 := c3) (ok := ok) (w := w) (by rw [hp]; exact h1) (by rw [hp]; unfold reach; omega) r1 h2 q2 r2 h3 q3 r3
  rw [hp] at this
  obtain ⟨us, r, e, h5, _, hr, e2⟩ := this
  subst e2
  rw [List.append_nil] at e
  rw [← e] at hr
  exact hr
end Go.Proofs.YtfncbemligfloaaGreatDoor
/- Plain law: the renaming's list holds all names of what it went through; a function with one param more is as long. -/
namespace Go.Proofs.YtfncbemligfloaaGreatDoor
open Go.RowKit
set_option linter.unusedVariables false
set_option linter.unusedSimpArgs false
theorem one_mem {s x : ByteArray} (h : x ∈ oneN s) : x = s ∧ emp s = false := by
  unfold oneN at h
  cases he : emp s <;> rw [he] at h
  · simp at h; exact ⟨h, rfl⟩
  · simp at h
theorem of_mem (L : List ByteArray) {s x : ByteArray} (h : x ∈ oneN s) : x ∈ (rnOf L s).2 := by
  obtain ⟨rfl, he⟩ := one_mem h
  exact (rnOf_mem _ he).1
mutual
theorem ex_ns_mem : ∀ (e : Ex) (L : List ByteArray), Wf L → ∀ x ∈ e.ns, x ∈ (e.rnS L).2
  | .mk k n s o l, L, hL, x, hx => by
    rw [Ex.rnS]
    simp only [Ex.ns, List.mem_append] at hx
    rcases hx with hx | hx
    · exact (rnEs_wf l _ (rnOf_wf hL s)).2.mem (of_mem L hx)
    · exact ex_nss_mem l _ (rnOf_wf hL s) x hx
theorem ex_nss_mem : ∀ (l : List Ex) (L : List ByteArray), Wf L → ∀ x ∈ Ex.nss l, x ∈ (Ex.rnSs l L).2
  | [], L, _, x, hx => by simp [Ex.nss] at hx
  | e :: l, L, hL, x, hx => by
    rw [Ex.rnSs]
    simp only [Ex.nss, List.mem_append] at hx
    rcases hx with hx | hx
    · exact (rnEs_wf l _ (rnE_wf e L hL).1).2.mem (ex_ns_mem e L hL x hx)
    · exact ex_nss_mem l _ (rnE_wf e L hL).1 x hx
end
theorem l_ns_mem : ∀ (l : List ByteArray) (L : List ByteArray), Wf L → ∀ x ∈ l.flatMap oneN, x ∈ (rnL l L).2
  | [], L, _, x, hx => by simp at hx
  | e :: l, L, hL, x, hx => by
    rw [rnL]
    simp only [List.flatMap_cons, List.mem_append] at hx
    rcases hx with hx | hx
    · exact (rnL_wf l _ (rnOf_wf hL e)).2.mem (of_mem L hx)
    · exact l_ns_mem l _ (rnOf_wf hL e) x hx
mutual
theorem st_ns_mem : ∀ (s : St) (L : List ByteArray), Wf L → ∀ x ∈ s.ns, x ∈ (s.rnS L).2
  | .mk k nm fr se mt ex args body els, L, h, x, hx => by
    rw [St.rnS]
    have h1 := rnOf_wf h nm
    have h2 := rnOf_wf h1 fr
    have h3 := rnEs_wf ex _ h2
    have h4 := rnL_wf args _ h3.1
    have h5 := rnSts_wf body _ h4.1
    have h6 := rnSts_wf els _ h5.1
    simp only [St.ns, List.mem_append] at hx
    rcases hx with hx | hx | hx | hx | hx | hx
    · exact h6.2.mem (h5.2.mem (h4.2.mem (h3.2.mem ((rnOf_pre fr).mem (of_mem L hx)))))
    · exact h6.2.mem (h5.2.mem (h4.2.mem (h3.2.mem (of_mem _ hx))))
    · exact h6.2.mem (h5.2.mem (h4.2.mem (ex_nss_mem ex _ h2 x hx)))
    · exact h6.2.mem (h5.2.mem (l_ns_mem args _ h3.1 x hx))
    · exact h6.2.mem (st_nss_mem body _ h4.1 x hx)
    · exact st_nss_mem els _ h5.1 x hx
theorem st_nss_mem : ∀ (l : List St) (L : List ByteArray), Wf L → ∀ x ∈ St.nss l, x ∈ (St.rnSs l L).2
  | [], L, _, x, hx => by simp [St.nss] at hx
  | e :: l, L, hL, x, hx => by
    rw [St.rnSs]
    simp only [St.nss, List.mem_append] at hx
    rcases hx with hx | hx
    · exact (rnSts_wf l _ (rnSt_wf e L hL).1).2.mem (st_ns_mem e L hL x hx)
    · exact st_nss_mem l _ (rnSt_wf e L hL).1 x hx
end
theorem pa_ns_mem : ∀ (l : List Pa) (L : List ByteArray), Wf L → ∀ x ∈ Pa.nss l, x ∈ (Pa.rnSs l L).2
  | [], L, _, x, hx => by simp [Pa.nss] at hx
  | e :: l, L, hL, x, hx => by
    rw [Pa.rnSs]
    unfold Pa.nss at hx
    simp only [List.flatMap_cons, List.mem_append] at hx
    rcases hx with hx | hx
    · exact (rnPa_wf l _ (rnOf_wf hL e.name)).2.mem (of_mem L hx)
    · exact pa_ns_mem l _ (rnOf_wf hL e.name) x hx
/-- A name that is not among those that were seen is none of the function's. -/
theorem fresh_ne (f : Fu) (nm : ByteArray) (h : inM (Pa.rnSs f.params (Ex.rnSs f.ret (St.rnSs f.body []).2).2).2 nm = false) : ∀ y ∈ f.ns, y ≠ nm := by
  rintro y hy rfl
  have w1 := rnSts_wf f.body [] Wf.nil
  have w2 := rnEs_wf f.ret _ w1.1
  have w3 := rnPa_wf f.params _ w2.1
  have : y ∈ (Pa.rnSs f.params (Ex.rnSs f.ret (St.rnSs f.body []).2).2).2 := by
    simp only [Fu.ns, List.mem_append] at hy
    rcases hy with hy | hy | hy
    · exact w3.2.mem (w2.2.mem (st_nss_mem f.body [] Wf.nil y hy))
    · exact w3.2.mem (ex_nss_mem f.ret _ w1.1 y hy)
    · exact pa_ns_mem f.params _ w2.1 y hy
  rw [inM_iff.2 this] at h
  cases h
theorem fsizes_set : ∀ (P : List Fu) (K : Nat) (f : Fu) (hK : K < P.length), St.sizes f.body = St.sizes P[K].body → Fu.sizes (P.set K f) = Fu.sizes P
  | g :: P, 0, f, _, h => by simp only [List.set_cons_zero, Fu.sizes, Fu.size]; simp at h; omega
  | g :: P, K + 1, f, hK, h => by
    have := fsizes_set P K f (by simpa using hK) (by simpa using h)
    simp only [List.set_cons_succ, Fu.sizes]; omega
end Go.Proofs.YtfncbemligfloaaGreatDoor
