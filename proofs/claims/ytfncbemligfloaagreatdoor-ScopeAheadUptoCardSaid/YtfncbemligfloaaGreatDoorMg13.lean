/- Contracts and laws, file 13: CsO, LcA, CpL, PuA, LcB, OpC -/
import Derived.Test.YtfncbemligfloaaGreatDoorMg12
import Derived.Deep.RegionLaw
/- Contract of the reference's copy of statements: the row that it hands back is the call's own. -/
namespace Go.Proofs.YtfncbemligfloaaGreatDoor
open Go.RowKit
set_option linter.unusedVariables false
set_option linter.unusedSimpArgs false
set_option maxHeartbeats 2000000 in
theorem copySts_own (l : List St) (ok : Nat → Prop) (A : Option Addr) (c : Nat) (w : World) (hok : ∀ k, ok k → k < w.heap.size) (hr : RdRows ok w 9 A 0 (St.ds l)) (hlc : l.length ≤ c) (hc : l.length * 144 ≤ reach) :
   Calls Tryz.prog 13 #[.slice A l.length c] w fun r w' => ∃ A' c', r = .returned (.slice A' l.length c') ∧ Fr Non w w' ∧ l.length ≤ c' ∧ Own w.heap.size 54 9 w' (.slice A' l.length c') (St.ds l) := by
  have hlen : l.length ≤ 140737488355328 := by unfold reach at hc; omega
  have HR := Lib.hid hr; clear hr
  have HK := Lib.hid hok; clear hok
  go_enter Tryz.func13, Tryz.ntmps13
  go_wp2_with fail
  go_loopw [3, 4] (fun v i wr => ∃ j : Nat, i = .int .i64 j ∧ j ≤ l.length ∧ Fr Non w wr ∧ Own w.heap.size 54 9 wr v (St.ds (l.take j))) (fun _ i _ => l.length - (intOf i).toNat)
  case atStart => exact ⟨0, rfl, by omega, fr_refl _, Own.nil _ _ _ _⟩
  case round =>
    obtain ⟨j, rfl, hj, hfr, hown⟩ := hrel
    have hz : w.heap.size ≤ wr.heap.size := hfr.size
    obtain ⟨A0, c0, rfl, hc0⟩ := hown.slice
    have hn : (St.ds (l.take j)).length = j := by simp; omega
    rw [hn] at hc0 hown ⊢
    have HN := Lib.hid hn; clear hn
    by_cases hlt : j < l.length
    · have hokr : ∀ k, ok k → k < wr.heap.size := fun k h => Nat.lt_of_lt_of_le (HK.out k h) hz
      have HKR := Lib.hid hokr; clear hokr
      obtain ⟨b, o1, A1, c1, A2, c2, A3, c3, A4, c4, rfl, hb, e0, e1, e2, e3, e4, e5, e6, e7, e8, ⟨p1, q1, r1⟩, ⟨p2, q2, r2⟩, ⟨p3, q3, r3⟩, ⟨p4, q4, r4⟩⟩ := at_st (HR.out.fr hfr (fun _ _ => non _) (fun _ h => h)) j hlt
      have R1 := Lib.hid r1; clear r1
      have R2 := Lib.hid r2; clear r2
      have R3 := Lib.hid r3; clear r3
      have R4 := Lib.hid r4; clear r4
      have HQ := Lib.hid (ssize_le l j hlt)
      have HO := Lib.hid hown; clear hown
      have HF := Lib.hid hfr; clear hfr
      go_wp2_with fail
      refine (copyExprs_any l[j].ex ok A1 c1 _ (R1.out.fr ((fr_refl wr).alloc _) (fun _ _ => non _) (fun _ h => h)) p1 q1).mono ?_
      rintro e w2 ⟨A1', c1', rfl, hf2, hl1, hr1⟩
      have hb2 := blk_fr (blk_new _ _ _) hf2 (non _)
      have HR1 := Lib.hid hr1; clear hr1
      have HF2 := Lib.hid (box_fr hf2); clear hf2
      have g5 := (cells_of hb2).1 5 _ rfl
      have g6 := (cells_of hb2).1 6 _ rfl
      have gf := (cells_of hb2).2
      have HB2 := Lib.hid hb2; clear hb2
      go_wp2_with (at_builtin; refine appX_str rfl _ _ rfl ok w2.heap.size (.slice none 0 0) [] rfl (OwnX.nil _ _ _ _ _) ?okb A2 c2 (l[j].args.map strD) (by rw [List.length_map]; rfl) ?src (one_strs _) ?b1 ?b2 ?b3 ?k)
      case okb => intro k hk; have := HKR.out k hk; have := HF2.out.size; omega
      case src => exact R2.out.fr (HF2.out.setCell _ _ (.inr (Nat.le_refl _))) (fun _ _ => non _) (fun _ h => h)
      case b1 => have := (room16 q2).1; simp; omega
      case b2 => have := (room16 q2).2; simp; omega
      case b3 => simp
      case k =>
      intro v3 w3 hown3 hf3
      obtain ⟨A2', c2', rfl, hl2⟩ := hown3.slice
      have hn3 : (l[j].args.map strD).length = l[j].args.length := List.length_map _
      rw [hn3] at hown3 hl2 ⊢
      clear hn3
      have hr2 := hown3.rows_strs
      have hf3' : Fr Non (w2.setCell ⟨wr.heap.size, 5, none⟩ (.slice A1' l[j].ex.length c1')) w3 := hf3.mono fun k _ h => by cases h.2
      have hb3 := blk_fr (blk_set HB2.out 5 (.slice A1' l[j].ex.length c1')) hf3' (non _)
      have HR2 := Lib.hid hr2; clear hr2 hown3 hf3
      have HF3 := Lib.hid ((HF2.out.setCell ⟨wr.heap.size, 5, none⟩ (.slice A1' l[j].ex.length c1') (.inr (Nat.le_refl _))).trans hf3')
      have GF3 := Lib.hid hf3'; clear hf3'
      clear g5 g6 gf
      have g6 := (cells_of hb3).1 6 _ rfl
      have g7 := (cells_of hb3).1 7 _ rfl
      have gf := (cells_of hb3).2
      have HB3 := Lib.hid hb3; clear hb3
      go_wp2_with fail
      refine (copySts_any (St.sizes l[j].body) l[j].body ok A3 c3 _ (Nat.le_refl _) (fun k hk => by have := HKR.out k hk; have := HF3.out.size; simp; omega) (R3.out.fr (HF3.out.setCell _ _ (.inr (Nat.le_refl _))) (fun _ _ => non _) (fun _ h => h)) p3 q3).mono ?_
      rintro e w5 ⟨A3', c3', rfl, hf5, hl3, hr3⟩
      have hb5 := blk_fr (blk_set HB3.out 6 (.slice A2' l[j].args.length c2')) hf5 (non _)
      have HR3 := Lib.hid hr3; clear hr3
      have HF5 := Lib.hid ((HF3.out.setCell ⟨wr.heap.size, 6, none⟩ (.slice A2' l[j].args.length c2') (.inr (Nat.le_refl _))).trans hf5)
      have GF5 := Lib.hid hf5; clear hf5
      clear g6 g7 gf
      have g7 := (cells_of hb5).1 7 _ rfl
      have g8 := (cells_of hb5).1 8 _ rfl
      have gf := (cells_of hb5).2
      have HB5 := Lib.hid hb5; clear hb5
      go_wp2_with fail
      refine (copySts_any (St.sizes l[j].els) l[j].els ok A4 c4 _ (Nat.le_refl _) (fun k hk => by have := HKR.out k hk; have := HF5.out.size; simp; omega) (R4.out.fr (HF5.out.setCell _ _ (.inr (Nat.le_refl _))) (fun _ _ => non _) (fun _ h => h)) p4 q4).mono ?_
      rintro e w7 ⟨A4', c4', rfl, hf7, hl4, hr4⟩
      have hb7 := blk_fr (blk_set HB5.out 7 (.slice A3' l[j].body.length c3')) hf7 (non _)
      have HR4 := Lib.hid hr4; clear hr4
      have HF7 := Lib.hid ((HF5.out.setCell ⟨wr.heap.size, 7, none⟩ (.slice A3' l[j].body.length c3') (.inr (Nat.le_refl _))).trans hf7)
      have GF7 := Lib.hid hf7; clear hf7
      clear g7 g8 gf
      have g0 := (cells_of hb7).1 0 _ rfl
      have g1 := (cells_of hb7).1 1 _ rfl
      have g2 := (cells_of hb7).1 2 _ rfl
      have g3 := (cells_of hb7).1 3 _ rfl
      have g4 := (cells_of hb7).1 4 _ rfl
      have g5 := (cells_of hb7).1 5 _ rfl
      have g6 := (cells_of hb7).1 6 _ rfl
      have g7 := (cells_of hb7).1 7 _ rfl
      have g8 := (cells_of hb7).1 8 _ rfl
      have gf := (cells_of hb7).2
      have HB7 := Lib.hid hb7; clear hb7
      have S7 := Lib.hid (show Fr (fun k => k = wr.heap.size) w7 (w7.setCell ⟨wr.heap.size, 8, none⟩ (.slice A4' l[j].els.length c4')) from (Fr.refl _ _).setCell _ _ (.inl rfl))
      have S5 := Lib.hid ((((Fr.refl (fun k => k = wr.heap.size) w5).setCell ⟨wr.heap.size, 7, none⟩ (.slice A3' l[j].body.length c3') (.inl rfl)).trans GF7.out.non).trans S7.out)
      have S3 := Lib.hid ((((Fr.refl (fun k => k = wr.heap.size) w3).setCell ⟨wr.heap.size, 6, none⟩ (.slice A2' l[j].args.length c2') (.inl rfl)).trans GF5.out.non).trans S5.out)
      have S2 := Lib.hid ((((Fr.refl (fun k => k = wr.heap.size) w2).setCell ⟨wr.heap.size, 5, none⟩ (.slice A1' l[j].ex.length c1') (.inl rfl)).trans GF3.out.non).trans S3.out)
      go_wp2_with (at_builtin; refine app_st rfl _ _ rfl w.heap.size (.slice A0 j c0) (St.ds (l.take j)) rfl ?o ⟨w7.heap.size, 0, none⟩ 1 1 rfl [l[j].d] [vu8 l[j].kind, .string l[j].name, .string l[j].frm, .bool l[j].sec, .bool l[j].mt, .slice A1' l[j].ex.length c1', .slice A2' l[j].args.length c2', .slice A3' l[j].body.length c3', .slice A4' l[j].els.length c4'] ?ch rfl ?nc (one_st _ _ _ _ _ _ _ _ _ _ _ _ _ _ _ _ _) ?b1 ?b2 ?b3 ?k)
      case nc => exact new_cells' (by simp)
      case o => exact HO.out.fr ((HF7.out.setCell _ _ (.inr (Nat.le_refl _))).alloc _) (fun _ _ => non _)
      case ch => 
        have hv := HO.out.lt
        have sz3 := HF3.out.size
        have sz2 := HF2.out.size
        have sz5 := HF5.out.size
        have sz7 := HF7.out.size
        have lt2 := blk_lt HB2.out
        have lt3 := blk_lt HB3.out
        have lt5 := blk_lt HB5.out
        have lt7 := blk_lt HB7.out
        have z2 := S2.out.size
        have z3 := S3.out.size
        have z5 := S5.out.size
        rw [setCell_size] at z2 z3 z5
        refine chunk_st l[j] hl1 q1 (HR1.out.fr (S2.out.alloc _) ?_ ?_) hl2 q2 (HR2.out.fr (S3.out.alloc _) ?_ ?_) hl3 q3 (HR3.out.fr (S5.out.alloc _) ?_ ?_) hl4 q4 (HR4.out.fr (S7.out.alloc _) ?_ ?_)
        all_goals (intro k hk; have h1 := hk.1; have h2 := hk.2; try simp at h1; try simp at h2)
        all_goals first
          | (intro h; have h : k = wr.heap.size := h; omega)
          | (refine ⟨by omega, by simp; omega, fun e => ?_⟩; have := (hv k e).2; omega)
      case b1 => rw [HN.out]; exact (room144 (by omega)).1
      case b2 => rw [HN.out]; exact (room144 (by omega)).2
      case b3 => have := HF7.out.size; simp; omega
      case k =>
        intro v' w' hown' hfr'
        have HO' := Lib.hid hown'; clear hown'
        have HF' := Lib.hid hfr'; clear hfr'
        go_wp2_with fail
        go_roundw
        case rel => exact ⟨j + 1, by go_num, by omega, ((HF.out.trans ((HF7.out.setCell _ _ (.inr (Nat.le_refl _))))).alloc _).then HF'.out (fun k hk ht => by have := ht.1; omega), by rw [take_snoc _ _ hlt, St.ds_eq, List.map_append, ← St.ds_eq]; exact HO'.out⟩
        case measure => simp [intOf]; omega
    · have HO := Lib.hid hown; clear hown
      have HF := Lib.hid hfr; clear hfr
      go_wp2_with fail
      go_ret
      obtain rfl : j = l.length := by omega
      have h3 := HO.out
      rw [List.take_length] at h3
      exact ⟨A0, c0, rfl, HF.out, hc0, h3⟩
end Go.Proofs.YtfncbemligfloaaGreatDoor
/- The last function of a program's copy: its body is a row of its own, apart from all else. -/
namespace Go.Proofs.YtfncbemligfloaaGreatDoor
open Go.RowKit
set_option linter.unusedVariables false
set_option linter.unusedSimpArgs false
theorem ownsRow_fr' {base : Nat} {e : TypeId} {sz : Nat} {w w' : World} {v : Value} {n : Nat} {xs : List Value} {S : Nat → Prop} (h : w.ownsRow base e sz v n xs) (hf : Fr S w w') (hs : ∀ k, v.ownBlock = some k → ¬ S k) : w'.ownsRow base e sz v n xs := by
  obtain ⟨h1, h2⟩ := h
  refine ⟨h1, ?_⟩
  rcases h2 with h2 | ⟨g, cap, cur, hv, hb, hh, r⟩
  · exact .inl h2
  · exact .inr ⟨g, cap, cur, hv, hb, by rw [hf.block g (Array.getElem?_eq_some_iff.1 hh).1 (hs g (by rw [hv]; rfl))]; exact hh, r⟩
theorem OwnX.fr' {ok : Nat → Prop} {base : Nat} {e : TypeId} {sz : Nat} {w w' : World} {v : Value} {l : List (List D)} {S : Nat → Prop} (h : OwnX ok base e sz w v l) (hf : Fr S w w') (hs : ∀ k, v.ownBlock = some k → ¬ S k) (hk : ∀ k, ok k → ¬ S k) : OwnX ok base e sz w' v l := by
  obtain ⟨xs, h1, h2⟩ := h
  exact ⟨xs, ownsRow_fr' h1 hf hs, h2.mono (fun b o u hb hc => hf.cell' hc (hk b hb)) fun b hb => hb⟩
theorem OwnX.lt' {ok : Nat → Prop} {base : Nat} {e : TypeId} {sz : Nat} {w : World} {v : Value} {l : List (List D)} (h : OwnX ok base e sz w v l) : ∀ k, v.ownBlock = some k → base ≤ k ∧ k < w.heap.size := by
  obtain ⟨xs, h, _⟩ := h; exact h.lt
theorem OwnX.rows' {ok : Nat → Prop} {base : Nat} {e : TypeId} {sz : Nat} {w : World} {A : Option Addr} {c n : Nat} {l : List (List D)} (h : OwnX ok base e sz w (.slice A n c) l) : RdRows (fun k => ok k ∨ (Value.slice A n c).ownBlock = some k) w sz A 0 l := by
  obtain ⟨xs, h1, h2⟩ := h
  have h1' := h1
  obtain ⟨_, h3⟩ := h1
  rcases h3 with ⟨hv, h3⟩ | ⟨g, cap, cur, hv, hb, hh, _⟩
  · obtain rfl : l = [] := List.eq_nil_of_length_eq_zero h3
    trivial
  · obtain ⟨rfl, rfl, rfl⟩ : A = some ⟨g, 0, none⟩ ∧ n = l.length ∧ c = cap := by cases hv; exact ⟨rfl, rfl, rfl⟩
    refine RdRows.of_chunks (.inr rfl) (h2.mono (fun _ _ _ _ h => h) fun b hb => .inl hb) fun j u hu => ?_
    have := h1'.cells (g := g) rfl j u hu
    simpa [Addr.add_lit] using this
/-- What the rest of a copy leads to: not the row, not what the last body lies in. -/
def okL (base B1 B2 g n k : Nat) : Prop := base ≤ k ∧ k < n ∧ k ≠ g ∧ ¬ (B1 ≤ k ∧ k < B2)
/-- What the last body leads to. -/
def okB (B1 B2 : Nat) (v : Value) (k : Nat) : Prop := B1 ≤ k ∧ k < B2 ∧ v.ownBlock ≠ some k
structure LastAt (base : Nat) (w : World) (g c : Nat) (l0 : List Fu) (f : Fu) (B1 B2 : Nat) (xs : List Value) (A1 : Option Addr) (c1 : Nat) (A2 : Option Addr) (c2 : Nat) (A3 : Option Addr) (c3 : Nat) : Prop where
  lo : base ≤ B1
  mid : B1 ≤ B2
  hi : B2 ≤ w.heap.size
  gl : base ≤ g
  gh : g < w.heap.size
  out : ¬ (B1 ≤ g ∧ g < B2)
  row : w.ownsRow base 36 5 (.slice (some ⟨g, 0, none⟩) (l0.length + 1) c) (l0.length + 1) (xs ++ [.string f.name, .slice A1 f.params.length c1, .slice A2 f.body.length c2, .bool f.sec, .slice A3 f.ret.length c3])
  rest : Chunks (okL base B1 B2 g w.heap.size) w 5 (l0.map Fu.d) xs
  l1 : f.params.length ≤ c1
  q1 : f.params.length * 24 ≤ reach
  r1 : RdRows (okL base B1 B2 g w.heap.size) w 4 A1 0 (f.params.map Pa.d)
  l2 : f.body.length ≤ c2
  q2 : f.body.length * 144 ≤ reach
  body : OwnX (okB B1 B2 (.slice A2 f.body.length c2)) B1 54 9 w (.slice A2 f.body.length c2) (St.ds f.body)
  bh : ∀ k, (Value.slice A2 f.body.length c2).ownBlock = some k → k < B2
  l3 : f.ret.length ≤ c3
  q3 : f.ret.length * 64 ≤ reach
  r3 : RdRows (okL base B1 B2 g w.heap.size) w 5 A3 0 (Ex.ds f.ret)
theorem LastAt.fr {base : Nat} {w w' : World} {g c : Nat} {l0 : List Fu} {f : Fu} {B1 B2 : Nat} {xs : List Value} {A1 : Option Addr} {c1 : Nat} {A2 : Option Addr} {c2 : Nat} {A3 : Option Addr} {c3 : Nat} {S : Nat → Prop}
    (h : LastAt base w g c l0 f B1 B2 xs A1 c1 A2 c2 A3 c3) (hf : Fr S w w') (hs : ∀ k, base ≤ k → ¬ S k) : LastAt base w' g c l0 f B1 B2 xs A1 c1 A2 c2 A3 c3 := by
  have hz := hf.size
  have hok : ∀ k, okL base B1 B2 g w.heap.size k → okL base B1 B2 g w'.heap.size k := fun k hk => ⟨hk.1, by have := hk.2.1; omega, hk.2.2⟩
  have hlo := h.lo
  exact { lo := h.lo, mid := h.mid, hi := Nat.le_trans h.hi hz, gl := h.gl, gh := Nat.lt_of_lt_of_le h.gh hz, out := h.out, row := ownsRow_fr h.row hf hs,
          rest := h.rest.mono (fun b o u hb hc => hf.cell' hc (hs b hb.1)) hok, l1 := h.l1, q1 := h.q1, r1 := h.r1.fr hf (fun k hk => hs k hk.1) hok, l2 := h.l2, q2 := h.q2,
          body := h.body.fr hf (fun k hk => hs k (by omega)) (fun k hk => hs k (by have := hk.1; omega)), bh := h.bh, l3 := h.l3, q3 := h.q3, r3 := h.r3.fr hf (fun k hk => hs k hk.1) hok }
def LastC (base : Nat) (w : World) (v : Value) (l0 : List Fu) (f : Fu) : Prop :=
  ∃ g c B1 B2 xs A1 c1 A2 c2 A3 c3, v = .slice (some ⟨g, 0, none⟩) (l0.length + 1) c ∧ LastAt base w g c l0 f B1 B2 xs A1 c1 A2 c2 A3 c3
theorem LastC.fr {base : Nat} {w w' : World} {v : Value} {l0 : List Fu} {f : Fu} {S : Nat → Prop} (h : LastC base w v l0 f) (hf : Fr S w w') (hs : ∀ k, base ≤ k → ¬ S k) : LastC base w' v l0 f := by
  obtain ⟨g, c, B1, B2, xs, A1, c1, A2, c2, A3, c3, e, h⟩ := h
  exact ⟨g, c, B1, B2, xs, A1, c1, A2, c2, A3, c3, e, h.fr hf hs⟩
theorem last_snoc {base B1 B2 g cap : Nat} {wr W w' : World} {A0 A1 A2 A3 : Option Addr} {c0 c1 c2 c3 : Nat} {l0 : List Fu} {f : Fu} {xs : List Value}
    (hb : base ≤ wr.heap.size) (h01 : wr.heap.size ≤ B1) (h12 : B1 ≤ B2) (h23 : B2 ≤ W.heap.size)
    (hlt : ∀ k, (Value.slice A0 l0.length c0).ownBlock = some k → base ≤ k ∧ k < wr.heap.size)
    (hch : Chunks (okOwn base wr (.slice A0 l0.length c0)) wr 5 (l0.map Fu.d) xs) (hf : Fr Non wr W)
    (hrow' : w'.ownsRow base 36 5 (.slice (some ⟨g, 0, none⟩) (l0.length + 1) cap) (l0.length + 1) (xs ++ [.string f.name, .slice A1 f.params.length c1, .slice A2 f.body.length c2, .bool f.sec, .slice A3 f.ret.length c3]))
    (hf' : Fr (fun k => (Value.slice A0 l0.length c0).ownBlock = some k) W w') (hg : (Value.slice A0 l0.length c0).ownBlock = some g ∨ W.heap.size ≤ g)
    (l1 : f.params.length ≤ c1) (q1 : f.params.length * 24 ≤ reach) (r1 : RdRows (fun k => wr.heap.size ≤ k ∧ k < B1) W 4 A1 0 (f.params.map Pa.d))
    (l2 : f.body.length ≤ c2) (q2 : f.body.length * 144 ≤ reach) (hbody : OwnX (okB B1 B2 (.slice A2 f.body.length c2)) B1 54 9 W (.slice A2 f.body.length c2) (St.ds f.body))
    (hB : ∀ k, (Value.slice A2 f.body.length c2).ownBlock = some k → k < B2)
    (l3 : f.ret.length ≤ c3) (q3 : f.ret.length * 64 ≤ reach) (r3 : RdRows (fun k => B2 ≤ k ∧ k < W.heap.size) W 5 A3 0 (Ex.ds f.ret)) :
    Own base 36 5 w' (.slice (some ⟨g, 0, none⟩) (l0.length + 1) cap) ((l0 ++ [f]).map Fu.d) ∧ LastC base w' (.slice (some ⟨g, 0, none⟩) (l0.length + 1) cap) l0 f := by
  have hz := hf.size
  have hz' := hf'.size
  have hbl := hbody.lt'
  have hgl := hrow'.lt g rfl
  have hne : ∀ k, wr.heap.size ≤ k → k < W.heap.size → k ≠ g := fun k h1 h2 e => by
    rcases hg with h | h
    · have := (hlt g h).2; omega
    · omega
  have hno : ∀ k, wr.heap.size ≤ k → ¬ (Value.slice A0 l0.length c0).ownBlock = some k := fun k h e => by have := (hlt k e).2; omega
  have hold : ∀ k, okOwn base wr (.slice A0 l0.length c0) k → base ≤ k ∧ k < wr.heap.size ∧ k ≠ g := fun k hk => ⟨hk.1, hk.2.1, fun e => by
    rcases hg with h | h
    · exact hk.2.2 (by rw [e]; exact h)
    · have := hk.2.1; omega⟩
  have c1' : Chunks (okL base B1 B2 g w'.heap.size) w' 5 (l0.map Fu.d) xs :=
    hch.mono (fun b o u hb hc => hf'.cell' (hf.cell' hc (non _)) fun e => hb.2.2 e) fun k hk => by
      have := hold k hk
      exact ⟨this.1, by omega, this.2.2, fun h => by omega⟩
  have r1' : RdRows (okL base B1 B2 g w'.heap.size) w' 4 A1 0 (f.params.map Pa.d) :=
    r1.fr hf' (fun k hk => hno k hk.1) fun k hk => ⟨by omega, by omega, hne k hk.1 (by omega), fun h => by omega⟩
  have r3' : RdRows (okL base B1 B2 g w'.heap.size) w' 5 A3 0 (Ex.ds f.ret) :=
    r3.fr hf' (fun k hk => hno k (by omega)) fun k hk => ⟨by omega, by omega, hne k (by omega) hk.2, fun h => by omega⟩
  have hbody' : OwnX (okB B1 B2 (.slice A2 f.body.length c2)) B1 54 9 w' (.slice A2 f.body.length c2) (St.ds f.body) :=
    hbody.fr hf' (fun k hk => hno k (by omega)) fun k hk => hno k (by have := hk.1; omega)
  have hout : ¬ (B1 ≤ g ∧ g < B2) := fun h => hne g (by omega) (by omega) rfl
  have hL : LastAt base w' g cap l0 f B1 B2 xs A1 c1 A2 c2 A3 c3 :=
    { lo := by omega, mid := h12, hi := by omega, gl := hgl.1, gh := hgl.2, out := hout, row := hrow', rest := c1', l1 := l1, q1 := q1, r1 := r1', l2 := l2, q2 := q2, body := hbody', bh := hB, l3 := l3, q3 := q3, r3 := r3' }
  refine ⟨⟨_, by rw [List.length_map, List.length_append]; exact hrow', ?_⟩, g, cap, B1, B2, xs, A1, c1, A2, c2, A3, c3, rfl, hL⟩
  have hkL : ∀ k, okL base B1 B2 g w'.heap.size k → okOwn base w' (.slice (some ⟨g, 0, none⟩) (l0.length + 1) cap) k := fun k hk => ⟨hk.1, hk.2.1, fun e => hk.2.2.1 (by cases e; rfl)⟩
  have r2 : RdRows (okOwn base w' (.slice (some ⟨g, 0, none⟩) (l0.length + 1) cap)) w' 9 A2 0 (St.ds f.body) :=
    hbody'.rows'.fr (Fr.refl Non _) (fun _ _ => non _) fun k hk => by
      rcases hk with hk | hk
      · have h1 := hk.1; have h2 := hk.2.1
        exact ⟨by omega, by omega, fun e => by cases e; exact hout ⟨h1, h2⟩⟩
      · have h1 := hbl k hk; have h2 := hB k hk
        exact ⟨by omega, by omega, fun e => by cases e; exact hout ⟨h1.1, h2⟩⟩
  rw [List.map_append]
  exact Chunks.append (chunk_fu f l1 q1 (r1'.fr (Fr.refl Non _) (fun _ _ => non _) hkL) l2 q2 r2 l3 q3 (r3'.fr (Fr.refl Non _) (fun _ _ => non _) hkL)) (c1'.mono (fun _ _ _ _ h => h) hkL)
end Go.Proofs.YtfncbemligfloaaGreatDoor
/- Contract of the reference's copy of a program: the row that it hands back is the call's own, and the last body lies apart. -/
namespace Go.Proofs.YtfncbemligfloaaGreatDoor
open Go.RowKit
set_option linter.unusedVariables false
set_option linter.unusedSimpArgs false
set_option maxHeartbeats 2000000 in
theorem copyP_last (l : List Fu) (ok : Nat → Prop) (A : Option Addr) (c : Nat) (w : World) (hok : ∀ k, ok k → k < w.heap.size) (hr : RdRows ok w 5 A 0 (l.map Fu.d)) (hlc : l.length ≤ c) (hc : l.length * 96 ≤ reach) (hsm : l.length ≤ 1099511627776) :
   Calls Tryz.prog 12 #[.agg #[.slice A l.length c]] w fun r w' => ∃ A' c', r = .returned (.agg #[.slice A' l.length c']) ∧ Fr Non w w' ∧ l.length ≤ c' ∧ Own (w.heap.size + 3) 36 5 w' (.slice A' l.length c') (l.map Fu.d) ∧ ∀ l0 f, l = l0 ++ [f] → LastC (w.heap.size + 3) w' (.slice A' l.length c') l0 f := by
  have hlen : l.length ≤ 140737488355328 := by unfold reach at hc; omega
  have HR := Lib.hid hr; clear hr
  have HK := Lib.hid hok; clear hok
  go_enter Tryz.func12, Tryz.ntmps12
  go_wp2_with fail
  obtain ⟨W1, HW1⟩ : ∃ W1, W1 = ((w.alloc (.cells #[.slice A l.length c] 24)).alloc (.cells #[.slice none 0 0] 24)).alloc (.cells #[.slice none 0 0] 24) := ⟨_, rfl⟩
  have hb1 : W1.heap[w.heap.size]? = some (.cells #[.slice A l.length c] 24 (0, 0)) := by rw [HW1]; exact blk_old (blk_old (blk_new _ _ _))
  have hb2 : W1.heap[w.heap.size + 1]? = some (.cells #[.slice none 0 0] 24 (0, 0)) := by rw [HW1]; exact blk_old (blk_new' (by simp) _ _)
  have hb3 : W1.heap[w.heap.size + 2]? = some (.cells #[.slice none 0 0] 24 (0, 0)) := by rw [HW1]; exact blk_new' (by simp) _ _
  have hf0 : Fr Non w W1 := by rw [HW1]; exact (((fr_refl w).alloc _).alloc _).alloc _
  have hW1 : w.heap.size + 3 ≤ W1.heap.size := by rw [HW1]; simp
  have hW2 : W1.heap.size ≤ w.heap.size + 3 := by rw [HW1]; simp
  have HB1 := Lib.hid hb1; clear hb1
  have HB2 := Lib.hid hb2; clear hb2
  have HB3 := Lib.hid hb3; clear hb3
  have HF0 := Lib.hid hf0; clear hf0
  rw [← HW1]
  clear HW1
  go_loopw [4] (fun i wr => ∃ j : Nat, i = .int .i64 j ∧ j ≤ l.length ∧ Fr (fun k => k = w.heap.size + 2) W1 wr ∧ ∃ v, wr.heap[w.heap.size + 2]? = some (.cells #[v] 24 (0, 0)) ∧ Own (w.heap.size + 3) 36 5 wr v ((l.map Fu.d).take j) ∧ ∀ l0 f, l = l0 ++ [f] → j = l.length → LastC (w.heap.size + 3) wr v l0 f) (fun i _ => l.length - (intOf i).toNat)
  case atStart => exact ⟨0, rfl, by omega, Fr.refl _ _, _, HB3.out, Own.nil _ _ _ _, fun l0 f e h => by have := congrArg List.length e; simp at this; omega⟩
  case round =>
    obtain ⟨j, rfl, hj, hfr, v, hbv, hown, hlast⟩ := hrel
    have hz : w.heap.size + 3 ≤ wr.heap.size := Nat.le_trans hW1 hfr.size
    obtain ⟨A0, c0, rfl, hc0⟩ := hown.slice
    have hn : ((l.map Fu.d).take j).length = j := by simp; omega
    rw [hn] at hc0 hown hbv hlast
    have HN := Lib.hid hn; clear hn
    have hb1 := blk_fr HB1.out hfr (by intro h; have h : w.heap.size = w.heap.size + 2 := h; omega)
    have hb2 := blk_fr HB2.out hfr (by intro h; have h : w.heap.size + 1 = w.heap.size + 2 := h; omega)
    have a0 := (cells_of hb1).1 0 _ rfl
    have HBV := Lib.hid hbv; clear hbv
    have HLA := Lib.hid hlast; clear hlast
    have hfw : Fr Non w wr := HF0.out.then hfr (fun k hk h => by have h : k = w.heap.size + 2 := h; omega)
    by_cases hlt : j < l.length
    · have hokr : ∀ k, ok k → k < wr.heap.size := fun k h => by have := HK.out k h; omega
      have HKR := Lib.hid hokr; clear hokr
      obtain ⟨b, o1, A1, c1, A2, c2, A3, c3, rfl, hb, e0, e1, e2, e3, e4, ⟨p1, q1, r1⟩, ⟨p2, q2, r2⟩, ⟨p3, q3, r3⟩⟩ := at_fu (HR.out.fr hfw (fun _ _ => non _) (fun _ h => h)) j hlt
      have R1 := Lib.hid r1; clear r1
      have R2 := Lib.hid r2; clear r2
      have R3 := Lib.hid r3; clear r3
      have HO := Lib.hid hown; clear hown
      have HF := Lib.hid hfr; clear hfr
      have HFW := Lib.hid hfw; clear hfw
      have HB1' := Lib.hid hb1; clear hb1
      have HB2' := Lib.hid hb2; clear hb2
      go_wp2_with (at_builtin; refine appX_pa rfl _ _ rfl ok (wr.heap.size + 1) (.slice none 0 0) [] rfl (OwnX.nil _ _ _ _ _) ?okb A1 c1 (l[j].params.map Pa.d) (by rw [List.length_map]; rfl) ?src (one_pas _) ?b1 ?b2 ?b3 ?k)
      case okb => intro k hk; have := HKR.out k hk; omega
      case src => exact R1.out.fr ((fr_refl _).alloc _) (fun _ _ => non _) (fun _ h => h)
      case b1 => have := (room24 q1).1; simp; omega
      case b2 => have := (room24 q1).2; simp; omega
      case b3 => simp
      case k =>
      intro v3 w3 hown3 hf3
      obtain ⟨A1', c1', rfl, hl1⟩ := hown3.slice
      have hn3 : (l[j].params.map Pa.d).length = l[j].params.length := List.length_map _
      rw [hn3] at hown3 hl1 ⊢
      clear hn3
      have hr1 := hown3.rows_pas
      have hf3' : Fr Non (wr.alloc (.cells #[.string l[j].name, .slice A1 l[j].params.length c1, .slice A2 l[j].body.length c2, .bool l[j].sec, .slice A3 l[j].ret.length c3] 36)) w3 := hf3.mono fun k _ h => by cases h.2
      have hb3 := blk_fr (blk_new _ _ _) hf3' (non _)
      have HR1 := Lib.hid hr1; clear hr1 hown3 hf3
      have HF3 := Lib.hid (box_fr hf3'); clear hf3'
      have g1 := (cells_of hb3).1 1 _ rfl
      have g2 := (cells_of hb3).1 2 _ rfl
      have gf := (cells_of hb3).2
      have HB3 := Lib.hid hb3; clear hb3
      go_wp2_with fail
      refine (copySts_own l[j].body ok A2 c2 _ (fun k hk => by have := HKR.out k hk; have := HF3.out.size; simp; omega) (R2.out.fr (HF3.out.setCell _ _ (.inr (Nat.le_refl _))) (fun _ _ => non _) (fun _ h => h)) p2 q2).mono ?_
      rintro e w5 ⟨A2', c2', rfl, hf5, hl2, how2⟩
      have HOW2 := Lib.hid how2; clear how2
      have hb5 := blk_fr (blk_set HB3.out 1 (.slice A1' l[j].params.length c1')) hf5 (non _)
      have HF5 := Lib.hid ((HF3.out.setCell ⟨wr.heap.size, 1, none⟩ (.slice A1' l[j].params.length c1') (.inr (Nat.le_refl _))).trans hf5)
      have GF5 := Lib.hid hf5; clear hf5
      clear g1 g2 gf
      have g2 := (cells_of hb5).1 2 _ rfl
      have g4 := (cells_of hb5).1 4 _ rfl
      have gf := (cells_of hb5).2
      have HB5 := Lib.hid hb5; clear hb5
      go_wp2_with fail
      refine (copyExprs_any l[j].ret ok A3 c3 _ (R3.out.fr (HF5.out.setCell _ _ (.inr (Nat.le_refl _))) (fun _ _ => non _) (fun _ h => h)) p3 q3).mono ?_
      rintro e w7 ⟨A3', c3', rfl, hf7, hl3, hr3⟩
      have hb7 := blk_fr (blk_set HB5.out 2 (.slice A2' l[j].body.length c2')) hf7 (non _)
      have HR3 := Lib.hid hr3; clear hr3
      have HF7 := Lib.hid ((HF5.out.setCell ⟨wr.heap.size, 2, none⟩ (.slice A2' l[j].body.length c2') (.inr (Nat.le_refl _))).trans hf7)
      have GF7 := Lib.hid hf7; clear hf7
      clear g2 g4 gf
      have g0 := (cells_of hb7).1 0 _ rfl
      have g1 := (cells_of hb7).1 1 _ rfl
      have g2 := (cells_of hb7).1 2 _ rfl
      have g3 := (cells_of hb7).1 3 _ rfl
      have g4 := (cells_of hb7).1 4 _ rfl
      have gf := (cells_of hb7).2
      have HB7 := Lib.hid hb7; clear hb7
      have hbv7 := blk_fr HBV.out HF7.out (non _)
      have v0 := (cells_of hbv7).1 0 _ rfl
      have HBV7 := Lib.hid hbv7; clear hbv7
      have S7 := Lib.hid (show Fr (fun k => k = wr.heap.size) w7 (w7.setCell ⟨wr.heap.size, 4, none⟩ (.slice A3' l[j].ret.length c3')) from (Fr.refl _ _).setCell _ _ (.inl rfl))
      have S5 := Lib.hid ((((Fr.refl (fun k => k = wr.heap.size) w5).setCell ⟨wr.heap.size, 2, none⟩ (.slice A2' l[j].body.length c2') (.inl rfl)).trans GF7.out.non).trans S7.out)
      have S3 := Lib.hid ((((Fr.refl (fun k => k = wr.heap.size) w3).setCell ⟨wr.heap.size, 1, none⟩ (.slice A1' l[j].params.length c1') (.inl rfl)).trans GF5.out.non).trans S5.out)
      obtain ⟨xs, hrow, hch⟩ := HO.out
      rw [HN.out] at hrow
      have HROW := Lib.hid hrow; have HCH := Lib.hid hch; clear hrow hch
      go_wp2_with (at_builtin; refine appW_fu rfl _ _ rfl (w.heap.size + 3) (.slice A0 j c0) j xs rfl ?o ⟨w7.heap.size, 0, none⟩ 1 rfl [.string l[j].name, .slice A1' l[j].params.length c1', .slice A2' l[j].body.length c2', .bool l[j].sec, .slice A3' l[j].ret.length c3'] rfl ?nc (one_fu _ _ _ _ _ _ _ _ _ _ _) ?b1 ?b3 ?k)
      case nc => exact new_cells' (by simp)
      case o => exact ownsRow_fr HROW.out ((HF7.out.setCell _ _ (.inr (Nat.le_refl _))).alloc _) (fun _ _ => non _)
      case b1 => omega
      case b3 => have := HF7.out.size; simp; omega
      case k =>
        intro g cap w' hrow' hfr' hg'
        have hsn : Own (w.heap.size + 3) 36 5 w' (.slice (some ⟨g, 0, none⟩) (j + 1) cap) ((l.take j ++ [l[j]]).map Fu.d) ∧ LastC (w.heap.size + 3) w' (.slice (some ⟨g, 0, none⟩) (j + 1) cap) (l.take j) l[j] := by
          have hl0 : (l.take j).length = j := by simp; omega
          have hv := HO.out.lt
          have sz3 := HF3.out.size
          have sz5 := HF5.out.size
          have sz7 := HF7.out.size
          have lt3 := blk_lt HB3.out
          have lt5 := blk_lt HB5.out
          have lt7 := blk_lt HB7.out
          have z3 := S3.out.size
          have z5 := S5.out.size
          have z7 := S7.out.size
          rw [setCell_size] at z3 z5 z7
          have gz5 := GF5.out.size
          rw [setCell_size] at gz5
          have how2 := HOW2.out
          rw [setCell_size] at how2
          have hlt2 := how2.lt
          have key := @last_snoc (w.heap.size + 3) w3.heap.size w5.heap.size g cap wr _ w' A0 A1' A2' A3' c0 c1' c2' c3' (l.take j) l[j] xs (by omega) (by omega) (by omega) ?z (by rw [hl0]; exact hv) (by rw [hl0, List.map_take]; exact HCH.out)
            ((HF7.out.setCell _ _ (.inr (Nat.le_refl _))).alloc _) (by rw [hl0]; exact hrow') (by rw [hl0]; exact hfr') (hg'.imp (fun h => by rw [hl0]; exact h) (fun h => by simpa using h)) hl1 q1 ?r1 hl2 q2 ?r2 (fun k hk => (hlt2 k hk).2) hl3 q3 ?r3
          case z => simp; omega
          case r1 =>
            refine HR1.out.fr (S3.out.alloc _) ?_ ?_
            · intro k hk h; have h1 := hk.1; have h2 := hk.2; have h : k = wr.heap.size := h; (try simp at h1); omega
            · intro k hk; have h1 := hk.1; have h2 := hk.2; (try simp at h1); exact ⟨by omega, by omega⟩
          case r2 =>
            have : OwnX (okB w3.heap.size w5.heap.size (.slice A2' l[j].body.length c2')) w3.heap.size 54 9 w5 (.slice A2' l[j].body.length c2') (St.ds l[j].body) := how2
            refine this.fr (S5.out.alloc _) ?_ ?_
            · intro k hk h; have h : k = wr.heap.size := h; omega
            · intro k hk h; have h1 := hk.1; have h : k = wr.heap.size := h; omega
          case r3 =>
            refine HR3.out.fr (S7.out.alloc _) ?_ ?_
            · intro k hk h; have h1 := hk.1; have h : k = wr.heap.size := h; (try simp at h1); omega
            · intro k hk; have h1 := hk.1; have h2 := hk.2; (try simp at h1); exact ⟨by omega, by simp; omega⟩
          rw [hl0] at key
          exact key
        obtain ⟨hown', hlast'⟩ := hsn
        have HLS := Lib.hid hlast'; clear hlast' hrow'
        have hmap : (l.take j ++ [l[j]]).map Fu.d = (l.map Fu.d).take j ++ [l[j].d] := by rw [List.map_append, List.map_take]; rfl
        rw [hmap] at hown'
        clear hmap
        obtain ⟨L, hL⟩ : ∃ L, L = (l.map Fu.d).take j ++ [l[j].d] := ⟨_, rfl⟩
        have hLn : L.length = j + 1 := by rw [hL]; simp; omega
        rw [← hL] at hown'
        have HL := Lib.hid hL; clear hL hLn
        have hbv' := blk_fr (blk_old (o' := .cells #[.string l[j].name, .slice A1' l[j].params.length c1', .slice A2' l[j].body.length c2', .bool l[j].sec, .slice A3' l[j].ret.length c3'] 36) (blk_fr HBV7.out S7.out (by intro h; have h : w.heap.size + 2 = wr.heap.size := h; omega))) hfr' (by intro h; have := (HO.out.lt _ h).1; omega)
        have HO' := Lib.hid hown'; clear hown'
        have HF' := Lib.hid hfr'; clear hfr'
        have v0' := (cells_of hbv').1 0 _ rfl
        have vf' := (cells_of hbv').2
        have HBV' := Lib.hid hbv'; clear hbv'
        go_wp2_with fail
        go_roundw
        case rel => 
          refine ⟨j + 1, by go_num, by omega, ?_, _, blk_set HBV'.out 0 _, ?_, ?_⟩
          · refine Fr.setCell ?_ _ _ (.inl rfl)
            exact (HF.out.trans ((HF7.out.setCell _ _ (.inr (Nat.le_refl _))).alloc _).non).then HF'.out (fun k hk ht => by have := (HO.out.lt k ht).1; omega)
          · rw [show (l.map Fu.d).take (j + 1) = L by rw [HL.out, take_snoc _ _ (by simpa using hlt), List.getElem_map]]
            exact HO'.out.fr (S := fun k => k = w.heap.size + 2) ((Fr.refl _ _).setCell _ _ (.inl rfl)) (fun k hk h => by have h : k = w.heap.size + 2 := h; omega)
          · intro l0 f e hj1
            have hlen0 : l0.length = j := by have := congrArg List.length e; simp at this; omega
            have e1 : l.take j = l0 := by rw [e, ← hlen0]; simp
            have e2 : l[j] = f := by have : l[j]? = some f := by rw [e, ← hlen0]; simp
                                     rw [List.getElem?_eq_getElem hlt] at this; exact Option.some.inj this
            have h := HLS.out
            rw [e1, e2] at h
            exact h.fr (S := fun k => k = w.heap.size + 2) ((Fr.refl _ _).setCell _ _ (.inl rfl)) (fun k hk h => by have h : k = w.heap.size + 2 := h; omega)
        case measure => simp [intOf]; omega
    · have HO := Lib.hid hown; clear hown
      have HF := Lib.hid hfr; clear hfr
      have HFW := Lib.hid hfw; clear hfw
      have v0 := (cells_of HBV.out).1 0 _ rfl
      have r0 := (cells_of hb2).1 0 _ rfl
      have rf := (cells_of hb2).2
      clear hb1 hb2
      go_wp2_with fail
      refine bodyPost_ret (v := .agg #[.slice A0 j c0]) ?_ rfl ?_
      · simp [results, Tryz.results12, go_sem, r0]
      · obtain rfl : j = l.length := by omega
        refine ⟨A0, c0, rfl, HFW.out.setCell _ _ (.inr (by simp)), hc0, ?_, fun l0 f e => (HLA.out l0 f e rfl).fr (S := fun k => k = w.heap.size + 1) ((Fr.refl _ _).setCell _ _ (.inl rfl)) (fun k hk h => by have h : k = w.heap.size + 1 := h; omega)⟩
        have h3 := HO.out
        rw [List.take_of_length_le (by simp)] at h3
        exact h3.fr (S := fun k => k = w.heap.size + 1) ((Fr.refl _ _).setCell _ _ (.inl rfl)) (fun k hk h => by have h : k = w.heap.size + 1 := h; omega)
end Go.Proofs.YtfncbemligfloaaGreatDoor
/- A store of a struct of five cells into an own row. -/
namespace Go.Proofs.YtfncbemligfloaaGreatDoor
open Go.RowKit
set_option linter.unusedVariables false
set_option linter.unusedSimpArgs false
/-- The world behind a store of five cells. -/
def put5 (w : World) (g o : Nat) (u0 u1 u2 u3 u4 : Value) : World := ((((w.setCell ⟨g, o, none⟩ u0).setCell ⟨g, o + 1, none⟩ u1).setCell ⟨g, o + 2, none⟩ u2).setCell ⟨g, o + 3, none⟩ u3).setCell ⟨g, o + 4, none⟩ u4
theorem put5_fr (w : World) (g o : Nat) (u0 u1 u2 u3 u4 : Value) : Fr (fun k => k = g) w (put5 w g o u0 u1 u2 u3 u4) :=
  (((((Fr.refl (fun k => k = g) w).setCell _ _ (.inl rfl)).setCell _ _ (.inl rfl)).setCell _ _ (.inl rfl)).setCell _ _ (.inl rfl)).setCell _ _ (.inl rfl)
theorem ne_off {g a b : Nat} (h : a ≠ b) : (⟨g, a, none⟩ : Addr) ≠ ⟨g, b, none⟩ := fun e => h (by cases e; rfl)
theorem put5_other {w : World} {g o q : Nat} (u0 u1 u2 u3 u4 : Value) (h : q < o ∨ o + 5 ≤ q) : (put5 w g o u0 u1 u2 u3 u4).cell? ⟨g, q, none⟩ = w.cell? ⟨g, q, none⟩ := by
  unfold put5
  rw [World.cell?_setCell_other _ _ _ _ (ne_off (by omega)), World.cell?_setCell_other _ _ _ _ (ne_off (by omega)), World.cell?_setCell_other _ _ _ _ (ne_off (by omega)), World.cell?_setCell_other _ _ _ _ (ne_off (by omega)), World.cell?_setCell_other _ _ _ _ (ne_off (by omega))]
theorem put5_at {w : World} {g o : Nat} {u0 u1 u2 u3 u4 v0 v1 v2 v3 v4 : Value} (h0 : w.cell? ⟨g, o, none⟩ = some v0) (h1 : w.cell? ⟨g, o + 1, none⟩ = some v1) (h2 : w.cell? ⟨g, o + 2, none⟩ = some v2) (h3 : w.cell? ⟨g, o + 3, none⟩ = some v3) (h4 : w.cell? ⟨g, o + 4, none⟩ = some v4) :
    ∀ i u, [u0, u1, u2, u3, u4][i]? = some u → (put5 w g o u0 u1 u2 u3 u4).cell? ⟨g, o + i, none⟩ = some u := by
  intro i u hi
  have o0 : ∀ {x : World} {a b : Nat} {y : Value}, a ≠ b → (x.setCell ⟨g, a, none⟩ y).cell? ⟨g, b, none⟩ = x.cell? ⟨g, b, none⟩ := fun h => World.cell?_setCell_other _ _ _ _ (ne_off h)
  unfold put5
  match i, hi with
  | 0, hi => cases hi; rw [Nat.add_zero, o0 (by omega), o0 (by omega), o0 (by omega), o0 (by omega)]; exact World.cell?_setCell_same _ _ _ h0
  | 1, hi => cases hi; rw [o0 (by omega), o0 (by omega), o0 (by omega)]; exact World.cell?_setCell_same _ _ _ (by rw [o0 (by omega)]; exact h1)
  | 2, hi => cases hi; rw [o0 (by omega), o0 (by omega)]; exact World.cell?_setCell_same _ _ _ (by rw [o0 (by omega), o0 (by omega)]; exact h2)
  | 3, hi => cases hi; rw [o0 (by omega)]; exact World.cell?_setCell_same _ _ _ (by rw [o0 (by omega), o0 (by omega), o0 (by omega)]; exact h3)
  | 4, hi => cases hi; exact World.cell?_setCell_same _ _ _ (by rw [o0 (by omega), o0 (by omega), o0 (by omega), o0 (by omega)]; exact h4)
  | i + 5, hi => simp at hi
/-- The cells of one element of an own row. -/
theorem Own.at {base : Nat} {e : TypeId} {sz : Nat} {w : World} {A : Option Addr} {c n : Nat} {l : List (List D)} (h : Own base e sz w (.slice A n c) l) (k : Nat) (hk : k < l.length) :
    ∃ g us, A = some ⟨g, 0, none⟩ ∧ base ≤ g ∧ g < w.heap.size ∧ RdL (okOwn base w (.slice A n c)) w l[k] us ∧ us.length = sz ∧ (∀ i u, us[i]? = some u → w.cell? ⟨g, k * sz + i, none⟩ = some u) ∧ ∀ i, w.frozen? ⟨g, i, none⟩ = false := by
  obtain ⟨xs, h1, h2⟩ := h
  obtain ⟨us, g1, g2, g3⟩ := Chunks.at k hk h2
  have h1' := h1
  obtain ⟨_, h3⟩ := h1
  rcases h3 with ⟨hv, h3⟩ | ⟨g, cap, cur, hv, hb, hh, _⟩
  · omega
  · obtain ⟨rfl, rfl, rfl⟩ : A = some ⟨g, 0, none⟩ ∧ n = l.length ∧ c = cap := by cases hv; exact ⟨rfl, rfl, rfl⟩
    refine ⟨g, us, rfl, hb, (Array.getElem?_eq_some_iff.1 hh).1, g1, g2, fun i u hu => ?_, (cells_of hh).2⟩
    have := h1'.cells (g := g) rfl (k * sz + i) u (g3 i u hu)
    simpa [Addr.add_lit] using this
/-- An own row of functions, one of them another: how it reads. -/
theorem own_put {base g c K : Nat} {w : World} {P : List Fu} {f' : Fu} {u0 u1 u2 u3 u4 : Value} {ok2 : Nat → Prop} (h : Own base 36 5 w (.slice (some ⟨g, 0, none⟩) P.length c) (P.map Fu.d)) (hK : K < P.length)
    (hf' : RdL ok2 w f'.d [u0, u1, u2, u3, u4]) (hok2 : ∀ k, ok2 k → k ≠ g) :
    RdRows (fun k => ok2 k ∨ base ≤ k ∧ k < w.heap.size) (put5 w g (K * 5) u0 u1 u2 u3 u4) 5 (some ⟨g, 0, none⟩) 0 ((P.set K f').map Fu.d) := by
  have hl : (P.map Fu.d).length = P.length := List.length_map _
  obtain ⟨g', us, e, hb, hlt, _, _, _⟩ := h.at K (by rw [hl]; exact hK)
  cases e
  have hfr := put5_fr w g (K * 5) u0 u1 u2 u3 u4
  refine RdRows.mk (.inr ⟨hb, hlt⟩) fun i hi => ?_
  have hi' : i < P.length := by simpa using hi
  rw [List.getElem_map]
  refine ⟨rfl, ?_⟩
  rw [Nat.zero_add, Nat.zero_add]
  by_cases hik : i = K
  · subst hik
    rw [List.getElem_set_self]
    obtain ⟨g', us, e, _, _, _, hlen, hc, _⟩ := h.at i (by rw [hl]; exact hK)
    cases e
    obtain ⟨v0, v1, v2, v3, v4, rfl⟩ : ∃ v0 v1 v2 v3 v4, us = [v0, v1, v2, v3, v4] := by
      match us, hlen with
      | [a, b, c, d, e], _ => exact ⟨a, b, c, d, e, rfl⟩
    refine RdAt.of (hf'.mono (fun b o v hb hc => hfr.cell' hc (hok2 b hb)) fun b hb => .inl hb) ?_
    exact put5_at (hc 0 _ rfl) (hc 1 _ rfl) (hc 2 _ rfl) (hc 3 _ rfl) (hc 4 _ rfl)
  · rw [List.getElem_set_ne (Ne.symm hik)]
    obtain ⟨g', us, e, _, _, hrd, hlen, hc, _⟩ := h.at i (by rw [hl]; exact hi')
    cases e
    have hd : (P.map Fu.d)[i]'(by rw [hl]; exact hi') = P[i].d := by rw [List.getElem_map]
    rw [hd] at hrd
    refine RdAt.of (hrd.mono (fun b o v hb hc => hfr.cell' hc fun e => hb.2.2 (by have e : b = g := e; rw [e]; rfl)) fun b hb => .inr ⟨hb.1, hb.2.1⟩) fun q u hu => ?_
    have hq : q < 5 := by rw [← hlen]; exact (List.getElem?_eq_some_iff.1 hu).1
    rw [put5_other _ _ _ _ _ (by rcases Nat.lt_or_gt_of_ne hik with h | h <;> omega)]
    exact hc q u hu
/-- A row of params with one more behind it. -/
theorem own_plus {ok : Nat → Prop} {base n g cap : Nat} {A : Option Addr} {c : Nat} {w W w' : World} {ps : List Pa} {x : Pa} {xs : List Value} (hrow : w.ownsRow base 50 4 (.slice A n c) n xs) (hch : Chunks ok w 4 (ps.map Pa.d) xs)
    (hok : ∀ b, ok b → b < base) (hn : ps.length = n) (hf : Fr Non w W) (hrow' : w'.ownsRow base 50 4 (.slice (some ⟨g, 0, none⟩) (n + 1) cap) (n + 1) (xs ++ [.string x.name, .bool x.buf, .bool x.sec, .bool x.mt]))
    (hf' : Fr (fun k => (Value.slice A n c).ownBlock = some k) W w') :
    RdRows (fun k => ok k ∨ base ≤ k ∧ k < w'.heap.size) w' 4 (some ⟨g, 0, none⟩) 0 ((ps ++ [x]).map Pa.d) ∧ n + 1 ≤ cap := by
  have hnf : ∀ q, (Value.slice A n c).ownBlock = some q → base ≤ q := fun q hq => (hrow.lt q hq).1
  have hone : Chunks ok w' 4 [Pa.d x] [.string x.name, .bool x.buf, .bool x.sec, .bool x.mt] := ⟨_, [], rfl, rfl, rfl, ⟨_, _, rfl, rfl, _, _, rfl, rfl, _, _, rfl, rfl, _, _, rfl, rfl, rfl⟩, rfl⟩
  have hold : Chunks ok w' 4 (ps.map Pa.d) xs := hch.mono (fun b o v hb hc => hf'.cell' (hf.cell' hc (non _)) fun h => by have := hnf b h; have := hok b hb; omega) fun _ h => h
  have hall : Chunks ok w' 4 ((ps ++ [x]).map Pa.d) (xs ++ [.string x.name, .bool x.buf, .bool x.sec, .bool x.mt]) := by
    rw [List.map_append]; exact Chunks.append hone hold
  have hlen : ((ps ++ [x]).map Pa.d).length = n + 1 := by rw [List.length_map, List.length_append, hn]; rfl
  have how : OwnX ok base 50 4 w' (.slice (some ⟨g, 0, none⟩) (n + 1) cap) ((ps ++ [x]).map Pa.d) := ⟨_, by rw [hlen]; exact hrow', hall⟩
  refine ⟨how.rows, ?_⟩
  obtain ⟨A', c', e, hc⟩ := how.slice
  rw [hlen] at hc e
  injection e with _ _ e3
  omega
/-- A function with one param more, whose params lie elsewhere: its cells. -/
theorem plus_cells {ok : Nat → Prop} {w : World} {f : Fu} {x : Pa} {g cap c2 c3 : Nat} {A2 A3 : Option Addr} (hl : f.params.length ≤ 1000) (h1 : f.params.length + 1 ≤ cap) (r1 : RdRows ok w 4 (some ⟨g, 0, none⟩) 0 ((f.params ++ [x]).map Pa.d))
    (h2 : f.body.length ≤ c2) (q2 : f.body.length * 144 ≤ reach) (r2 : RdRows ok w 9 A2 0 (St.ds f.body)) (h3 : f.ret.length ≤ c3) (q3 : f.ret.length * 64 ≤ reach) (r3 : RdRows ok w 5 A3 0 (Ex.ds f.ret)) :
    RdL ok w (f.plus x).d [.string f.name, .slice (some ⟨g, 0, none⟩) (f.params.length + 1) cap, .slice A2 f.body.length c2, .bool f.sec, .slice A3 f.ret.length c3] := by
  have hp : (f.plus x).params.length = f.params.length + 1 := by unfold Fu.plus; simp
  have := chunk_fu (f.plus x) (A1 := some ⟨g, 0, none⟩) (c1 := cap) (A2 := A2) (c2 := c2) (A3 := A3) (c3 := c3) (ok := ok) (w := w) (by rw [hp]; exact h1) (by rw [hp]; unfold reach; omega) r1 h2 q2 r2 h3 q3 r3
  rw [hp] at this
  obtain ⟨us, r, e, h5, _, hr, e2⟩ := this
  subst e2
  rw [List.append_nil] at e
  rw [← e] at hr
  exact hr
end Go.Proofs.YtfncbemligfloaaGreatDoor
/- An append of a row behind a row of the call's own, as a step of a region that draws its order: what was there stays. A struct put into the last place of a row of functions. -/
namespace Go.Proofs.YtfncbemligfloaaGreatDoor
open Go.RowKit
set_option linter.unusedVariables false
set_option linter.unusedSimpArgs false
theorem run_append_keep {P : Program} (w : World) (base : Nat) (t ty e : TypeId) (i : TypeInfo) (z : Value) (size bytes : Nat) (ht : P.underlying t = some (.slice e)) (hi : P.info? e = some i) (hz : i.zero = some z)
    (hsize : i.size = size) (hby : i.bytes = bytes) (hzs : z.cells.size = size) (hsz : 0 < size) (v : Value) (n : Nat) (xs : List Value) (hown : w.ownsRow base e size v n xs)
    (a : Addr) (m c : Nat) (news : List Value) (hl : news.length = m * size) (hnews : ∀ j u, news[j]? = some u → w.cell? (a.add j) = some u) (h1 : ∀ u ∈ news, u.oneCell' = true)
    (h63 : n + m ≤ maxLen) (hbytes : ((n + m) + (n + m) / 4 + 192) * bytes ≤ 281474976710656) (hbase : base ≤ w.heap.size) :
    ∃ v' w', (Builtin.append_ #[t, t] ty #[v, .slice (some a) m c]).run P w = .ok v' w' ∧ w'.ownsRow base e size v' (n + m) (xs ++ news) ∧ Fr (fun k => v.ownBlock = some k) w w' ∧
      (∀ k, v'.ownBlock = some k → v.ownBlock = some k ∨ k = w.heap.size) ∧ ∀ g, v.ownBlock = some g → ∀ j u, xs[j]? = some u → w'.cell? ⟨g, j, none⟩ = some u := by
  obtain ⟨v', w', hr, h2, hg, h4⟩ := run_append_where (P := P) w base t ty e i z size bytes ht hi hz hsize hby hzs hsz v n xs hown a m c news hl hnews h1 h63 hbytes hbase
  refine ⟨v', w', hr, h2, ⟨hg.os, hg.tape, hg.output, hg.size, fun k hk hn => hg.block k hk fun e => hn e.symm⟩, h4, ?_⟩
  intro g0 hg0 j u hu
  have hsmall : n + m ≤ 9223372036854775807 := by simp only [maxLen] at h63; omega
  rcases hown.2 with ⟨rfl, _⟩ | ⟨g, cap, cur, rfl, hbg, hgc, hnc, hcm, hcs, htake⟩
  · cases hg0
  · cases hg0
    by_cases hroom : n + m ≤ cap
    · have hr' := run_append_room (P := P) w t ty e i ht hi g n cap cur hgc a m c news (by rw [hsize]; exact hl) hnews h1 hroom (by rw [hl, hcs, hsize, ← Nat.add_mul]; exact Nat.mul_le_mul_right _ hroom)
      rw [hr] at hr'
      injection hr' with hv _
      subst hv
      have := h2.cells (g := g) rfl j u (by rw [List.getElem?_append_left (List.getElem?_eq_some_iff.1 hu).1]; exact hu)
      simpa [Addr.add_lit] using this
    · have holds : ∀ j u, xs[j]? = some u → w.cell? ((⟨g, 0, none⟩ : Addr).add j) = some u := hown.cells (g := g) rfl
      have hr' := run_append_grow (P := P) w t ty e i z ht hi hz ⟨g, 0, none⟩ n cap xs (by rw [hsize]; exact hown.1) holds a m c news (by rw [hsize]; exact hl) hnews (by omega) (by omega) (by rw [hby]; exact growslice_fits_wide (by omega) hbytes)
      rw [hr] at hr'
      injection hr' with _ hw
      subst hw
      have hc := holds j u hu
      rw [Addr.add_lit, Nat.zero_add] at hc
      exact (((fr_refl w).drew).alloc _).cell' hc (non _)
theorem step_app {t e : TypeId} {z : Value} {size bytes : Nat} (ht : Tryz.prog.underlying t = some (.slice e)) (hi : (Tryz.prog.info? e).map (fun i => (i.zero, i.size, i.bytes)) = some (some z, size, bytes)) (hzs : z.cells.size = size) (hsz : 0 < size)
    {ops : Array Oper} {o : Oper} {a : Act} {K : Act → World → Prop} {Q : Exit → Act → World → Prop} {E : Prop} {w : World} (hgd : o.guard = none) (s x : Operand)
    (ho : o.op = .call { callee := .builtin .append, args := #[s, x], argTypes := #[t, t] })
    (base : Nat) (v : Value) (n : Nat) (xs : List Value) (hs : a.eval s = v) (hown : w.ownsRow base e size v n xs)
    (ok : Nat → Prop) (A : Option Addr) (m c : Nat) (l' : List (List D)) (hm : l'.length = m) (hx : a.eval x = .slice A m c) (hrd : RdRows ok w size A 0 l') (hone : ∀ ds ∈ l', ∀ d ∈ ds, d.one)
    (h63 : n + m ≤ maxLen) (hbytes : ((n + m) + (n + m) / 4 + 192) * bytes ≤ 281474976710656) (hbase : base ≤ w.heap.size)
    (h : ∀ A' c' w' us, Chunks ok w size l' us → w'.ownsRow base e size (.slice A' (n + m) c') (n + m) (xs ++ us) → Fr (fun k => v.ownBlock = some k) w w' → (∀ k, (Value.slice A' (n + m) c').ownBlock = some k → v.ownBlock = some k ∨ k = w.heap.size) →
      (∀ g, v.ownBlock = some g → ∀ j u, xs[j]? = some u → w'.cell? ⟨g, j, none⟩ = some u) → K (a.put o.dst (.slice A' (n + m) c')) w') :
    if Region.wanted o (yielded ops a.tmps) = true then Oper.wp Tryz.prog o a w K Q else E := by
  have hw : Region.wanted o (yielded ops a.tmps) = true := by simp [Region.wanted, hgd]
  rw [if_pos hw]
  obtain ⟨i0, h0, hz1, hz2, hz3⟩ := info_parts hi
  subst hm
  obtain ⟨Av, cv, hv0, _⟩ := row_slice hown
  subst hv0
  cases A with
  | some ad =>
    obtain ⟨us, hch, hce⟩ : ∃ us, Chunks ok w size l' us ∧ ∀ j u, us[j]? = some u → w.cell? (ad.add j) = some u := by
      by_cases hne : l' = []
      · subst hne; exact ⟨[], rfl, fun j u hu => by simp at hu⟩
      · obtain ⟨ad', us, e, g1, g2⟩ := hrd.src hne
        cases e; exact ⟨us, g1, g2⟩
    obtain ⟨v', w', hr, h2, h3, h4, h5⟩ := run_append_keep (P := Tryz.prog) w base t o.type e i0 z size bytes ht h0 hz1 hz2 hz3 hzs hsz (.slice Av n cv) n xs hown ad l'.length c us hch.length hce (hch.ones hone) h63 hbytes hbase
    obtain ⟨A', c', rfl, _⟩ := row_slice h2
    have hK := h A' c' w' us hch h2 h3 h4 h5
    unfold Oper.wp
    unfold execOp
    simp only [ho, resolve, invoke, builtin, Sem.run_bind, Sem.run_pure, Result.andThen_ok, List.map_toArray, List.map_cons, List.map_nil, hs, hx, hr]
    exact hK
  | none =>
    have hne : l' = [] := by
      cases l' with
      | nil => rfl
      | cons ds l' => obtain ⟨⟨b, o, e, _⟩, _⟩ := hrd; cases e
    subst hne
    have hr : (Builtin.append_ #[t, t] o.type #[.slice Av n cv, .slice none ([] : List (List D)).length c]).run Tryz.prog w = .ok (.slice Av n cv) w := by
      rcases hown.2 with ⟨hv, h9⟩ | ⟨g, cap, cur, hv, _, _, hnc, _⟩
      · cases hv; simp [Builtin.append_, run_underlying ht, sizeOf, typeInfo, h0, Builtin.lenOf, Builtin.firstCells]
      · cases hv; simp [Builtin.append_, run_underlying ht, sizeOf, typeInfo, h0, Builtin.lenOf, Builtin.firstCells, hnc, storeCells]
    have hK := h Av cv w [] rfl (by rw [List.append_nil]; exact hown) (Fr.refl _ _) (fun k hk => .inl hk) (fun g hg j u hu => by
      rcases hown.2 with ⟨hv, _⟩ | ⟨g, cap, cur, hv, _⟩
      · cases hv; cases hg
      · cases hv; cases hg
        have := hown.cells (g := g) rfl j u hu
        simpa [Addr.add_lit] using this)
    unfold Oper.wp
    unfold execOp
    simp only [ho, resolve, invoke, builtin, Sem.run_bind, Sem.run_pure, Result.andThen_ok, List.map_toArray, List.map_cons, List.map_nil, hs, hx, hr]
    exact hK
/-- A row of functions, the last of them another: how it reads. -/
theorem last_put {base g c : Nat} {w : World} {P0 : List Fu} {f' : Fu} {xs us : List Value} {u0 u1 u2 u3 u4 : Value} {ok ok2 : Nat → Prop} (hrow : w.ownsRow base 36 5 (.slice (some ⟨g, 0, none⟩) (P0.length + 1) c) (P0.length + 1) (xs ++ us)) (hus : us.length = 5)
    (hch : Chunks ok w 5 (P0.map Fu.d) xs) (hok : ∀ k, ok k → k ≠ g) (hf' : RdL ok2 w f'.d [u0, u1, u2, u3, u4]) (hok2 : ∀ k, ok2 k → k ≠ g) :
    RdRows (fun k => (ok k ∨ ok2 k) ∨ k = g) (put5 w g (P0.length * 5) u0 u1 u2 u3 u4) 5 (some ⟨g, 0, none⟩) 0 ((P0 ++ [f']).map Fu.d) := by
  obtain ⟨v0, v1, v2, v3, v4, rfl⟩ : ∃ v0 v1 v2 v3 v4, us = [v0, v1, v2, v3, v4] := by
    match us, hus with
    | [a, b, c, d, e], _ => exact ⟨a, b, c, d, e, rfl⟩
  have hxl : xs.length = P0.length * 5 := by rw [hch.length, List.length_map]
  have hcell : ∀ j u, (xs ++ [v0, v1, v2, v3, v4])[j]? = some u → w.cell? ⟨g, j, none⟩ = some u := fun j u hu => by
    have := hrow.cells (g := g) rfl j u hu
    simpa [Addr.add_lit] using this
  have hlast : ∀ i u, [v0, v1, v2, v3, v4][i]? = some u → w.cell? ⟨g, P0.length * 5 + i, none⟩ = some u := fun i u hu => hcell _ _ (by rw [List.getElem?_append_right (by omega), hxl, Nat.add_sub_cancel_left]; exact hu)
  have hfr := put5_fr w g (P0.length * 5) u0 u1 u2 u3 u4
  have hnew : ∀ i u, [u0, u1, u2, u3, u4][i]? = some u → (put5 w g (P0.length * 5) u0 u1 u2 u3 u4).cell? ⟨g, P0.length * 5 + i, none⟩ = some u := put5_at (hlast 0 _ rfl) (hlast 1 _ rfl) (hlast 2 _ rfl) (hlast 3 _ rfl) (hlast 4 _ rfl)
  have c1 : Chunks (fun k => (ok k ∨ ok2 k) ∨ k = g) (put5 w g (P0.length * 5) u0 u1 u2 u3 u4) 5 (P0.map Fu.d) xs := hch.mono (fun b o v hb hc => hfr.cell' hc (hok b hb)) fun k hk => .inl (.inl hk)
  have c2 : RdL (fun k => (ok k ∨ ok2 k) ∨ k = g) (put5 w g (P0.length * 5) u0 u1 u2 u3 u4) f'.d [u0, u1, u2, u3, u4] := hf'.mono (fun b o v hb hc => hfr.cell' hc (hok2 b hb)) fun k hk => .inl (.inr hk)
  rw [List.map_append]
  refine RdRows.of_chunks (.inr rfl) (Chunks.snoc rfl rfl c2 c1) fun j u hu => ?_
  rw [show 0 + 0 * 5 + j = j by omega]
  by_cases hj : j < xs.length
  · rw [List.getElem?_append_left hj] at hu
    rw [put5_other _ _ _ _ _ (.inl (by omega))]
    exact hcell j u (by rw [List.getElem?_append_left hj]; exact hu)
  · rw [List.getElem?_append_right (by omega)] at hu
    have := hnew (j - xs.length) u hu
    rwa [show P0.length * 5 + (j - xs.length) = j by omega] at this
/-- The last body with more behind it, and the last body as it was. -/
theorem app_body {B1 B2 n m c2 : Nat} {w7 w8 w9 : World} {A2 : Option Addr} {lb lm : List (List D)} {xb us : List Value} {v' : Value} {okM : Nat → Prop} (hn : lb.length = n) (hm : lm.length = m) (hB : B2 ≤ w7.heap.size)
    (hrow : w7.ownsRow B1 54 9 (.slice A2 n c2) n xb) (hch : Chunks (okB B1 B2 (.slice A2 n c2)) w7 9 lb xb) (hbh : ∀ k, (Value.slice A2 n c2).ownBlock = some k → k < B2)
    (hf8 : Fr Non w7 w8) (hM : ∀ k, okM k → w7.heap.size ≤ k ∧ k < w8.heap.size) (hus : Chunks okM w8 9 lm us)
    (hrow' : w9.ownsRow B1 54 9 v' (n + m) (xb ++ us)) (hf9 : Fr (fun k => (Value.slice A2 n c2).ownBlock = some k) w8 w9)
    (h4 : ∀ k, v'.ownBlock = some k → (Value.slice A2 n c2).ownBlock = some k ∨ k = w8.heap.size) (h5 : ∀ g, (Value.slice A2 n c2).ownBlock = some g → ∀ j u, xb[j]? = some u → w9.cell? ⟨g, j, none⟩ = some u) :
    (∃ A' c', v' = .slice A' (n + m) c' ∧ n + m ≤ c' ∧ RdRows (fun k => (B1 ≤ k ∧ k < B2) ∨ w7.heap.size ≤ k ∧ k < w9.heap.size) w9 9 A' 0 (lb ++ lm)) ∧
    RdRows (fun k => B1 ≤ k ∧ k < B2) w9 9 A2 0 lb ∧ Fr (fun k => B1 ≤ k ∧ k < B2) w7 w9 := by
  have hlt := hrow.lt
  have hz8 := hf8.size
  have hz9 := hf9.size
  have hob : ∀ k, (Value.slice A2 n c2).ownBlock = some k → B1 ≤ k ∧ k < B2 := fun k hk => ⟨(hlt k hk).1, hbh k hk⟩
  have hch9 : Chunks (fun k => B1 ≤ k ∧ k < B2) w9 9 lb xb := hch.mono (fun b o v hb hc => hf9.cell' (hf8.cell' hc (non _)) fun e => hb.2.2 e) fun k hk => ⟨hk.1, hk.2.1⟩
  have hus9 : Chunks (fun k => w7.heap.size ≤ k ∧ k < w9.heap.size) w9 9 lm us := hus.mono (fun b o v hb hc => hf9.cell' hc fun e => by have := (hob b e).2; have := (hM b hb).1; omega) fun k hk => by have := hM k hk; omega
  refine ⟨?_, ?_, (hf8.mono fun k _ h => absurd h (non _)).trans (hf9.mono fun k _ h => hob k h)⟩
  · have how : OwnX (fun k => (B1 ≤ k ∧ k < B2) ∨ w7.heap.size ≤ k ∧ k < w9.heap.size) B1 54 9 w9 v' (lb ++ lm) :=
      ⟨_, by rw [List.length_append, hn, hm]; exact hrow', Chunks.append (hus9.mono (fun _ _ _ _ h => h) fun k hk => .inr hk) (hch9.mono (fun _ _ _ _ h => h) fun k hk => .inl hk)⟩
    obtain ⟨A', c', e, hc⟩ := how.slice
    rw [List.length_append, hn, hm] at e hc
    subst e
    have hl9 := hrow'.lt
    refine ⟨A', c', rfl, hc, how.rows'.fr (Fr.refl Non _) (fun _ _ => non _) fun k hk => ?_⟩
    rcases hk with hk | hk
    · exact hk
    · rcases h4 k hk with h | h
      · exact .inl (hob k h)
      · exact .inr ⟨by omega, (hl9 k hk).2⟩
  · rcases hrow.2 with ⟨hv, h0⟩ | ⟨g, cap, cur, hv, _⟩
    · have : lb = [] := List.eq_nil_of_length_eq_zero (by omega)
      subst this
      trivial
    · obtain ⟨rfl, rfl⟩ : A2 = some ⟨g, 0, none⟩ ∧ c2 = cap := by cases hv; exact ⟨rfl, rfl⟩
      refine RdRows.of_chunks (hob g rfl) hch9 fun j u hu => ?_
      rw [show 0 + 0 * 9 + j = j by omega]
      exact h5 g rfl j u hu
theorem LastAt.cell {base : Nat} {w : World} {g c : Nat} {l0 : List Fu} {f : Fu} {B1 B2 : Nat} {xs : List Value} {A1 : Option Addr} {c1 : Nat} {A2 : Option Addr} {c2 : Nat} {A3 : Option Addr} {c3 : Nat}
    (h : LastAt base w g c l0 f B1 B2 xs A1 c1 A2 c2 A3 c3) : (∀ i u, [.string f.name, .slice A1 f.params.length c1, .slice A2 f.body.length c2, .bool f.sec, .slice A3 f.ret.length c3][i]? = some u → w.cell? ⟨g, l0.length * 5 + i, none⟩ = some u) ∧ ∀ i, w.frozen? ⟨g, i, none⟩ = false := by
  have hxl : xs.length = l0.length * 5 := by rw [h.rest.length, List.length_map]
  refine ⟨fun i u hu => ?_, fun i => ?_⟩
  · have := h.row.cells (g := g) rfl (l0.length * 5 + i) u (by rw [List.getElem?_append_right (by omega), hxl, Nat.add_sub_cancel_left]; exact hu)
    simpa [Addr.add_lit] using this
  · rcases h.row.2 with ⟨hv, _⟩ | ⟨g', cap, cur, hv, _, hh, _⟩
    · cases hv
    · cases hv; exact (cells_of hh).2 i
theorem sds_append (l m : List St) : St.ds (l ++ m) = St.ds l ++ St.ds m := by rw [St.ds_eq, List.map_append, ← St.ds_eq, ← St.ds_eq]
theorem more_cells {ok : Nat → Prop} {w : World} {f : Fu} {M : List St} {A1 A9 : Option Addr} {c1 c9 : Nat} (h1 : f.params.length ≤ c1) (q1 : f.params.length * 24 ≤ reach) (r1 : RdRows ok w 4 A1 0 (f.params.map Pa.d))
    (h2 : f.body.length + M.length ≤ c9) (q2 : (f.body.length + M.length) * 144 ≤ reach) (r2 : RdRows ok w 9 A9 0 (St.ds f.body ++ St.ds M)) :
    RdL ok w (f.more M).d [.string f.name, .slice A1 f.params.length c1, .slice A9 (f.body.length + M.length) c9, .bool false, .slice none 0 0] := by
  have hp : (f.more M).body.length = f.body.length + M.length := by unfold Fu.more; simp
  have h := chunk_fu (ok := ok) (w := w) (f.more M) (A1 := A1) (c1 := c1) (A2 := A9) (c2 := c9) (A3 := none) (c3 := 0) h1 q1 r1 (by rw [hp]; exact h2) (by rw [hp]; exact q2) (by show RdRows ok w 9 A9 0 (St.ds (f.body ++ M)); rw [sds_append]; exact r2) (Nat.le_refl _) (Nat.zero_le _) trivial
  rw [hp] at h
  obtain ⟨us, r, e, h5, _, hr, e2⟩ := h
  subst e2
  rw [List.append_nil] at e
  rw [← e] at hr
  exact hr
end Go.Proofs.YtfncbemligfloaaGreatDoor
/- The reading of an argument, opened, with bounds on lengths by its bulk. -/
namespace Go.Proofs.YtfncbemligfloaaGreatDoor
open Go.RowKit
set_option linter.unusedVariables false
set_option linter.unusedSimpArgs false
theorem bk_one {H : Type} (d : DataW H) : 1 ≤ Rows.uptoBulk d := by
  cases d with
  | lit l => cases l <;> simp [Rows.uptoBulk]
  | nil => simp [Rows.uptoBulk]
  | ptr d => simp [Rows.uptoBulk]
  | slice elems spare => simp [Rows.uptoBulk]
  | agg parts => simp [Rows.uptoBulk]
  | iface t d => simp [Rows.uptoBulk]
  | map entries => simp [Rows.uptoBulk]
  | held h => simp [Rows.uptoBulk]
theorem bk_part {H : Type} {d : DataW H} : ∀ {l : List (DataW H)}, d ∈ l → Rows.uptoBulk d ≤ Rows.uptoBulkAll l
  | [], h => by cases h
  | x :: r, h => by
    simp only [Rows.uptoBulkAll]
    rcases List.mem_cons.1 h with e | e
    · subst e; omega
    · have := bk_part e; omega
theorem bk_len {H : Type} : ∀ l : List (DataW H), l.length ≤ Rows.uptoBulkAll l
  | [] => by simp [Rows.uptoBulkAll]
  | x :: r => by have := bk_one x; have := bk_len r; simp only [Rows.uptoBulkAll, List.length_cons]; omega
section
variable {H : Type} {enc : TypeId × Value → H} {w : World} {fuel : Nat} {t : TypeId} {cs : List Value} {x : DataW H × List MemPlace}
theorem op_rowsB {α : Type} (R : α → DataW H → Prop) (da : α → List D) {e : TypeId} {sz by_ : Nat} (ht : Program.underlying Tryz.prog t = some (.slice e)) (hsz : Program.cellsOf Tryz.prog e = sz) (hpos : 0 < sz) (hby : Program.bytesOf Tryz.prog e = by_)
    (h : Trd enc w fuel t cs = some x) (hw : Light (x.1.weights Tryz.prog t)) (ih : ∀ m y cs', m < fuel → Trd enc w m e cs' = some y → Light (y.1.weights Tryz.prog e) → ∃ a, RdCs (InW w) w (da a) cs' ∧ R a y.1) :
    ∃ (l : List α) (A : Option Addr) (c : Nat), cs = [.slice A l.length c] ∧ l.length ≤ c ∧ l.length * by_ ≤ reach ∧ RdRows (InW w) w sz A 0 (l.map da) ∧ l.length ≤ Rows.uptoBulk x.1 ∧ ∀ (i : Nat) (hi : i < l.length), ∃ d, R l[i] d ∧ Rows.uptoBulk d ≤ Rows.uptoBulk x.1 := by
  rcases DataW.trod_slice ht h with ⟨rfl, _⟩ | ⟨a, len, cap, elems, rest, n, rfl, rfl, hx, _, hl, _, hel, hat, hrest, _⟩
  · exact ⟨[], none, 0, rfl, Nat.le_refl _, by simp, trivial, Nat.zero_le _, fun i hi => by simp at hi⟩
  have hr := (hrest rfl).1
  rw [hx] at hw
  simp only [DataW.weights, ht, hby] at hw
  have hw1 : (elems.length + rest.length) * by_ ≤ reachBytes := by
    have h0 := List.all_eq_true.1 hw _ List.mem_cons_self
    simpa using h0
  have hw2 : Light (DataW.weightsAll Tryz.prog e (elems.map (·.1))) := by
    have : Light (DataW.weightsAll Tryz.prog e (elems.map (·.1)) ++ DataW.weightsAll Tryz.prog e (rest.map (·.1))) := List.all_eq_true.2 fun y hy => List.all_eq_true.1 hw y (List.mem_cons_of_mem _ hy)
    exact this.left
  have hbk : ∀ d ∈ elems.map (·.1), Rows.uptoBulk d ≤ Rows.uptoBulk x.1 := fun d hd => by
    rw [hx]; have := bk_part hd; simp only [Rows.uptoBulk]; omega
  have hbl : elems.length ≤ Rows.uptoBulk x.1 := by
    rw [hx]; have := bk_len (elems.map (·.1)); rw [List.length_map] at this; simp only [Rows.uptoBulk]; omega
  have hcells : ∀ i, i < len → ∃ cs' y, w.cells? 0 (a.add (i * sz)) sz = some cs' ∧ Trd enc w n e cs' = some y ∧ Light (y.1.weights Tryz.prog e) ∧ Rows.uptoBulk y.1 ≤ Rows.uptoBulk x.1 := fun i hi => by
    have h1 := hat i hi
    rw [hsz] at h1
    have h2 : elems[i]? = some (elems[i]'(by omega)) := List.getElem?_eq_getElem _
    rw [h2, Option.bind_eq_some_iff] at h1
    obtain ⟨cs', h3, h4⟩ := h1
    exact ⟨cs', _, h3, h4, hw2.each i _ (by rw [List.getElem?_map, h2]; rfl), hbk _ (List.mem_map_of_mem (List.getElem_mem _))⟩
  by_cases h0 : len = 0
  · subst h0
    exact ⟨[], some a, cap, rfl, hl, by simp, trivial, Nat.zero_le _, fun i hi => by simp at hi⟩
  have hspot : a.spot = none := by
    obtain ⟨cs', y, h1, _, _, _⟩ := hcells 0 (by omega)
    obtain ⟨h2, h3, h4⟩ := World.cells?_some h1
    have h5 := h4 0 (by omega)
    have h6 : w.cell? ((a.add (0 * sz)).add 0) = some (cs'[0]'(by omega)) := by rw [h5]; exact List.getElem?_eq_getElem _
    have := World.cell?_spot h6
    simpa [Addr.add] using this
  obtain ⟨b, o, sp⟩ := a
  subst hspot
  have hall : ∀ n', n' ≤ len → ∃ l : List α, l.length = n' ∧ ∀ (i : Nat) (hi : i < l.length), InW w b ∧ (da l[i]).length = sz ∧ RdAt (InW w) w b (o + i * sz) (da l[i]) ∧ ∃ d, R l[i] d ∧ Rows.uptoBulk d ≤ Rows.uptoBulk x.1 := by
    intro n' hn'
    induction n' with
    | zero => exact ⟨[], rfl, fun i hi => by simp at hi⟩
    | succ k ihk =>
      obtain ⟨l, hll, hlr⟩ := ihk (by omega)
      obtain ⟨cs', y, h1, h2, h3, h9⟩ := hcells k (by omega)
      obtain ⟨a', h4, h8⟩ := ih n y cs' (by omega) h2 h3
      rw [WideShapes.add_plain] at h1
      have hblk : b < w.heap.size := World.cells?_block h1 hpos
      obtain ⟨_, h5, h6⟩ := World.cells?_some h1
      refine ⟨l ++ [a'], by simp [hll], fun i hi => ?_⟩
      by_cases hik : i < l.length
      · rw [List.getElem_append_left hik]; exact hlr i hik
      · have e1 : i = l.length := by simp at hi; omega
        subst e1
        rw [List.getElem_append_right (Nat.le_refl _)]
        simp only [Nat.sub_self, List.getElem_cons_zero]
        refine ⟨hblk, by rw [h4.len]; omega, ?_, _, h8, h9⟩
        rw [hll]
        refine h4.at fun i v hv => ?_
        have hi' : i < sz := by
          have := (List.getElem?_eq_some_iff.1 hv).1
          omega
        have := h6 i hi'
        rw [WideShapes.add_plain] at this
        rw [this, hv]
  obtain ⟨l, hll, hlr⟩ := hall len (Nat.le_refl _)
  refine ⟨l, some ⟨b, o, none⟩, cap, by rw [hll], by omega, ?_, ?_, by omega, fun i hi => (hlr i hi).2.2.2⟩
  · have : len * by_ ≤ (elems.length + rest.length) * by_ := Nat.mul_le_mul_right _ (by omega)
    have e1 : reachBytes = reach := rfl
    rw [hll]; omega
  · refine RdRows.mk (hlr 0 (by omega)).1 fun k hk => ?_
    have hk' : k < l.length := by simpa using hk
    have := hlr k hk'
    simp only [List.getElem_map, Nat.zero_add]
    exact ⟨this.2.1, this.2.2.1⟩
end
section
variable {H : Type} {enc : TypeId × Value → H} {w : World}
set_option maxRecDepth 100000 in
theorem op_fuB (fuel : Nat) : ∀ (cs : List Value) (x : DataW H × List MemPlace), Trd enc w fuel 36 cs = some x → Light (x.1.weights Tryz.prog 36) → ∃ e : Fu, RdCs (InW w) w e.d cs ∧ e.body.length ≤ Rows.uptoBulk x.1
  := by
  induction fuel using Nat.strongRecOn with
  | ind fuel ih =>
    intro cs x h hw
    obtain ⟨xs, m, hm, rfl, hl, hxl, hf⟩ := DataW.trod_struct Tryz.underlying36 h
    subst hm
    rw [ce_fuE] at hl
    match cs, hl, xs, hxl with
    | [c0, c1, c2, c3, c4], _, [y0, y1, y2, y3, y4], _ =>
    simp only [DataW.weights, Tryz.underlying36, List.map_cons, List.map_nil, DataW.weightsEach] at hw
    have f0 : Trd enc w m 9 [c0] = some y0 := fld (hf 0 _ rfl) rfl rfl ce_str rfl rfl
    have f1 : Trd enc w m 33 [c1] = some y1 := fld (hf 1 _ rfl) rfl rfl ce_pa rfl rfl
    have f2 : Trd enc w m 32 [c2] = some y2 := fld (hf 2 _ rfl) rfl rfl ce_st rfl rfl
    have f3 : Trd enc w m 4 [c3] = some y3 := fld (hf 3 _ rfl) rfl rfl ce_bool rfl rfl
    have f4 : Trd enc w m 34 [c4] = some y4 := fld (hf 4 _ rfl) rfl rfl ce_ex rfl rfl
    obtain ⟨v0, e0⟩ := op_str Tryz.underlying9 f0
    obtain rfl := List.cons.inj e0 |>.1
    obtain ⟨v1, A1, k1, e1, g1, r1, d1⟩ := op_rows Pa.d Tryz.underlying33 ce_paE (by omega) by_paE f1 hw.right.left fun m y cs' hm h1 h2 => op_pa m cs' y h1 h2
    obtain rfl := List.cons.inj e1 |>.1
    obtain ⟨v2, A2, k2, e2, g2, r2, d2, b2, _⟩ := op_rowsB (fun _ _ => True) St.d Tryz.underlying32 ce_stE (by omega) by_stE f2 hw.right.right.left fun m y cs' hm h1 h2 => (op_st m cs' y h1 h2).imp fun _ h => ⟨h, trivial⟩
    obtain rfl := List.cons.inj e2 |>.1
    obtain ⟨v3, e3⟩ := op_bool Tryz.underlying4 f3
    obtain rfl := List.cons.inj e3 |>.1
    obtain ⟨v4, A4, k4, e4, g4, r4, d4⟩ := op_rows Ex.d Tryz.underlying34 ce_exE (by omega) by_exE f4 hw.right.right.right.right.left fun m y cs' hm h1 h2 => op_ex m cs' y h1 h2
    obtain rfl := List.cons.inj e4 |>.1
    refine ⟨⟨v0, v1, v2, v3, v4⟩, ⟨rfl, ⟨A1, k1, by rw [List.length_map], by rw [List.length_map]; exact g1, by rw [List.length_map]; exact r1, d1⟩, ⟨A2, k2, by rw [St.ds_length], by rw [St.ds_length]; exact g2, by rw [St.ds_length]; exact r2, by rw [St.ds_eq]; exact d2⟩, rfl, ⟨A4, k4, by rw [Ex.ds_length], by rw [Ex.ds_length]; exact g4, by rw [Ex.ds_length]; exact r4, by rw [Ex.ds_eq]; exact d4⟩, trivial⟩, ?_⟩
    show v2.length ≤ _
    have : Rows.uptoBulk y2.1 ≤ Rows.uptoBulkAll ([y0, y1, y2, y3, y4].map (·.1)) := bk_part (by simp)
    simp only [Rows.uptoBulk]
    omega

set_option maxRecDepth 100000 in
theorem op_progB (fuel : Nat) (v : Value) (cs : List Value) (x : DataW H × List MemPlace) (h : Trd enc w fuel 24 cs = some x) (hw : Light (x.1.weights Tryz.prog 24)) :
    ∃ (P : List Fu) (A : Option Addr) (c : Nat), cs = [.slice A P.length c] ∧ P.length ≤ c ∧ P.length * 96 ≤ reach ∧ RdRows (InW w) w 5 A 0 (P.map Fu.d) ∧ P.length ≤ Rows.uptoBulk x.1 ∧ ∀ f ∈ P, f.body.length ≤ Rows.uptoBulk x.1 := by
  obtain ⟨xs, m, hm, rfl, hl, hxl, hf⟩ := DataW.trod_struct Tryz.underlying24 h
  rw [ce_pr] at hl
  match cs, hl, xs, hxl with
  | [c0], _, [y0], _ =>
  simp only [DataW.weights, Tryz.underlying24, List.map_cons, List.map_nil, DataW.weightsEach] at hw
  have f0 : Trd enc w m 22 [c0] = some y0 := fld (hf 0 _ rfl) rfl rfl ce_fu rfl rfl
  obtain ⟨P, A, c, e, h1, h2, h3, h4, h5⟩ := op_rowsB (fun (f : Fu) d => f.body.length ≤ Rows.uptoBulk d) Fu.d Tryz.underlying22 ce_fuE (by omega) by_fuE f0 hw.left fun m y cs' hm h1 h2 => op_fuB m cs' y h1 h2
  have hb : Rows.uptoBulk y0.1 ≤ Rows.uptoBulkAll ([y0].map (·.1)) := bk_part (by simp)
  refine ⟨P, A, c, e, h1, h2, h3, by simp only [Rows.uptoBulk]; omega, fun f hf => ?_⟩
  obtain ⟨i, hi, rfl⟩ := List.getElem_of_mem hf
  obtain ⟨d, hd, hd2⟩ := h5 i hi
  simp only [Rows.uptoBulk]
  omega
theorem op_stsB (fuel : Nat) (cs : List Value) (x : DataW H × List MemPlace) (h : Trd enc w fuel 32 cs = some x) (hw : Light (x.1.weights Tryz.prog 32)) :
    ∃ (M : List St) (A : Option Addr) (c : Nat), cs = [.slice A M.length c] ∧ M.length ≤ c ∧ M.length * 144 ≤ reach ∧ RdRows (InW w) w 9 A 0 (St.ds M) ∧ M.length ≤ Rows.uptoBulk x.1 := by
  obtain ⟨M, A, c, e, h1, h2, h3, h4, _⟩ := op_rowsB (fun _ _ => True) St.d Tryz.underlying32 ce_stE (by omega) by_stE h hw fun m y cs' hm h1 h2 => (op_st m cs' y h1 h2).imp fun _ h => ⟨h, trivial⟩
  exact ⟨M, A, c, e, h1, h2, by rw [St.ds_eq]; exact h3, h4⟩
end
end Go.Proofs.YtfncbemligfloaaGreatDoor
