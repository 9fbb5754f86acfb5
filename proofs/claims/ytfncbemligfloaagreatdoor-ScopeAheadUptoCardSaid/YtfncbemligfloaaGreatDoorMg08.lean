/- Contracts and laws, file 8: PrH, PrI, ScI, AlA, AsB, AlB, LgA -/
import Derived.Test.YtfncbemligfloaaGreatDoorMg07
import Derived.Deep.DeepCutAuto
import Derived.Deep.CutBlock
import Derived.Deep.RegionWith
import Derived.Laws.StructEq
import Derived.IntWalk
/- Contracts of the reference's parser: a function. -/
namespace Go.Proofs.YtfncbemligfloaaGreatDoor
open Go.RowKit
set_option linter.unusedVariables false
set_option linter.unusedSimpArgs false
/-- The rows of a function. -/
structure FuRd (ok : Nat → Prop) (w : World) (s : Fu) (A1 A2 A3 : Option Addr) (c1 c2 c3 : Nat) : Prop where
  params : s.params.length ≤ c1 ∧ s.params.length * 24 ≤ reach ∧ RdRows ok w 4 A1 0 (s.params.map Pa.d)
  body : s.body.length ≤ c2 ∧ s.body.length * 144 ≤ reach ∧ RdRows ok w 9 A2 0 (St.ds s.body)
  ret : s.ret.length ≤ c3 ∧ s.ret.length * 64 ≤ reach ∧ RdRows ok w 5 A3 0 (Ex.ds s.ret)
def headP (ts : List Tk) (i : Nat) : Option (List Pa × Nat) :=
  if i < ts.length ∧ nmT (ts.getD i Tk.zero) = true ∧ i + 1 < ts.length ∧ tkK ts 4 gPar (i + 1) = true ∧ i + 1 + 1 < ts.length then
    (if tkK ts 4 gUnpar (i + 1 + 1) then some ([], i + 1 + 1 + 1)
     else if tkK ts 2 wNum (i + 1 + 1) = true ∧ i + 1 + 1 + 1 < ts.length ∧ nmT (ts.getD (i + 1 + 1 + 1) Tk.zero) = true ∧ i + 1 + 1 + 1 + 1 < ts.length ∧ tkK ts 4 gUnpar (i + 1 + 1 + 1 + 1) = true then some ([⟨(ts.getD (i + 1 + 1 + 1) Tk.zero).text, false, false, false⟩], i + 1 + 1 + 1 + 1 + 1) else none)
  else none
def tailP (ts : List Tk) (i : Nat) : Option (List Ex × Nat) :=
  if i < ts.length then
    (if tkK ts 4 gEq i then (if i + 1 < ts.length ∧ tkK ts 2 wSecret (i + 1) = false then (exprP ts (i + 1)).bind fun e => if e.2 < ts.length ∧ tkK ts 4 gSem e.2 = true then some ([e.1], e.2 + 1) else none else none)
     else if tkK ts 4 gSem i = true then some ([], i + 1) else none)
  else none
def fnP (ts : List Tk) (f n i : Nat) : Option (Fu × Nat × Nat) :=
  (headP ts i).bind fun p => (blP ts f 1 n p.2).bind fun b => (tailP ts b.2.2).map fun r => (⟨(ts.getD i Tk.zero).text, p.1, b.1, false, r.1⟩, b.2.1, r.2)
theorem rd_pa1 {ok : Nat → Prop} {w : World} {g : Nat} {nm : ByteArray} {Z : Array Value} (h : w.heap[g]? = some (.cells (#[.string nm, .bool false, .bool false, .bool false] ++ Z) 50 (0, 0))) (hg : ok g) : RdRows ok w 4 (some ⟨g, 0, none⟩) 0 ([⟨nm, false, false, false⟩].map Pa.d) := by
  have hc := (cells_of h).1
  have hq : ∀ i v, i < 4 → (#[.string nm, .bool false, .bool false, .bool false] : Array Value)[i]? = some v → w.cell? ⟨g, i, none⟩ = some v := fun i v hi hv => hc i v (by rw [Array.getElem?_append_left (by simpa using hi)]; exact hv)
  exact ⟨⟨g, 0, rfl, hg, rfl, ⟨_, hq 0 _ (by omega) rfl, rfl⟩, ⟨_, hq 1 _ (by omega) rfl, rfl⟩, ⟨_, hq 2 _ (by omega) rfl, rfl⟩, ⟨_, hq 3 _ (by omega) rfl, rfl⟩, trivial⟩, trivial⟩

set_option maxRecDepth 100000 in
set_option maxHeartbeats 8000000 in
theorem pfunc_any (ok : Nat → Prop) (ts : List Tk) (A : Option Addr) (c be bp f : Nat) (BK : BlkC ok ts A c be bp f) (w : World) (i n : Nat) (x : Fu) (n' j : Nat) (h : PsAt ok ts A c be bp w i n) (hok : ∀ q, ok q → q < w.heap.size) (hx : fnP ts f n i = some (x, n', j)) :
   Calls Tryz.prog 59 #[.pointer (some ⟨bp, 0, none⟩)] w fun e w' => ∃ A1 A2 A3 c1 c2 c3, e = .returned (.agg #[.string x.name, .slice A1 x.params.length c1, .slice A2 x.body.length c2, .bool x.sec, .slice A3 x.ret.length c3]) ∧ Fr (PS be bp) w w' ∧ PsAt ok ts A c be bp w' j n' ∧ FuRd (New w.heap.size w') w' x A1 A2 A3 c1 c2 c3 := by
  have hbe := blk_lt h.eye.blk
  have hbp := blk_lt h.blk
  rw [fnP] at hx
  cases hh : headP ts i with
  | none => rw [hh] at hx; cases hx
  | some p =>
  obtain ⟨ps, i3⟩ := p
  rw [hh, Option.bind_some] at hx
  cases hb : blP ts f 1 n i3 with
  | none => simp only [hb] at hx; cases hx
  | some b =>
  obtain ⟨l, n2, j1⟩ := b
  simp only [hb, Option.bind_some] at hx
  cases ht : tailP ts j1 with
  | none => rw [ht] at hx; cases hx
  | some r =>
  obtain ⟨rl, j2⟩ := r
  rw [ht] at hx
  simp only [Option.map_some, Option.some.injEq, Prod.mk.injEq] at hx
  obtain ⟨rfl, rfl, rfl⟩ := hx
  rw [headP] at hh
  split at hh
  case isFalse => cases hh
  case isTrue hc =>
  obtain ⟨hi, hnm, hi1, t1, hi2⟩ := hc
  obtain ⟨W1, HW1⟩ : ∃ W1, W1 = w.alloc (.cells #[.string ⟨#[]⟩, .slice none 0 0, .slice none 0 0, .bool false, .slice none 0 0] 36) := ⟨_, rfl⟩
  have hf1 : Fr Non w W1 := by rw [HW1]; exact (fr_refl w).alloc _
  have R1 := Lib.hid (show W1.heap[w.heap.size]? = some (.cells #[.string ⟨#[]⟩, .slice none 0 0, .slice none 0 0, .bool false, .slice none 0 0] 36 (0, 0)) by rw [HW1]; exact blk_new _ _ _)
  have H1 := Lib.hid (h.stay hf1); clear h
  have F1 := Lib.hid (show Fr (PS be bp) w W1 from hf1.non); clear hf1
  have HOK := Lib.hid hok; clear hok
  have HNQ := Lib.hid (show (ts.getD i Tk.zero).text = ts[i].text by rw [getD_at hi])
  rw [getD_at hi] at hnm
  have HNM := Lib.hid hnm; have T1 := Lib.hid t1; have HBL := Lib.hid hb; have HT := Lib.hid ht; have HH := Lib.hid hh
  clear hnm t1 hb ht hh
  have p0 := (cells_of H1.out.blk).1 0 _ rfl
  go_enter Tryz.func59, Tryz.ntmps59
  go_upto_region 1 with fail
  rw [← HW1]; clear HW1
  go_wp2_with fail
  refine (ename_any ok ts A c be W1 i H1.out.eye hi HNM.out).mono ?_
  rintro e w2 ⟨rfl, hf1, h⟩
  generalize ts[i].text = nm at *
  have H2 := Lib.hid (H1.out.moved hf1 h)
  have hf := eye_ps (bp := bp) hf1
  have R2 := Lib.hid (blk_fr R1.out hf (ps_far hbe hbp (by omega)))
  have F2 := Lib.hid (F1.out.trans hf)
  clear hf hf1 h p0
  have hz2 : w.heap.size < w2.heap.size := blk_lt R2.out
  obtain ⟨W3, HW3⟩ : ∃ W3, W3 = w2.alloc (.cells #[.string nm, .slice none 0 0, .slice none 0 0, .bool false, .slice none 0 0] 36) := ⟨_, rfl⟩
  have hf : Fr Non w2 W3 := by rw [HW3]; exact (fr_refl _).alloc _
  have S3 := Lib.hid (show W3.heap[w2.heap.size]? = some (.cells #[.string nm, .slice none 0 0, .slice none 0 0, .bool false, .slice none 0 0] 36 (0, 0)) by rw [HW3]; exact blk_new _ _ _)
  have H3 := Lib.hid (H2.out.stay hf)
  have R3 := Lib.hid (blk_fr R2.out hf (non _))
  have F3 := Lib.hid (F2.out.trans hf.non)
  clear hf
  go_upto_region 2 with fail
  rw [← HW3]; clear HW3
  have p0 := (cells_of H3.out.blk).1 0 _ rfl
  go_wp2_with fail
  refine (need_any ok ts A c be W3 (i + 1) ⟨#[40]⟩ H3.out.eye hi1 T1.out).mono ?_
  rintro e w4 ⟨rfl, hf1, h⟩
  have H4 := Lib.hid (H3.out.moved hf1 h)
  have hf := eye_ps (bp := bp) hf1
  have R4 := Lib.hid (blk_fr R3.out hf (ps_far hbe hbp (by omega)))
  have S4 := Lib.hid (blk_fr S3.out hf (ps_far hbe hbp (by omega)))
  have F4 := Lib.hid (F3.out.trans hf)
  clear hf hf1 h p0
  cases t2 : tkK ts 4 gUnpar (i + 1 + 1) with
  | true =>
    have hh := HH.out
    rw [t2, if_pos rfl] at hh
    simp only [Option.some.injEq, Prod.mk.injEq] at hh
    obtain ⟨rfl, rfl⟩ := hh
    have T2 := Lib.hid t2
    clear t2 HH
    go_wp2_with fail
    refine wp_loop_rounds 1 ?_
    rw [rounds_succ]
    go_wp2_with fail
    refine (pfine_any ok ts A c be bp w4 (i + 1 + 1) n H4.out).mono ?_
    rintro e wq ⟨rfl, rfl⟩
    have p0 := (cells_of H4.out.blk).1 0 _ rfl
    go_wp2_with fail
    refine (esign_any ok ts A c be w4 (i + 1 + 1) ⟨#[41]⟩ H4.out.eye hi2).mono ?_
    rintro e w5 ⟨rfl, hf1, h⟩
    rw [show tkK ts 4 ⟨#[41]⟩ (i + 1 + 1) = true from T2.out]
    rw [eyeI_t (show tkK ts 4 ⟨#[41]⟩ (i + 1 + 1) = true from T2.out)] at h
    have H5 := Lib.hid (H4.out.moved hf1 h)
    have hf := eye_ps (bp := bp) hf1
    have R5 := Lib.hid (blk_fr R4.out hf (ps_far hbe hbp (by omega)))
    have S5 := Lib.hid (blk_fr S4.out hf (ps_far hbe hbp (by omega)))
    have F5 := Lib.hid (F4.out.trans hf)
    clear hf hf1 h p0
    go_wp2_with fail
    refine (BK 1 n (i + 1 + 1 + 1) l n2 j1 w5 HBL.out (by omega) H5.out (fun q hq => by have := HOK.out q hq; have := F5.out.size; omega)).mono ?_
    rintro e w6 ⟨A3, c3, rfl, hc3, hl4, hf, h, hr⟩
    have H6 := Lib.hid h
    have y5 := blk_lt S5.out
    have R6 := Lib.hid (blk_fr R5.out hf (ps_far hbe hbp (by omega)))
    have S6 := Lib.hid (blk_fr S5.out hf (ps_far hbe hbp (by omega)))
    have F6 := Lib.hid (F5.out.trans hf)
    have Y6 := Lib.hid hr
    clear hf h hr
    have sx := (cells_of S6.out).1 2 _ rfl
    have sf := (cells_of S6.out).2
    go_upto_region 10 with fail
    have hf : Fr (fun q => q = w2.heap.size) w6 (w6.setCell ⟨w2.heap.size, 2, none⟩ (.slice A3 l.length c3)) := (Fr.refl _ _).setCell _ _ (.inl rfl)
    have hs := blk_set S6.out 2 (.slice A3 l.length c3)
    have S7 := Lib.hid (show (w6.setCell ⟨w2.heap.size, 2, none⟩ (.slice A3 l.length c3)).heap[w2.heap.size]? = some (.cells #[(.string nm), (.slice none 0 0), (.slice A3 l.length c3), (.bool false), (.slice none 0 0)] 36 (0, 0)) from hs)
    have H7 := Lib.hid (H6.out.away hf (by omega) (by omega) (fun q hq e => by have e : q = w2.heap.size := e; have := HOK.out q hq; omega))
    have R7 := Lib.hid (blk_fr R6.out hf (by omega))
    have F7 := Lib.hid (ps_new F6.out hf (by omega))
    have Y7 := Lib.hid (rows_keep Y6.out hf (fun k hk => by have hk : k = w2.heap.size := hk; omega) (Nat.le_refl _))
    generalize w6.setCell ⟨w2.heap.size, 2, none⟩ (.slice A3 l.length c3) = w7 at *
    clear sx sf hf hs
    have ht := HT.out
    rw [tailP] at ht
    split at ht
    case isFalse => cases ht
    case isTrue hj1 =>
    cases te : tkK ts 4 gEq j1 with
    | true =>
      rw [te, if_pos rfl] at ht
      split at ht
      case isFalse => cases ht
      case isTrue hq =>
      obtain ⟨hj2, ts2⟩ := hq
      cases he : exprP ts (j1 + 1) with
      | none => rw [he] at ht; cases ht
      | some r =>
      obtain ⟨y, k1⟩ := r
      rw [he, Option.bind_some] at ht
      split at ht
      case isFalse => cases ht
      case isTrue hq2 =>
      obtain ⟨hk1, ts3⟩ := hq2
      simp only [Option.some.injEq, Prod.mk.injEq] at ht
      obtain ⟨rfl, rfl⟩ := ht
      have TE := Lib.hid te; have TS2 := Lib.hid ts2; have TS3 := Lib.hid ts3; have HE := Lib.hid he
      clear te ts2 ts3 he HT
      have p0 := (cells_of H7.out.blk).1 0 _ rfl
      go_wp2_with fail
      refine (esign_any ok ts A c be w7 (j1) ⟨#[61]⟩ H7.out.eye hj1).mono ?_
      rintro e w8 ⟨rfl, hf1, h⟩
      rw [show tkK ts 4 ⟨#[61]⟩ (j1) = true from TE.out]
      rw [eyeI_t (show tkK ts 4 ⟨#[61]⟩ (j1) = true from TE.out)] at h
      have H8 := Lib.hid (H7.out.moved hf1 h)
      have hf := eye_ps (bp := bp) hf1
      have R8 := Lib.hid (blk_fr R7.out hf (ps_far hbe hbp (by omega)))
      have S8 := Lib.hid (blk_fr S7.out hf (ps_far hbe hbp (by omega)))
      have F8 := Lib.hid (F7.out.trans hf)
      have Y8 := Lib.hid (rows_keep Y7.out hf (ps_lt (by omega) (by omega)) (Nat.le_refl _))
      clear hf hf1 h p0
      go_wp2_with fail
      refine (eword_any ok ts A c be bp w8 (j1 + 1) n2 ⟨#[115, 101, 99, 114, 101, 116]⟩ H8.out hj2).mono ?_
      rintro e w9 ⟨rfl, hf, h⟩
      rw [show tkK ts 2 ⟨#[115, 101, 99, 114, 101, 116]⟩ (j1 + 1) = false from TS2.out]
      rw [eyeI_f (show tkK ts 2 ⟨#[115, 101, 99, 114, 101, 116]⟩ (j1 + 1) = false from TS2.out)] at h
      have H9 := Lib.hid h
      have R9 := Lib.hid (blk_fr R8.out hf (ps_far hbe hbp (by omega)))
      have S9 := Lib.hid (blk_fr S8.out hf (ps_far hbe hbp (by omega)))
      have F9 := Lib.hid (F8.out.trans hf)
      have Y9 := Lib.hid (rows_keep Y8.out hf (ps_lt (by omega) (by omega)) (Nat.le_refl _))
      clear hf h
      have sx := (cells_of S9.out).1 3 _ rfl
      have sf := (cells_of S9.out).2
      go_upto_region 12 with fail
      have hf : Fr (fun q => q = w2.heap.size) w9 (w9.setCell ⟨w2.heap.size, 3, none⟩ (.bool false)) := (Fr.refl _ _).setCell _ _ (.inl rfl)
      have hs := blk_set S9.out 3 (.bool false)
      have S10 := Lib.hid (show (w9.setCell ⟨w2.heap.size, 3, none⟩ (.bool false)).heap[w2.heap.size]? = some (.cells #[(.string nm), (.slice none 0 0), (.slice A3 l.length c3), (.bool false), (.slice none 0 0)] 36 (0, 0)) from hs)
      have H10 := Lib.hid (H9.out.away hf (by omega) (by omega) (fun q hq e => by have e : q = w2.heap.size := e; have := HOK.out q hq; omega))
      have R10 := Lib.hid (blk_fr R9.out hf (by omega))
      have F10 := Lib.hid (ps_new F9.out hf (by omega))
      have Y10 := Lib.hid (rows_keep Y9.out hf (fun k hk => by have hk : k = w2.heap.size := hk; omega) (Nat.le_refl _))
      generalize w9.setCell ⟨w2.heap.size, 3, none⟩ (.bool false) = w10 at *
      clear sx sf hf hs
      go_wp2_with fail
      refine (eexprs_any ok ts A c be bp w10 (j1 + 1) n2 y k1 H10.out HE.out (fun q hq => by have := HOK.out q hq; have := F10.out.size; omega)).mono ?_
      rintro e w11 ⟨g, rfl, hf, h, hr⟩
      have H11 := Lib.hid h
      have y10 := blk_lt S10.out
      have R11 := Lib.hid (blk_fr R10.out hf (ps_far hbe hbp (by omega)))
      have S11 := Lib.hid (blk_fr S10.out hf (ps_far hbe hbp (by omega)))
      have F11 := Lib.hid (F10.out.trans hf)
      have Y11 := Lib.hid (rows_keep Y10.out hf (ps_lt (by omega) (by omega)) (Nat.le_refl _))
      have X11 := Lib.hid hr
      clear hf h hr
      have sx := (cells_of S11.out).1 4 _ rfl
      have sf := (cells_of S11.out).2
      go_upto_region 13 with fail
      have hf : Fr (fun q => q = w2.heap.size) w11 (w11.setCell ⟨w2.heap.size, 4, none⟩ (.slice (some ⟨g, 0, none⟩) 1 1)) := (Fr.refl _ _).setCell _ _ (.inl rfl)
      have hs := blk_set S11.out 4 (.slice (some ⟨g, 0, none⟩) 1 1)
      have S12 := Lib.hid (show (w11.setCell ⟨w2.heap.size, 4, none⟩ (.slice (some ⟨g, 0, none⟩) 1 1)).heap[w2.heap.size]? = some (.cells #[(.string nm), (.slice none 0 0), (.slice A3 l.length c3), (.bool false), (.slice (some ⟨g, 0, none⟩) 1 1)] 36 (0, 0)) from hs)
      have H12 := Lib.hid (H11.out.away hf (by omega) (by omega) (fun q hq e => by have e : q = w2.heap.size := e; have := HOK.out q hq; omega))
      have R12 := Lib.hid (blk_fr R11.out hf (by omega))
      have F12 := Lib.hid (ps_new F11.out hf (by omega))
      have Y12 := Lib.hid (rows_keep Y11.out hf (fun k hk => by have hk : k = w2.heap.size := hk; omega) (Nat.le_refl _))
      have X12 := Lib.hid (rows_keep X11.out hf (fun k hk => by have hk : k = w2.heap.size := hk; omega) (Nat.le_refl _))
      generalize w11.setCell ⟨w2.heap.size, 4, none⟩ (.slice (some ⟨g, 0, none⟩) 1 1) = w12 at *
      clear sx sf hf hs
      have p0 := (cells_of H12.out.blk).1 0 _ rfl
      go_wp2_with fail
      refine (need_any ok ts A c be w12 k1 ⟨#[59]⟩ H12.out.eye hk1 TS3.out).mono ?_
      rintro e w13 ⟨rfl, hf1, h⟩
      have H13 := Lib.hid (H12.out.moved hf1 h)
      have hf := eye_ps (bp := bp) hf1
      have R13 := Lib.hid (blk_fr R12.out hf (ps_far hbe hbp (by omega)))
      have S13 := Lib.hid (blk_fr S12.out hf (ps_far hbe hbp (by omega)))
      have F13 := Lib.hid (F12.out.trans hf)
      have Y13 := Lib.hid (rows_keep Y12.out hf (ps_lt (by omega) (by omega)) (Nat.le_refl _))
      have X13 := Lib.hid (rows_keep X12.out hf (ps_lt (by omega) (by omega)) (Nat.le_refl _))
      clear hf hf1 h p0
      have l0 := (cells_of S13.out).1 0 _ rfl
      have r0 := (cells_of R13.out).1 0 _ rfl
      have l1 := (cells_of S13.out).1 1 _ rfl
      have r1 := (cells_of R13.out).1 1 _ rfl
      have l2 := (cells_of S13.out).1 2 _ rfl
      have r2 := (cells_of R13.out).1 2 _ rfl
      have l3 := (cells_of S13.out).1 3 _ rfl
      have r3 := (cells_of R13.out).1 3 _ rfl
      have l4 := (cells_of S13.out).1 4 _ rfl
      have r4 := (cells_of R13.out).1 4 _ rfl
      have rf := (cells_of R13.out).2
      go_wp2_with fail
      have HZ := Lib.hid (blk_put5 R13.out (.string nm) (.slice none 0 0) (.slice A3 l.length c3) (.bool false) (.slice (some ⟨g, 0, none⟩) 1 1))
      have HFZ := Lib.hid (fr_put5 (g := w.heap.size) (w := w13) (.string nm) (.slice none 0 0) (.slice A3 l.length c3) (.bool false) (.slice (some ⟨g, 0, none⟩) 1 1))
      generalize (((((w13.setCell ⟨w.heap.size, 0, none⟩ (.string nm)).setCell ⟨w.heap.size, 1, none⟩ (.slice none 0 0)).setCell ⟨w.heap.size, 2, none⟩ (.slice A3 l.length c3)).setCell ⟨w.heap.size, 3, none⟩ (.bool false)).setCell ⟨w.heap.size, 4, none⟩ (.slice (some ⟨g, 0, none⟩) 1 1)) = wz at *
      clear l0 l1 l2 l3 l4 r0 r1 r2 r3 r4 rf
      have YZ := Lib.hid (rows_keep Y13.out HFZ.out (fun k hk => by have hk : k = w.heap.size := hk; omega) (lo0 := w.heap.size) (by omega))
      have XZ := Lib.hid (rows_keep X13.out HFZ.out (fun k hk => by have hk : k = w.heap.size := hk; omega) (lo0 := w.heap.size) (by omega))
      have f0 := (cells_of HZ.out).1 0 _ rfl
      have f1 := (cells_of HZ.out).1 1 _ rfl
      have f2 := (cells_of HZ.out).1 2 _ rfl
      have f3 := (cells_of HZ.out).1 3 _ rfl
      have f4 := (cells_of HZ.out).1 4 _ rfl
      rw [HNQ.out]
      refine bodyPost_ret (v := .agg #[(.string nm), (.slice none 0 0), (.slice A3 l.length c3), (.bool false), (.slice (some ⟨g, 0, none⟩) 1 1)]) (by simp [results, Tryz.results59, go_sem, f0, f1, f2, f3, f4]) rfl ⟨_, _, _, _, _, _, rfl, ps_new F13.out HFZ.out (Nat.le_refl _), H13.out.away HFZ.out (by omega) (by omega) (fun q hq e => by have e : q = w.heap.size := e; have := HOK.out q hq; omega), ?_⟩
      exact ⟨⟨Nat.zero_le _, (by decide : 0 * 24 ≤ reach), trivial⟩, ⟨hc3, (by show l.length * 144 ≤ reach; unfold reach; omega), YZ.out⟩, ⟨Nat.le_refl 1, (by decide : 1 * 64 ≤ reach), XZ.out⟩⟩
    | false =>
      rw [te, if_neg Bool.false_ne_true] at ht
      split at ht
      case isFalse => cases ht
      case isTrue ts3 =>
      simp only [Option.some.injEq, Prod.mk.injEq] at ht
      obtain ⟨rfl, rfl⟩ := ht
      have TE := Lib.hid te; have TS3 := Lib.hid ts3
      clear te ts3 HT
      have p0 := (cells_of H7.out.blk).1 0 _ rfl
      go_wp2_with fail
      refine (esign_any ok ts A c be w7 (j1) ⟨#[61]⟩ H7.out.eye hj1).mono ?_
      rintro e w8 ⟨rfl, hf1, h⟩
      rw [show tkK ts 4 ⟨#[61]⟩ (j1) = false from TE.out]
      rw [eyeI_f (show tkK ts 4 ⟨#[61]⟩ (j1) = false from TE.out)] at h
      have H8 := Lib.hid (H7.out.moved hf1 h)
      have hf := eye_ps (bp := bp) hf1
      have R8 := Lib.hid (blk_fr R7.out hf (ps_far hbe hbp (by omega)))
      have S8 := Lib.hid (blk_fr S7.out hf (ps_far hbe hbp (by omega)))
      have F8 := Lib.hid (F7.out.trans hf)
      have Y8 := Lib.hid (rows_keep Y7.out hf (ps_lt (by omega) (by omega)) (Nat.le_refl _))
      clear hf hf1 h p0
      have p0 := (cells_of H8.out.blk).1 0 _ rfl
      go_wp2_with fail
      refine (need_any ok ts A c be w8 j1 ⟨#[59]⟩ H8.out.eye hj1 TS3.out).mono ?_
      rintro e w9 ⟨rfl, hf1, h⟩
      have H9 := Lib.hid (H8.out.moved hf1 h)
      have hf := eye_ps (bp := bp) hf1
      have R9 := Lib.hid (blk_fr R8.out hf (ps_far hbe hbp (by omega)))
      have S9 := Lib.hid (blk_fr S8.out hf (ps_far hbe hbp (by omega)))
      have F9 := Lib.hid (F8.out.trans hf)
      have Y9 := Lib.hid (rows_keep Y8.out hf (ps_lt (by omega) (by omega)) (Nat.le_refl _))
      clear hf hf1 h p0
      have l0 := (cells_of S9.out).1 0 _ rfl
      have r0 := (cells_of R9.out).1 0 _ rfl
      have l1 := (cells_of S9.out).1 1 _ rfl
      have r1 := (cells_of R9.out).1 1 _ rfl
      have l2 := (cells_of S9.out).1 2 _ rfl
      have r2 := (cells_of R9.out).1 2 _ rfl
      have l3 := (cells_of S9.out).1 3 _ rfl
      have r3 := (cells_of R9.out).1 3 _ rfl
      have l4 := (cells_of S9.out).1 4 _ rfl
      have r4 := (cells_of R9.out).1 4 _ rfl
      have rf := (cells_of R9.out).2
      go_wp2_with fail
      have HZ := Lib.hid (blk_put5 R9.out (.string nm) (.slice none 0 0) (.slice A3 l.length c3) (.bool false) (.slice none 0 0))
      have HFZ := Lib.hid (fr_put5 (g := w.heap.size) (w := w9) (.string nm) (.slice none 0 0) (.slice A3 l.length c3) (.bool false) (.slice none 0 0))
      generalize (((((w9.setCell ⟨w.heap.size, 0, none⟩ (.string nm)).setCell ⟨w.heap.size, 1, none⟩ (.slice none 0 0)).setCell ⟨w.heap.size, 2, none⟩ (.slice A3 l.length c3)).setCell ⟨w.heap.size, 3, none⟩ (.bool false)).setCell ⟨w.heap.size, 4, none⟩ (.slice none 0 0)) = wz at *
      clear l0 l1 l2 l3 l4 r0 r1 r2 r3 r4 rf
      have YZ := Lib.hid (rows_keep Y9.out HFZ.out (fun k hk => by have hk : k = w.heap.size := hk; omega) (lo0 := w.heap.size) (by omega))
      have f0 := (cells_of HZ.out).1 0 _ rfl
      have f1 := (cells_of HZ.out).1 1 _ rfl
      have f2 := (cells_of HZ.out).1 2 _ rfl
      have f3 := (cells_of HZ.out).1 3 _ rfl
      have f4 := (cells_of HZ.out).1 4 _ rfl
      rw [HNQ.out]
      refine bodyPost_ret (v := .agg #[(.string nm), (.slice none 0 0), (.slice A3 l.length c3), (.bool false), (.slice none 0 0)]) (by simp [results, Tryz.results59, go_sem, f0, f1, f2, f3, f4]) rfl ⟨_, _, _, _, _, _, rfl, ps_new F9.out HFZ.out (Nat.le_refl _), H9.out.away HFZ.out (by omega) (by omega) (fun q hq e => by have e : q = w.heap.size := e; have := HOK.out q hq; omega), ?_⟩
      exact ⟨⟨Nat.zero_le _, (by decide : 0 * 24 ≤ reach), trivial⟩, ⟨hc3, (by show l.length * 144 ≤ reach; unfold reach; omega), YZ.out⟩, ⟨Nat.zero_le _, (by decide : 0 * 64 ≤ reach), trivial⟩⟩
  | false =>
    have hh := HH.out
    rw [t2, if_neg Bool.false_ne_true] at hh
    split at hh
    case isFalse => cases hh
    case isTrue hq =>
    obtain ⟨t3, hi3, hnm2, hi4, t4⟩ := hq
    simp only [Option.some.injEq, Prod.mk.injEq] at hh
    obtain ⟨rfl, rfl⟩ := hh
    have HNQ2 := Lib.hid (show (ts.getD (i + 1 + 1 + 1) Tk.zero).text = ts[i + 1 + 1 + 1].text by rw [getD_at hi3])
    rw [getD_at hi3] at hnm2
    have T2 := Lib.hid t2; have T3 := Lib.hid t3; have T4 := Lib.hid t4; have HNM2 := Lib.hid hnm2
    clear t2 t3 t4 hnm2 HH
    go_wp2_with fail
    refine wp_loop_rounds 2 ?_
    rw [rounds_succ]
    go_wp2_with fail
    refine (pfine_any ok ts A c be bp w4 (i + 1 + 1) n H4.out).mono ?_
    rintro e wq ⟨rfl, rfl⟩
    have p0 := (cells_of H4.out.blk).1 0 _ rfl
    go_wp2_with fail
    refine (esign_any ok ts A c be w4 (i + 1 + 1) ⟨#[41]⟩ H4.out.eye hi2).mono ?_
    rintro e w5 ⟨rfl, hf1, h⟩
    rw [show tkK ts 4 ⟨#[41]⟩ (i + 1 + 1) = false from T2.out]
    rw [eyeI_f (show tkK ts 4 ⟨#[41]⟩ (i + 1 + 1) = false from T2.out)] at h
    have H5 := Lib.hid (H4.out.moved hf1 h)
    have hf := eye_ps (bp := bp) hf1
    have R5 := Lib.hid (blk_fr R4.out hf (ps_far hbe hbp (by omega)))
    have S5 := Lib.hid (blk_fr S4.out hf (ps_far hbe hbp (by omega)))
    have F5 := Lib.hid (F4.out.trans hf)
    clear hf hf1 h p0
    have s1 := (cells_of S5.out).1 1 _ rfl
    have sf := (cells_of S5.out).2
    have y5 := blk_lt S5.out
    have HCE := Lib.hid (pparam_any ok ts A c be bp w5.drew (i + 1 + 1) n ts[i + 1 + 1 + 1].text (H5.out.stay (fr_refl w5).drew) (fun q hq => by have := HOK.out q hq; show q < w5.heap.size; omega) hi2 T3.out hi3 HNM2.out rfl)
    generalize ts[i + 1 + 1 + 1].text = pn at *
    go_upto_region 8 with fail
    go_region_with (go_at_call 81; refine HCE.out.mono ?_; rintro e w7 ⟨rfl, hf6, h6⟩; have s1 := hf6.cell' s1 (ps_far (q := w2.heap.size) hbe hbp (by omega)); have sf := (cells_of (blk_fr (blk_fr S5.out (fr_refl w5).drew (non _)) hf6 (ps_far (q := w2.heap.size) hbe hbp (by omega)))).2; have hz6 : w2.heap.size < w7.heap.size := Nat.lt_of_lt_of_le y5 hf6.size)
    all_goals
      have HFX := Lib.hid (show Fr (fun q => q = w2.heap.size) w7 ((((w7.setCell ⟨w2.heap.size, 1, none⟩ (.slice (some ⟨w7.heap.size + 1, 0, none⟩) 1 ((Question.appendCap 1 0 50).cut (w7.tape w7.drawn (Question.appendCap 1 0 50))))).alloc (.cells #[.string pn, .bool false, .bool false, .bool false] 50)).alloc (.cells (#[.string pn, .bool false, .bool false, .bool false] ++ Builtin.zeroCells #[.string ⟨#[]⟩, .bool false, .bool false, .bool false] (((Question.appendCap 1 0 50).cut (w7.tape w7.drawn (Question.appendCap 1 0 50))) - 1)) 50)).drew) from ((((Fr.refl (fun q => q = w2.heap.size) w7).setCell ⟨w2.heap.size, 1, none⟩ _ (.inl rfl)).alloc _).alloc _).drew)
      have HXX := Lib.hid (show ((((w7.setCell ⟨w2.heap.size, 1, none⟩ (.slice (some ⟨w7.heap.size + 1, 0, none⟩) 1 ((Question.appendCap 1 0 50).cut (w7.tape w7.drawn (Question.appendCap 1 0 50))))).alloc (.cells #[.string pn, .bool false, .bool false, .bool false] 50)).alloc (.cells (#[.string pn, .bool false, .bool false, .bool false] ++ Builtin.zeroCells #[.string ⟨#[]⟩, .bool false, .bool false, .bool false] (((Question.appendCap 1 0 50).cut (w7.tape w7.drawn (Question.appendCap 1 0 50))) - 1)) 50)).drew).heap[w7.heap.size + 1]? = some (.cells (#[.string pn, .bool false, .bool false, .bool false] ++ Builtin.zeroCells #[.string ⟨#[]⟩, .bool false, .bool false, .bool false] (((Question.appendCap 1 0 50).cut (w7.tape w7.drawn (Question.appendCap 1 0 50))) - 1)) 50 (0, 0)) from blk_new' (by simp) _ _)
      have S6 := Lib.hid (blk_fr (blk_fr S5.out (fr_refl w5).drew (non _)) hf6 (ps_far hbe hbp (by omega)))
      have S8 := Lib.hid (show ((((w7.setCell ⟨w2.heap.size, 1, none⟩ (.slice (some ⟨w7.heap.size + 1, 0, none⟩) 1 ((Question.appendCap 1 0 50).cut (w7.tape w7.drawn (Question.appendCap 1 0 50))))).alloc (.cells #[.string pn, .bool false, .bool false, .bool false] 50)).alloc (.cells (#[.string pn, .bool false, .bool false, .bool false] ++ Builtin.zeroCells #[.string ⟨#[]⟩, .bool false, .bool false, .bool false] (((Question.appendCap 1 0 50).cut (w7.tape w7.drawn (Question.appendCap 1 0 50))) - 1)) 50)).drew).heap[w2.heap.size]? = some (.cells #[.string nm, .slice (some ⟨w7.heap.size + 1, 0, none⟩) 1 ((Question.appendCap 1 0 50).cut (w7.tape w7.drawn (Question.appendCap 1 0 50))), .slice none 0 0, .bool false, .slice none 0 0] 36 (0, 0)) from blk_old (blk_old (blk_set S6.out 1 _)))
      have hC := cap_one w7 50
      have R6 := Lib.hid (blk_fr (blk_fr R5.out (fr_refl w5).drew (non _)) hf6 (ps_far hbe hbp (by omega)))
      have H6 := Lib.hid h6
      have F6 := Lib.hid ((F5.out.trans (fr_refl w5).drew.non).trans hf6)
      clear s1 sf hf6 h6
      generalize (Question.appendCap 1 0 50).cut (w7.tape w7.drawn (Question.appendCap 1 0 50)) = C at *
      generalize ((((w7.setCell ⟨w2.heap.size, 1, none⟩ (.slice (some ⟨w7.heap.size + 1, 0, none⟩) 1 C)).alloc (.cells #[.string pn, .bool false, .bool false, .bool false] 50)).alloc (.cells (#[.string pn, .bool false, .bool false, .bool false] ++ Builtin.zeroCells #[.string ⟨#[]⟩, .bool false, .bool false, .bool false] (C - 1)) 50)).drew) = w8 at *
      have H8 := Lib.hid (H6.out.away HFX.out (by omega) (by omega) (fun q hq e => by have e : q = w2.heap.size := e; have := HOK.out q hq; omega))
      have R8 := Lib.hid (blk_fr R6.out HFX.out (by omega))
      have F8 := Lib.hid (ps_new F6.out HFX.out (by omega))
      have hzx := blk_lt HXX.out
      have P8 := Lib.hid (rd_pa1 (ok := New w7.heap.size w8) HXX.out ⟨by omega, hzx⟩)
      have hz67 : w.heap.size < w7.heap.size := by omega
      clear HXX
      go_wp2_with fail
      rw [rounds_succ]
      go_wp2_with fail
      refine (pfine_any ok ts A c be bp w8 (i + 1 + 1 + 1 + 1) n H8.out).mono ?_
      rintro e wq ⟨rfl, rfl⟩
      have p0 := (cells_of H8.out.blk).1 0 _ rfl
      go_wp2_with fail
      refine (esign_any ok ts A c be w8 (i + 1 + 1 + 1 + 1) ⟨#[41]⟩ H8.out.eye hi4).mono ?_
      rintro e w9 ⟨rfl, hf1, h⟩
      rw [show tkK ts 4 ⟨#[41]⟩ (i + 1 + 1 + 1 + 1) = true from T4.out]
      rw [eyeI_t (show tkK ts 4 ⟨#[41]⟩ (i + 1 + 1 + 1 + 1) = true from T4.out)] at h
      have H9 := Lib.hid (H8.out.moved hf1 h)
      have hf := eye_ps (bp := bp) hf1
      have R9 := Lib.hid (blk_fr R8.out hf (ps_far hbe hbp (by omega)))
      have S9 := Lib.hid (blk_fr S8.out hf (ps_far hbe hbp (by omega)))
      have F9 := Lib.hid (F8.out.trans hf)
      have P9 := Lib.hid (rows_keep P8.out hf (ps_lt (by omega) (by omega)) (Nat.le_refl _))
      clear hf hf1 h p0
      go_wp2_with fail
      refine (BK 1 n (i + 1 + 1 + 1 + 1 + 1) l n2 j1 w9 HBL.out (by omega) H9.out (fun q hq => by have := HOK.out q hq; have := F9.out.size; omega)).mono ?_
      rintro e w10 ⟨A3, c3, rfl, hc3, hl4, hf, h, hr⟩
      have H10 := Lib.hid h
      have y9 := blk_lt S9.out
      have R10 := Lib.hid (blk_fr R9.out hf (ps_far hbe hbp (by omega)))
      have S10 := Lib.hid (blk_fr S9.out hf (ps_far hbe hbp (by omega)))
      have F10 := Lib.hid (F9.out.trans hf)
      have P10 := Lib.hid (rows_keep P9.out hf (ps_lt (by omega) (by omega)) (Nat.le_refl _))
      have Y10 := Lib.hid hr
      clear hf h hr
      have sx := (cells_of S10.out).1 2 _ rfl
      have sf := (cells_of S10.out).2
      go_upto_region 10 with fail
      have hf : Fr (fun q => q = w2.heap.size) w10 (w10.setCell ⟨w2.heap.size, 2, none⟩ (.slice A3 l.length c3)) := (Fr.refl _ _).setCell _ _ (.inl rfl)
      have hs := blk_set S10.out 2 (.slice A3 l.length c3)
      have S11 := Lib.hid (show (w10.setCell ⟨w2.heap.size, 2, none⟩ (.slice A3 l.length c3)).heap[w2.heap.size]? = some (.cells #[(.string nm), (.slice (some ⟨w7.heap.size + 1, 0, none⟩) 1 C), (.slice A3 l.length c3), (.bool false), (.slice none 0 0)] 36 (0, 0)) from hs)
      have H11 := Lib.hid (H10.out.away hf (by omega) (by omega) (fun q hq e => by have e : q = w2.heap.size := e; have := HOK.out q hq; omega))
      have R11 := Lib.hid (blk_fr R10.out hf (by omega))
      have F11 := Lib.hid (ps_new F10.out hf (by omega))
      have P11 := Lib.hid (rows_keep P10.out hf (fun k hk => by have hk : k = w2.heap.size := hk; omega) (Nat.le_refl _))
      have Y11 := Lib.hid (rows_keep Y10.out hf (fun k hk => by have hk : k = w2.heap.size := hk; omega) (Nat.le_refl _))
      generalize w10.setCell ⟨w2.heap.size, 2, none⟩ (.slice A3 l.length c3) = w11 at *
      clear sx sf hf hs
      have ht := HT.out
      rw [tailP] at ht
      split at ht
      case isFalse => cases ht
      case isTrue hj1 =>
      cases te : tkK ts 4 gEq j1 with
      | true =>
        rw [te, if_pos rfl] at ht
        split at ht
        case isFalse => cases ht
        case isTrue hq =>
        obtain ⟨hj2, ts2⟩ := hq
        cases he : exprP ts (j1 + 1) with
        | none => rw [he] at ht; cases ht
        | some r =>
        obtain ⟨y, k1⟩ := r
        rw [he, Option.bind_some] at ht
        split at ht
        case isFalse => cases ht
        case isTrue hq2 =>
        obtain ⟨hk1, ts3⟩ := hq2
        simp only [Option.some.injEq, Prod.mk.injEq] at ht
        obtain ⟨rfl, rfl⟩ := ht
        have TE := Lib.hid te; have TS2 := Lib.hid ts2; have TS3 := Lib.hid ts3; have HE := Lib.hid he
        clear te ts2 ts3 he HT
        have p0 := (cells_of H11.out.blk).1 0 _ rfl
        go_wp2_with fail
        refine (esign_any ok ts A c be w11 (j1) ⟨#[61]⟩ H11.out.eye hj1).mono ?_
        rintro e w12 ⟨rfl, hf1, h⟩
        rw [show tkK ts 4 ⟨#[61]⟩ (j1) = true from TE.out]
        rw [eyeI_t (show tkK ts 4 ⟨#[61]⟩ (j1) = true from TE.out)] at h
        have H12 := Lib.hid (H11.out.moved hf1 h)
        have hf := eye_ps (bp := bp) hf1
        have R12 := Lib.hid (blk_fr R11.out hf (ps_far hbe hbp (by omega)))
        have S12 := Lib.hid (blk_fr S11.out hf (ps_far hbe hbp (by omega)))
        have F12 := Lib.hid (F11.out.trans hf)
        have P12 := Lib.hid (rows_keep P11.out hf (ps_lt (by omega) (by omega)) (Nat.le_refl _))
        have Y12 := Lib.hid (rows_keep Y11.out hf (ps_lt (by omega) (by omega)) (Nat.le_refl _))
        clear hf hf1 h p0
        go_wp2_with fail
        refine (eword_any ok ts A c be bp w12 (j1 + 1) n2 ⟨#[115, 101, 99, 114, 101, 116]⟩ H12.out hj2).mono ?_
        rintro e w13 ⟨rfl, hf, h⟩
        rw [show tkK ts 2 ⟨#[115, 101, 99, 114, 101, 116]⟩ (j1 + 1) = false from TS2.out]
        rw [eyeI_f (show tkK ts 2 ⟨#[115, 101, 99, 114, 101, 116]⟩ (j1 + 1) = false from TS2.out)] at h
        have H13 := Lib.hid h
        have R13 := Lib.hid (blk_fr R12.out hf (ps_far hbe hbp (by omega)))
        have S13 := Lib.hid (blk_fr S12.out hf (ps_far hbe hbp (by omega)))
        have F13 := Lib.hid (F12.out.trans hf)
        have P13 := Lib.hid (rows_keep P12.out hf (ps_lt (by omega) (by omega)) (Nat.le_refl _))
        have Y13 := Lib.hid (rows_keep Y12.out hf (ps_lt (by omega) (by omega)) (Nat.le_refl _))
        clear hf h
        have sx := (cells_of S13.out).1 3 _ rfl
        have sf := (cells_of S13.out).2
        go_upto_region 12 with fail
        have hf : Fr (fun q => q = w2.heap.size) w13 (w13.setCell ⟨w2.heap.size, 3, none⟩ (.bool false)) := (Fr.refl _ _).setCell _ _ (.inl rfl)
        have hs := blk_set S13.out 3 (.bool false)
        have S14 := Lib.hid (show (w13.setCell ⟨w2.heap.size, 3, none⟩ (.bool false)).heap[w2.heap.size]? = some (.cells #[(.string nm), (.slice (some ⟨w7.heap.size + 1, 0, none⟩) 1 C), (.slice A3 l.length c3), (.bool false), (.slice none 0 0)] 36 (0, 0)) from hs)
        have H14 := Lib.hid (H13.out.away hf (by omega) (by omega) (fun q hq e => by have e : q = w2.heap.size := e; have := HOK.out q hq; omega))
        have R14 := Lib.hid (blk_fr R13.out hf (by omega))
        have F14 := Lib.hid (ps_new F13.out hf (by omega))
        have P14 := Lib.hid (rows_keep P13.out hf (fun k hk => by have hk : k = w2.heap.size := hk; omega) (Nat.le_refl _))
        have Y14 := Lib.hid (rows_keep Y13.out hf (fun k hk => by have hk : k = w2.heap.size := hk; omega) (Nat.le_refl _))
        generalize w13.setCell ⟨w2.heap.size, 3, none⟩ (.bool false) = w14 at *
        clear sx sf hf hs
        go_wp2_with fail
        refine (eexprs_any ok ts A c be bp w14 (j1 + 1) n2 y k1 H14.out HE.out (fun q hq => by have := HOK.out q hq; have := F14.out.size; omega)).mono ?_
        rintro e w15 ⟨g, rfl, hf, h, hr⟩
        have H15 := Lib.hid h
        have y14 := blk_lt S14.out
        have R15 := Lib.hid (blk_fr R14.out hf (ps_far hbe hbp (by omega)))
        have S15 := Lib.hid (blk_fr S14.out hf (ps_far hbe hbp (by omega)))
        have F15 := Lib.hid (F14.out.trans hf)
        have P15 := Lib.hid (rows_keep P14.out hf (ps_lt (by omega) (by omega)) (Nat.le_refl _))
        have Y15 := Lib.hid (rows_keep Y14.out hf (ps_lt (by omega) (by omega)) (Nat.le_refl _))
        have X15 := Lib.hid hr
        clear hf h hr
        have sx := (cells_of S15.out).1 4 _ rfl
        have sf := (cells_of S15.out).2
        go_upto_region 13 with fail
        have hf : Fr (fun q => q = w2.heap.size) w15 (w15.setCell ⟨w2.heap.size, 4, none⟩ (.slice (some ⟨g, 0, none⟩) 1 1)) := (Fr.refl _ _).setCell _ _ (.inl rfl)
        have hs := blk_set S15.out 4 (.slice (some ⟨g, 0, none⟩) 1 1)
        have S16 := Lib.hid (show (w15.setCell ⟨w2.heap.size, 4, none⟩ (.slice (some ⟨g, 0, none⟩) 1 1)).heap[w2.heap.size]? = some (.cells #[(.string nm), (.slice (some ⟨w7.heap.size + 1, 0, none⟩) 1 C), (.slice A3 l.length c3), (.bool false), (.slice (some ⟨g, 0, none⟩) 1 1)] 36 (0, 0)) from hs)
        have H16 := Lib.hid (H15.out.away hf (by omega) (by omega) (fun q hq e => by have e : q = w2.heap.size := e; have := HOK.out q hq; omega))
        have R16 := Lib.hid (blk_fr R15.out hf (by omega))
        have F16 := Lib.hid (ps_new F15.out hf (by omega))
        have P16 := Lib.hid (rows_keep P15.out hf (fun k hk => by have hk : k = w2.heap.size := hk; omega) (Nat.le_refl _))
        have Y16 := Lib.hid (rows_keep Y15.out hf (fun k hk => by have hk : k = w2.heap.size := hk; omega) (Nat.le_refl _))
        have X16 := Lib.hid (rows_keep X15.out hf (fun k hk => by have hk : k = w2.heap.size := hk; omega) (Nat.le_refl _))
        generalize w15.setCell ⟨w2.heap.size, 4, none⟩ (.slice (some ⟨g, 0, none⟩) 1 1) = w16 at *
        clear sx sf hf hs
        have p0 := (cells_of H16.out.blk).1 0 _ rfl
        go_wp2_with fail
        refine (need_any ok ts A c be w16 k1 ⟨#[59]⟩ H16.out.eye hk1 TS3.out).mono ?_
        rintro e w17 ⟨rfl, hf1, h⟩
        have H17 := Lib.hid (H16.out.moved hf1 h)
        have hf := eye_ps (bp := bp) hf1
        have R17 := Lib.hid (blk_fr R16.out hf (ps_far hbe hbp (by omega)))
        have S17 := Lib.hid (blk_fr S16.out hf (ps_far hbe hbp (by omega)))
        have F17 := Lib.hid (F16.out.trans hf)
        have P17 := Lib.hid (rows_keep P16.out hf (ps_lt (by omega) (by omega)) (Nat.le_refl _))
        have Y17 := Lib.hid (rows_keep Y16.out hf (ps_lt (by omega) (by omega)) (Nat.le_refl _))
        have X17 := Lib.hid (rows_keep X16.out hf (ps_lt (by omega) (by omega)) (Nat.le_refl _))
        clear hf hf1 h p0
        have l0 := (cells_of S17.out).1 0 _ rfl
        have r0 := (cells_of R17.out).1 0 _ rfl
        have l1 := (cells_of S17.out).1 1 _ rfl
        have r1 := (cells_of R17.out).1 1 _ rfl
        have l2 := (cells_of S17.out).1 2 _ rfl
        have r2 := (cells_of R17.out).1 2 _ rfl
        have l3 := (cells_of S17.out).1 3 _ rfl
        have r3 := (cells_of R17.out).1 3 _ rfl
        have l4 := (cells_of S17.out).1 4 _ rfl
        have r4 := (cells_of R17.out).1 4 _ rfl
        have rf := (cells_of R17.out).2
        go_wp2_with fail
        have HZ := Lib.hid (blk_put5 R17.out (.string nm) (.slice (some ⟨w7.heap.size + 1, 0, none⟩) 1 C) (.slice A3 l.length c3) (.bool false) (.slice (some ⟨g, 0, none⟩) 1 1))
        have HFZ := Lib.hid (fr_put5 (g := w.heap.size) (w := w17) (.string nm) (.slice (some ⟨w7.heap.size + 1, 0, none⟩) 1 C) (.slice A3 l.length c3) (.bool false) (.slice (some ⟨g, 0, none⟩) 1 1))
        generalize (((((w17.setCell ⟨w.heap.size, 0, none⟩ (.string nm)).setCell ⟨w.heap.size, 1, none⟩ (.slice (some ⟨w7.heap.size + 1, 0, none⟩) 1 C)).setCell ⟨w.heap.size, 2, none⟩ (.slice A3 l.length c3)).setCell ⟨w.heap.size, 3, none⟩ (.bool false)).setCell ⟨w.heap.size, 4, none⟩ (.slice (some ⟨g, 0, none⟩) 1 1)) = wz at *
        clear l0 l1 l2 l3 l4 r0 r1 r2 r3 r4 rf
        have PZ := Lib.hid (rows_keep P17.out HFZ.out (fun k hk => by have hk : k = w.heap.size := hk; omega) (lo0 := w.heap.size) (by omega))
        have YZ := Lib.hid (rows_keep Y17.out HFZ.out (fun k hk => by have hk : k = w.heap.size := hk; omega) (lo0 := w.heap.size) (by omega))
        have XZ := Lib.hid (rows_keep X17.out HFZ.out (fun k hk => by have hk : k = w.heap.size := hk; omega) (lo0 := w.heap.size) (by omega))
        have f0 := (cells_of HZ.out).1 0 _ rfl
        have f1 := (cells_of HZ.out).1 1 _ rfl
        have f2 := (cells_of HZ.out).1 2 _ rfl
        have f3 := (cells_of HZ.out).1 3 _ rfl
        have f4 := (cells_of HZ.out).1 4 _ rfl
        rw [HNQ.out, HNQ2.out]
        refine bodyPost_ret (v := .agg #[(.string nm), (.slice (some ⟨w7.heap.size + 1, 0, none⟩) 1 C), (.slice A3 l.length c3), (.bool false), (.slice (some ⟨g, 0, none⟩) 1 1)]) (by simp [results, Tryz.results59, go_sem, f0, f1, f2, f3, f4]) rfl ⟨_, _, _, _, _, _, rfl, ps_new F17.out HFZ.out (Nat.le_refl _), H17.out.away HFZ.out (by omega) (by omega) (fun q hq e => by have e : q = w.heap.size := e; have := HOK.out q hq; omega), ?_⟩
        exact ⟨⟨hC, (by decide : 1 * 24 ≤ reach), PZ.out⟩, ⟨hc3, (by show l.length * 144 ≤ reach; unfold reach; omega), YZ.out⟩, ⟨Nat.le_refl 1, (by decide : 1 * 64 ≤ reach), XZ.out⟩⟩
      | false =>
        rw [te, if_neg Bool.false_ne_true] at ht
        split at ht
        case isFalse => cases ht
        case isTrue ts3 =>
        simp only [Option.some.injEq, Prod.mk.injEq] at ht
        obtain ⟨rfl, rfl⟩ := ht
        have TE := Lib.hid te; have TS3 := Lib.hid ts3
        clear te ts3 HT
        have p0 := (cells_of H11.out.blk).1 0 _ rfl
        go_wp2_with fail
        refine (esign_any ok ts A c be w11 (j1) ⟨#[61]⟩ H11.out.eye hj1).mono ?_
        rintro e w12 ⟨rfl, hf1, h⟩
        rw [show tkK ts 4 ⟨#[61]⟩ (j1) = false from TE.out]
        rw [eyeI_f (show tkK ts 4 ⟨#[61]⟩ (j1) = false from TE.out)] at h
        have H12 := Lib.hid (H11.out.moved hf1 h)
        have hf := eye_ps (bp := bp) hf1
        have R12 := Lib.hid (blk_fr R11.out hf (ps_far hbe hbp (by omega)))
        have S12 := Lib.hid (blk_fr S11.out hf (ps_far hbe hbp (by omega)))
        have F12 := Lib.hid (F11.out.trans hf)
        have P12 := Lib.hid (rows_keep P11.out hf (ps_lt (by omega) (by omega)) (Nat.le_refl _))
        have Y12 := Lib.hid (rows_keep Y11.out hf (ps_lt (by omega) (by omega)) (Nat.le_refl _))
        clear hf hf1 h p0
        have p0 := (cells_of H12.out.blk).1 0 _ rfl
        go_wp2_with fail
        refine (need_any ok ts A c be w12 j1 ⟨#[59]⟩ H12.out.eye hj1 TS3.out).mono ?_
        rintro e w13 ⟨rfl, hf1, h⟩
        have H13 := Lib.hid (H12.out.moved hf1 h)
        have hf := eye_ps (bp := bp) hf1
        have R13 := Lib.hid (blk_fr R12.out hf (ps_far hbe hbp (by omega)))
        have S13 := Lib.hid (blk_fr S12.out hf (ps_far hbe hbp (by omega)))
        have F13 := Lib.hid (F12.out.trans hf)
        have P13 := Lib.hid (rows_keep P12.out hf (ps_lt (by omega) (by omega)) (Nat.le_refl _))
        have Y13 := Lib.hid (rows_keep Y12.out hf (ps_lt (by omega) (by omega)) (Nat.le_refl _))
        clear hf hf1 h p0
        have l0 := (cells_of S13.out).1 0 _ rfl
        have r0 := (cells_of R13.out).1 0 _ rfl
        have l1 := (cells_of S13.out).1 1 _ rfl
        have r1 := (cells_of R13.out).1 1 _ rfl
        have l2 := (cells_of S13.out).1 2 _ rfl
        have r2 := (cells_of R13.out).1 2 _ rfl
        have l3 := (cells_of S13.out).1 3 _ rfl
        have r3 := (cells_of R13.out).1 3 _ rfl
        have l4 := (cells_of S13.out).1 4 _ rfl
        have r4 := (cells_of R13.out).1 4 _ rfl
        have rf := (cells_of R13.out).2
        go_wp2_with fail
        have HZ := Lib.hid (blk_put5 R13.out (.string nm) (.slice (some ⟨w7.heap.size + 1, 0, none⟩) 1 C) (.slice A3 l.length c3) (.bool false) (.slice none 0 0))
        have HFZ := Lib.hid (fr_put5 (g := w.heap.size) (w := w13) (.string nm) (.slice (some ⟨w7.heap.size + 1, 0, none⟩) 1 C) (.slice A3 l.length c3) (.bool false) (.slice none 0 0))
        generalize (((((w13.setCell ⟨w.heap.size, 0, none⟩ (.string nm)).setCell ⟨w.heap.size, 1, none⟩ (.slice (some ⟨w7.heap.size + 1, 0, none⟩) 1 C)).setCell ⟨w.heap.size, 2, none⟩ (.slice A3 l.length c3)).setCell ⟨w.heap.size, 3, none⟩ (.bool false)).setCell ⟨w.heap.size, 4, none⟩ (.slice none 0 0)) = wz at *
        clear l0 l1 l2 l3 l4 r0 r1 r2 r3 r4 rf
        have PZ := Lib.hid (rows_keep P13.out HFZ.out (fun k hk => by have hk : k = w.heap.size := hk; omega) (lo0 := w.heap.size) (by omega))
        have YZ := Lib.hid (rows_keep Y13.out HFZ.out (fun k hk => by have hk : k = w.heap.size := hk; omega) (lo0 := w.heap.size) (by omega))
        have f0 := (cells_of HZ.out).1 0 _ rfl
        have f1 := (cells_of HZ.out).1 1 _ rfl
        have f2 := (cells_of HZ.out).1 2 _ rfl
        have f3 := (cells_of HZ.out).1 3 _ rfl
        have f4 := (cells_of HZ.out).1 4 _ rfl
        rw [HNQ.out, HNQ2.out]
        refine bodyPost_ret (v := .agg #[(.string nm), (.slice (some ⟨w7.heap.size + 1, 0, none⟩) 1 C), (.slice A3 l.length c3), (.bool false), (.slice none 0 0)]) (by simp [results, Tryz.results59, go_sem, f0, f1, f2, f3, f4]) rfl ⟨_, _, _, _, _, _, rfl, ps_new F13.out HFZ.out (Nat.le_refl _), H13.out.away HFZ.out (by omega) (by omega) (fun q hq e => by have e : q = w.heap.size := e; have := HOK.out q hq; omega), ?_⟩
        exact ⟨⟨hC, (by decide : 1 * 24 ≤ reach), PZ.out⟩, ⟨hc3, (by show l.length * 144 ≤ reach; unfold reach; omega), YZ.out⟩, ⟨Nat.zero_le _, (by decide : 0 * 64 ≤ reach), trivial⟩⟩
end Go.Proofs.YtfncbemligfloaaGreatDoor
/- Contracts of the reference's parser: ref08.Parse of a text with one function; sacristylaw10.Parsed. -/
namespace Go.Proofs.YtfncbemligfloaaGreatDoor
open Go.RowKit
set_option linter.unusedVariables false
set_option linter.unusedSimpArgs false
theorem field_kind (t : Tk) (w : World) : Sem.run Tryz.prog (Instr.field 108 (.agg #[vu8 t.kind, .string t.text, vu64 t.num, .int .i64 t.at_]) 0) w = .ok (vu8 t.kind) w := by
  kernel_rfl
theorem rd_fu1 {ok : Nat → Prop} {w : World} {g : Nat} {x : Fu} {Z : Array Value} {A1 A2 A3 : Option Addr} {c1 c2 c3 : Nat} (h : w.heap[g]? = some (.cells (#[.string x.name, .slice A1 x.params.length c1, .slice A2 x.body.length c2, .bool x.sec, .slice A3 x.ret.length c3] ++ Z) 36 (0, 0))) (hf : FuRd ok w x A1 A2 A3 c1 c2 c3) (hg : ok g) : RdRows ok w 5 (some ⟨g, 0, none⟩) 0 ([x].map Fu.d) := by
  have hc := (cells_of h).1
  have hq : ∀ i v, i < 5 → (#[.string x.name, .slice A1 x.params.length c1, .slice A2 x.body.length c2, .bool x.sec, .slice A3 x.ret.length c3] : Array Value)[i]? = some v → w.cell? ⟨g, i, none⟩ = some v := fun i v hi hv => hc i v (by rw [Array.getElem?_append_left (by simpa using hi)]; exact hv)
  refine ⟨⟨g, 0, rfl, hg, rfl, ⟨_, hq 0 _ (by omega) rfl, rfl⟩, ⟨_, hq 1 _ (by omega) rfl, A1, c1, ?_, ?_, ?_, hf.params.2.2⟩, ⟨_, hq 2 _ (by omega) rfl, A2, c2, ?_, ?_, ?_, hf.body.2.2⟩, ⟨_, hq 3 _ (by omega) rfl, rfl⟩, ⟨_, hq 4 _ (by omega) rfl, A3, c3, ?_, ?_, ?_, hf.ret.2.2⟩, trivial⟩, trivial⟩
  · rw [List.length_map]; rfl
  · rw [List.length_map]; exact hf.params.1
  · rw [List.length_map]; exact hf.params.2.1
  · rw [St.ds_length]; rfl
  · rw [St.ds_length]; exact hf.body.1
  · rw [St.ds_length]; exact hf.body.2.1
  · rw [Ex.ds_length]; rfl
  · rw [Ex.ds_length]; exact hf.ret.1
  · rw [Ex.ds_length]; exact hf.ret.2.1
theorem FuRd.keepS {lo lo0 : Nat} {w w' : World} {s : Fu} {A1 A2 A3 : Option Addr} {c1 c2 c3 : Nat} {S : Nat → Prop} (h : FuRd (New lo w) w s A1 A2 A3 c1 c2 c3) (hf : Fr S w w') (hs : ∀ k, S k → k < lo) (hl : lo0 ≤ lo) : FuRd (New lo0 w') w' s A1 A2 A3 c1 c2 c3 :=
  ⟨⟨h.params.1, h.params.2.1, rows_keep h.params.2.2 hf hs hl⟩, ⟨h.body.1, h.body.2.1, rows_keep h.body.2.2 hf hs hl⟩, ⟨h.ret.1, h.ret.2.1, rows_keep h.ret.2.2 hf hs hl⟩⟩
/-- The program of a text with one function. -/
def parseP (s : ByteArray) : Option Fu :=
  if s.size ≤ 16384 then (cutS s (s.size + 1) 0).bind fun L =>
    if (L ++ [endTk s]).length ≤ 20000 ∧ tkK (L ++ [endTk s]) 2 wFn 0 = true then
      (fnP (L ++ [endTk s]) 100 0 1).bind fun r => if r.2.2 < (L ++ [endTk s]).length ∧ ((L ++ [endTk s]).getD r.2.2 Tk.zero).kind.toNat = 5 then some r.1 else none
    else none
  else none

set_option maxRecDepth 100000 in
set_option maxHeartbeats 8000000 in
theorem parse_any (s : ByteArray) (x : Fu) (w : World) (hx : parseP s = some x) :
   Calls Tryz.prog 33 #[.string s] w fun e w' => ∃ A c, e = .returned (.tuple #[.agg #[.slice A 1 c], .agg #[.int .i64 0, .int .i64 0]]) ∧ 1 ≤ c ∧ Fr Non w w' ∧ RdRows (New w.heap.size w') w' 5 A 0 ([x].map Fu.d) := by
  rw [parseP] at hx
  split at hx
  case isFalse => cases hx
  case isTrue hs =>
  cases hL : cutS s (s.size + 1) 0 with
  | none => rw [hL] at hx; cases hx
  | some L =>
  rw [hL, Option.bind_some] at hx
  have htl : (L ++ [endTk s]).length = L.length + 1 := by simp
  generalize hts : L ++ [endTk s] = ts at *
  split at hx
  case isFalse => cases hx
  case isTrue hc =>
  obtain ⟨hlen, t1⟩ := hc
  cases hfn : fnP ts 100 0 1 with
  | none => rw [hfn] at hx; cases hx
  | some r =>
  obtain ⟨y, n', j⟩ := r
  rw [hfn, Option.bind_some] at hx
  split at hx
  case isFalse => cases hx
  case isTrue hq =>
  obtain ⟨hj, hk5⟩ := hq
  simp only [Option.some.injEq] at hx
  subst hx
  simp only at hj hk5
  rw [getD_at hj] at hk5
  obtain ⟨W1, HW1⟩ : ∃ W1, W1 = (w.alloc (.cells #[.slice none 0 0] 24)).alloc (.cells #[.int .i64 0, .int .i64 0] 63) := ⟨_, rfl⟩
  have hf1 : Fr Non w W1 := by rw [HW1]; exact ((fr_refl w).alloc _).alloc _
  have R1 := Lib.hid (show W1.heap[w.heap.size]? = some (.cells #[.slice none 0 0] 24 (0, 0)) by rw [HW1]; exact blk_old (blk_new _ _ _))
  have Q1 := Lib.hid (show W1.heap[w.heap.size + 1]? = some (.cells #[.int .i64 0, .int .i64 0] 63 (0, 0)) by rw [HW1]; exact blk_new' (by simp) _ _)
  have F1 := Lib.hid hf1; clear hf1
  have HL := Lib.hid hL; have HTS := Lib.hid hts; have T1 := Lib.hid t1; have HFN := Lib.hid hfn; have HK5 := Lib.hid hk5; have HTL := Lib.hid htl
  clear hL t1 hfn hk5 htl hts
  have hz1 := blk_lt Q1.out
  go_enter Tryz.func33, Tryz.ntmps33
  go_upto_region 1 with fail
  rw [← HW1]; clear HW1
  go_wp2_with fail
  refine (cut_any s L W1 hs HL.out).mono ?_
  rintro e w2 ⟨A, c, rfl, hcl, hf, hr⟩
  rw [HTS.out] at hr
  rw [← HTL.out] at hcl ⊢
  have TR2 := Lib.hid hr
  have R2 := Lib.hid (blk_fr R1.out hf (non _))
  have Q2 := Lib.hid (blk_fr Q1.out hf (non _))
  have F2 := Lib.hid (F1.out.trans hf)
  have hz2 := hf.size
  clear hf hr HL HTL
  obtain ⟨W3, HW3⟩ : ∃ W3, W3 = (((w2.alloc (.cells #[.int .i64 0, .int .i64 0] 63)).alloc (.cells #[.slice A ts.length c, .int .i64 0, .int .i64 0, .int .i64 0] 104)).alloc (.cells #[.pointer (some ⟨w2.heap.size + 1, 0, none⟩), .int .i64 0] 106)).alloc (.cells #[.slice none 0 0] 24) := ⟨_, rfl⟩
  have hf : Fr Non w2 W3 := by rw [HW3]; exact ((((fr_refl w2).alloc _).alloc _).alloc _).alloc _
  have E3 := Lib.hid (show W3.heap[w2.heap.size + 1]? = some (.cells #[.slice A ts.length c, .int .i64 0, .int .i64 0, .int .i64 0] 104 (0, 0)) by rw [HW3]; exact blk_old (blk_old (blk_new' (by simp) _ _)))
  have B3 := Lib.hid (show W3.heap[w2.heap.size + 1 + 1]? = some (.cells #[.pointer (some ⟨w2.heap.size + 1, 0, none⟩), .int .i64 0] 106 (0, 0)) by rw [HW3]; exact blk_old (blk_new' (by simp) _ _))
  have S3 := Lib.hid (show W3.heap[w2.heap.size + 1 + 1 + 1]? = some (.cells #[.slice none 0 0] 24 (0, 0)) by rw [HW3]; exact blk_new' (by simp) _ _)
  have R3 := Lib.hid (blk_fr R2.out hf (non _))
  have Q3 := Lib.hid (blk_fr Q2.out hf (non _))
  have F3 := Lib.hid (F2.out.trans hf)
  have H3 := Lib.hid (show PsAt (New W1.heap.size w2) ts A c (w2.heap.size + 1) (w2.heap.size + 1 + 1) W3 0 0 from ⟨⟨E3.out, TR2.out.fr hf (fun _ _ => non _) fun _ h => h, fun q hq => by have := hq.2; omega, hlen, Nat.zero_le _⟩, B3.out, by omega, fun q hq => by have := hq.2; omega⟩)
  clear hf
  have hz3 := blk_lt S3.out
  have hi0 : 0 < ts.length := by omega
  have HOK := Lib.hid (show ∀ q, New W1.heap.size w2 q → q < w2.heap.size from fun q hq => hq.2)
  go_upto_region 6 with fail
  rw [← HW3]; clear HW3
  refine wp_loop_rounds 2 ?_
  rw [rounds_succ]
  have o1 : w2.heap.size < w2.heap.size + 1 := by omega
  have o2 : w2.heap.size + 1 < w2.heap.size + 1 + 1 := by omega
  have o3 : w2.heap.size + 1 + 1 < w2.heap.size + 1 + 1 + 1 := by omega
  generalize hq3 : w2.heap.size + 1 + 1 + 1 = q3 at *
  generalize hbp : w2.heap.size + 1 + 1 = bp at *
  generalize hbe : w2.heap.size + 1 = be at *
  clear hq3 hbp hbe
  go_wp2_with fail
  refine (pfine_any (New W1.heap.size w2) ts A c be bp W3 0 0 H3.out).mono ?_
  rintro e wq ⟨rfl, rfl⟩
  have p0 := (cells_of B3.out).1 0 _ rfl
  have hkk : ts[0].kind.toNat = 2 := by have h9 := T1.out; rw [tkK, getD_at hi0, Bool.and_eq_true, beq_iff_eq] at h9; exact h9.1
  have hk5n : (((ts[0].kind.toNat : Nat) : Int) != 5) = true := by rw [bne_iff_ne]; omega
  clear hkk
  go_wp2_with fail
  refine (look_any (New W1.heap.size w2) ts A c be W3 0 H3.out.eye hi0).mono ?_
  rintro e w4 ⟨rfl, hf⟩
  have hfk := field_kind ts[0]
  unfold Tk.v
  generalize ts[0] = t0 at *
  have H4 := Lib.hid (H3.out.stay hf)
  have S4 := Lib.hid (blk_fr S3.out hf (non _))
  have R4 := Lib.hid (blk_fr R3.out hf (non _))
  have Q4 := Lib.hid (blk_fr Q3.out hf (non _))
  have F4 := Lib.hid (F3.out.trans hf)
  have hz4 := hf.size
  clear hf p0
  have s0 := (cells_of S4.out).1 0 _ rfl
  go_wp2_with fail
  refine (eword_any (New W1.heap.size w2) ts A c be bp w4 0 0 ⟨#[102, 110]⟩ H4.out hi0).mono ?_
  rintro e w5 ⟨rfl, hf, h⟩
  rw [show tkK ts 2 ⟨#[102, 110]⟩ 0 = true from T1.out]
  rw [eyeI_t (show tkK ts 2 ⟨#[102, 110]⟩ 0 = true from T1.out)] at h
  have hps : ∀ q, q ≤ w2.heap.size → ¬ PS be bp q := fun q hq hp => by rcases hp with hp | hp <;> omega
  have hpq : ¬ PS be bp q3 := fun hp => by rcases hp with hp | hp <;> omega
  have H5 := Lib.hid h
  have S5 := Lib.hid (blk_fr S4.out hf hpq)
  have R5 := Lib.hid (blk_fr R4.out hf (hps _ (by omega)))
  have Q5 := Lib.hid (blk_fr Q4.out hf (hps _ (by omega)))
  have F5 := Lib.hid (F4.out.then hf fun k hk hp => by rcases hp with hp | hp <;> omega)
  have hz5 := hf.size
  clear hf h s0 hfk hk5n
  have s0 := (cells_of S5.out).1 0 _ rfl
  have sf := (cells_of S5.out).2
  have y5 := blk_lt S5.out
  have HCE := Lib.hid (pfunc_any (New W1.heap.size w2) ts A c be bp 100 ((pstmt_any (New W1.heap.size w2) ts A c be bp 100).2 100 (Nat.le_refl _)) w5.drew 1 0 y n' j (H5.out.stay (fr_refl w5).drew) (fun q hq => by have := HOK.out q hq; show q < w5.heap.size; omega) HFN.out)
  go_upto_region 11 with fail
  go_region_with (go_at_call 59; refine HCE.out.mono ?_; rintro e w7 ⟨A1, A2, A3, c1, c2, c3, rfl, hf6, h6, hr6⟩; have s0 := hf6.cell' s0 hpq; have sf := (cells_of (blk_fr (blk_fr S5.out (fr_refl w5).drew (non _)) hf6 hpq)).2; have hz6 : q3 < w7.heap.size := Nat.lt_of_lt_of_le y5 hf6.size)
  all_goals
    have HFX := Lib.hid (show Fr (fun q => q = q3) w7 ((((w7.setCell ⟨q3, 0, none⟩ (.slice (some ⟨w7.heap.size + 1, 0, none⟩) 1 ((Question.appendCap 1 0 36).cut (w7.tape w7.drawn (Question.appendCap 1 0 36))))).alloc (.cells #[.string y.name, .slice A1 y.params.length c1, .slice A2 y.body.length c2, .bool y.sec, .slice A3 y.ret.length c3] 36)).alloc (.cells (#[.string y.name, .slice A1 y.params.length c1, .slice A2 y.body.length c2, .bool y.sec, .slice A3 y.ret.length c3] ++ Builtin.zeroCells #[.string ⟨#[]⟩, .slice none 0 0, .slice none 0 0, .bool false, .slice none 0 0] (((Question.appendCap 1 0 36).cut (w7.tape w7.drawn (Question.appendCap 1 0 36))) - 1)) 36)).drew) from ((((Fr.refl (fun q => q = q3) w7).setCell ⟨q3, 0, none⟩ _ (.inl rfl)).alloc _).alloc _).drew)
    have HXX := Lib.hid (show ((((w7.setCell ⟨q3, 0, none⟩ (.slice (some ⟨w7.heap.size + 1, 0, none⟩) 1 ((Question.appendCap 1 0 36).cut (w7.tape w7.drawn (Question.appendCap 1 0 36))))).alloc (.cells #[.string y.name, .slice A1 y.params.length c1, .slice A2 y.body.length c2, .bool y.sec, .slice A3 y.ret.length c3] 36)).alloc (.cells (#[.string y.name, .slice A1 y.params.length c1, .slice A2 y.body.length c2, .bool y.sec, .slice A3 y.ret.length c3] ++ Builtin.zeroCells #[.string ⟨#[]⟩, .slice none 0 0, .slice none 0 0, .bool false, .slice none 0 0] (((Question.appendCap 1 0 36).cut (w7.tape w7.drawn (Question.appendCap 1 0 36))) - 1)) 36)).drew).heap[w7.heap.size + 1]? = some (.cells (#[.string y.name, .slice A1 y.params.length c1, .slice A2 y.body.length c2, .bool y.sec, .slice A3 y.ret.length c3] ++ Builtin.zeroCells #[.string ⟨#[]⟩, .slice none 0 0, .slice none 0 0, .bool false, .slice none 0 0] (((Question.appendCap 1 0 36).cut (w7.tape w7.drawn (Question.appendCap 1 0 36))) - 1)) 36 (0, 0)) from blk_new' (by simp) _ _)
    have S6 := Lib.hid (blk_fr (blk_fr S5.out (fr_refl w5).drew (non _)) hf6 hpq)
    have S8 := Lib.hid (show ((((w7.setCell ⟨q3, 0, none⟩ (.slice (some ⟨w7.heap.size + 1, 0, none⟩) 1 ((Question.appendCap 1 0 36).cut (w7.tape w7.drawn (Question.appendCap 1 0 36))))).alloc (.cells #[.string y.name, .slice A1 y.params.length c1, .slice A2 y.body.length c2, .bool y.sec, .slice A3 y.ret.length c3] 36)).alloc (.cells (#[.string y.name, .slice A1 y.params.length c1, .slice A2 y.body.length c2, .bool y.sec, .slice A3 y.ret.length c3] ++ Builtin.zeroCells #[.string ⟨#[]⟩, .slice none 0 0, .slice none 0 0, .bool false, .slice none 0 0] (((Question.appendCap 1 0 36).cut (w7.tape w7.drawn (Question.appendCap 1 0 36))) - 1)) 36)).drew).heap[q3]? = some (.cells #[.slice (some ⟨w7.heap.size + 1, 0, none⟩) 1 ((Question.appendCap 1 0 36).cut (w7.tape w7.drawn (Question.appendCap 1 0 36)))] 24 (0, 0)) from blk_old (blk_old (blk_set S6.out 0 _)))
    have hC := cap_one w7 36
    have R6 := Lib.hid (blk_fr (blk_fr R5.out (fr_refl w5).drew (non _)) hf6 (hps _ (by omega)))
    have Q6 := Lib.hid (blk_fr (blk_fr Q5.out (fr_refl w5).drew (non _)) hf6 (hps _ (by omega)))
    have H6 := Lib.hid h6
    have F6 := Lib.hid ((F5.out.trans (fr_refl w5).drew).then hf6 fun k hk hp => by rcases hp with hp | hp <;> omega)
    have X6 := Lib.hid hr6
    clear s0 sf hf6 h6 hr6
    generalize (Question.appendCap 1 0 36).cut (w7.tape w7.drawn (Question.appendCap 1 0 36)) = C at *
    generalize ((((w7.setCell ⟨q3, 0, none⟩ (.slice (some ⟨w7.heap.size + 1, 0, none⟩) 1 C)).alloc (.cells #[.string y.name, .slice A1 y.params.length c1, .slice A2 y.body.length c2, .bool y.sec, .slice A3 y.ret.length c3] 36)).alloc (.cells (#[.string y.name, .slice A1 y.params.length c1, .slice A2 y.body.length c2, .bool y.sec, .slice A3 y.ret.length c3] ++ Builtin.zeroCells #[.string ⟨#[]⟩, .slice none 0 0, .slice none 0 0, .bool false, .slice none 0 0] (C - 1)) 36)).drew) = w8 at *
    have H8 := Lib.hid (H6.out.away HFX.out (by omega) (by omega) (fun q hq e => by have e : q = q3 := e; have := HOK.out q hq; omega))
    have R8 := Lib.hid (blk_fr R6.out HFX.out (by omega))
    have Q8 := Lib.hid (blk_fr Q6.out HFX.out (by omega))
    have F8 := Lib.hid (F6.out.then HFX.out fun k hk e => by have e : k = q3 := e; omega)
    have X8 := Lib.hid (X6.out.keepS HFX.out (fun k hk => by have hk : k = q3 := hk; show k < w5.heap.size; omega) (lo0 := w.heap.size + 2) (by show w.heap.size + 2 ≤ w5.heap.size; omega))
    have hzx := blk_lt HXX.out
    have hz78 := HFX.out.size
    have P8 := Lib.hid (rd_fu1 (ok := New (w.heap.size + 2) w8) HXX.out X8.out ⟨by omega, hzx⟩)
    clear HXX
    have p0 := (cells_of H8.out.blk).1 0 _ rfl
    go_wp2_with fail
    rw [rounds_succ]
    go_wp2_with fail
    refine (pfine_any (New W1.heap.size w2) ts A c be bp w8 j n' H8.out).mono ?_
    rintro e wq ⟨rfl, rfl⟩
    go_wp2_with fail
    refine (look_any (New W1.heap.size w2) ts A c be w8 j H8.out.eye hj).mono ?_
    rintro e w9 ⟨rfl, hf⟩
    have hfk := field_kind ts[j]
    have hk5n : (((ts[j].kind.toNat : Nat) : Int) != 5) = false := by rw [bne_eq_false_iff_eq]; have := HK5.out; omega
    unfold Tk.v
    have HK5' := Lib.hid HK5.out
    generalize ts[j] = tj at *
    have H9 := Lib.hid (H8.out.stay hf)
    have S9 := Lib.hid (blk_fr S8.out hf (non _))
    have R9 := Lib.hid (blk_fr R8.out hf (non _))
    have Q9 := Lib.hid (blk_fr Q8.out hf (non _))
    have F9 := Lib.hid (F8.out.trans hf)
    have P9 := Lib.hid (rows_keep P8.out hf (fun _ h => h.elim) (Nat.le_refl _))
    clear hf p0
    go_wp2_with fail
    refine (pfine_any (New W1.heap.size w2) ts A c be bp w9 j n' H9.out).mono ?_
    rintro e wq ⟨rfl, rfl⟩
    have l0 := (cells_of S9.out).1 0 _ rfl
    have r0 := (cells_of R9.out).1 0 _ rfl
    have rf := (cells_of R9.out).2
    have q0 := (cells_of Q9.out).1 0 _ rfl
    have q1 := (cells_of Q9.out).1 1 _ rfl
    have qf := (cells_of Q9.out).2
    go_wp2_with fail
    have hfz : Fr (fun q => q = w.heap.size ∨ q = w.heap.size + 1) w9 (((w9.setCell ⟨w.heap.size, 0, none⟩ (.slice (some ⟨w7.heap.size + 1, 0, none⟩) 1 C)).setCell ⟨w.heap.size + 1, 0, none⟩ (.int .i64 0)).setCell ⟨w.heap.size + 1, 1, none⟩ (.int .i64 0)) := (((Fr.refl (fun q => q = w.heap.size ∨ q = w.heap.size + 1) w9).setCell ⟨w.heap.size, 0, none⟩ _ (.inl (.inl rfl))).setCell ⟨w.heap.size + 1, 0, none⟩ _ (.inl (.inr rfl))).setCell ⟨w.heap.size + 1, 1, none⟩ _ (.inl (.inr rfl))
    have hfa : Fr (fun q => q = w.heap.size + 1) (w9.setCell ⟨w.heap.size, 0, none⟩ (.slice (some ⟨w7.heap.size + 1, 0, none⟩) 1 C)) (((w9.setCell ⟨w.heap.size, 0, none⟩ (.slice (some ⟨w7.heap.size + 1, 0, none⟩) 1 C)).setCell ⟨w.heap.size + 1, 0, none⟩ (.int .i64 0)).setCell ⟨w.heap.size + 1, 1, none⟩ (.int .i64 0)) := ((Fr.refl (fun q => q = w.heap.size + 1) _).setCell ⟨w.heap.size + 1, 0, none⟩ _ (.inl rfl)).setCell ⟨w.heap.size + 1, 1, none⟩ _ (.inl rfl)
    have hrz : (((w9.setCell ⟨w.heap.size, 0, none⟩ (.slice (some ⟨w7.heap.size + 1, 0, none⟩) 1 C)).setCell ⟨w.heap.size + 1, 0, none⟩ (.int .i64 0)).setCell ⟨w.heap.size + 1, 1, none⟩ (.int .i64 0)).heap[w.heap.size]? = some (.cells #[.slice (some ⟨w7.heap.size + 1, 0, none⟩) 1 C] 24 (0, 0)) := blk_fr (blk_set R9.out 0 (.slice (some ⟨w7.heap.size + 1, 0, none⟩) 1 C)) hfa (by omega)
    have hqa : (w9.setCell ⟨w.heap.size, 0, none⟩ (.slice (some ⟨w7.heap.size + 1, 0, none⟩) 1 C)).heap[w.heap.size + 1]? = some (.cells #[.int .i64 0, .int .i64 0] 63 (0, 0)) := blk_fr Q9.out ((Fr.refl (fun q => q = w.heap.size) w9).setCell ⟨w.heap.size, 0, none⟩ _ (.inl rfl)) (by omega)
    have hqz : (((w9.setCell ⟨w.heap.size, 0, none⟩ (.slice (some ⟨w7.heap.size + 1, 0, none⟩) 1 C)).setCell ⟨w.heap.size + 1, 0, none⟩ (.int .i64 0)).setCell ⟨w.heap.size + 1, 1, none⟩ (.int .i64 0)).heap[w.heap.size + 1]? = some (.cells #[.int .i64 0, .int .i64 0] 63 (0, 0)) := blk_set (blk_set hqa 0 _) 1 _
    have HFZ := Lib.hid hfz
    clear l0 r0 rf q0 q1 qf hfa hqa hfz
    generalize (((w9.setCell ⟨w.heap.size, 0, none⟩ (.slice (some ⟨w7.heap.size + 1, 0, none⟩) 1 C)).setCell ⟨w.heap.size + 1, 0, none⟩ (.int .i64 0)).setCell ⟨w.heap.size + 1, 1, none⟩ (.int .i64 0)) = wz at *
    have r0 := (cells_of hrz).1 0 _ rfl
    have q0 := (cells_of hqz).1 0 _ rfl
    have q1 := (cells_of hqz).1 1 _ rfl
    clear hrz hqz
    refine bodyPost_ret (v := .tuple #[.agg #[.slice (some ⟨w7.heap.size + 1, 0, none⟩) 1 C], .agg #[.int .i64 0, .int .i64 0]]) (by simp [results, Tryz.results33, go_sem, r0, q0, q1]) rfl ⟨_, _, rfl, hC, F9.out.then HFZ.out fun k hk e => by rcases e with e | e <;> omega, ?_⟩
    exact P9.out.fr HFZ.out (fun q hq e => by have := hq.1; rcases e with e | e <;> omega) fun k hk => ⟨by have := hk.1; omega, Nat.lt_of_lt_of_le hk.2 HFZ.out.size⟩

set_option maxRecDepth 100000 in
set_option maxHeartbeats 4000000 in
theorem parsed_any (s : ByteArray) (x : Fu) (w : World) (hx : parseP s = some x) :
   Calls Tryz.prog 21 #[.string s] w fun e w' => ∃ A c, e = .returned (.agg #[.slice A 1 c]) ∧ 1 ≤ c ∧ Fr Non w w' ∧ RdRows (New w.heap.size w') w' 5 A 0 ([x].map Fu.d) := by
  obtain ⟨W1, HW1⟩ : ∃ W1, W1 = w.alloc (.cells #[.slice none 0 0] 24) := ⟨_, rfl⟩
  have hf1 : Fr Non w W1 := by rw [HW1]; exact (fr_refl w).alloc _
  have R1 := Lib.hid (show W1.heap[w.heap.size]? = some (.cells #[.slice none 0 0] 24 (0, 0)) by rw [HW1]; exact blk_new _ _ _)
  have F1 := Lib.hid hf1; clear hf1
  have hz1 := blk_lt R1.out
  go_enter Tryz.func21, Tryz.ntmps21
  go_upto_region 1 with fail
  rw [← HW1]; clear HW1
  go_wp2_with fail
  refine (parse_any s x W1 hx).mono ?_
  rintro e w2 ⟨A, c, rfl, hc, hf, hr⟩
  have R2 := Lib.hid (blk_fr R1.out hf (non _))
  have F2 := Lib.hid (F1.out.trans hf)
  have X2 := Lib.hid hr
  have hz2 := hf.size
  clear hf hr
  have r0 := (cells_of R2.out).1 0 _ rfl
  have rf := (cells_of R2.out).2
  have hlt : w.heap.size < w2.heap.size := blk_lt R2.out
  go_wp2_with fail
  have hfz : Fr (fun q => q = w.heap.size) w2 (((w2.setCell ⟨w.heap.size, 0, none⟩ (.slice A 1 c)).alloc (.cells #[.slice A 1 c] 24)).alloc (.cells #[.int .i64 0, .int .i64 0] 63)) := (((Fr.refl (fun q => q = w.heap.size) w2).setCell ⟨w.heap.size, 0, none⟩ _ (.inl rfl)).alloc _).alloc _
  have hrz : (((w2.setCell ⟨w.heap.size, 0, none⟩ (.slice A 1 c)).alloc (.cells #[.slice A 1 c] 24)).alloc (.cells #[.int .i64 0, .int .i64 0] 63)).heap[w.heap.size]? = some (.cells #[.slice A 1 c] 24 (0, 0)) := blk_old (blk_old (blk_set R2.out 0 _))
  have HFZ := Lib.hid hfz
  clear r0 rf hfz
  generalize (((w2.setCell ⟨w.heap.size, 0, none⟩ (.slice A 1 c)).alloc (.cells #[.slice A 1 c] 24)).alloc (.cells #[.int .i64 0, .int .i64 0] 63)) = wz at *
  have r0 := (cells_of hrz).1 0 _ rfl
  clear hrz
  refine bodyPost_ret (v := .agg #[.slice A 1 c]) (by simp [results, Tryz.results21, go_sem, r0]) rfl ⟨_, _, rfl, hc, F2.out.then HFZ.out fun k hk e => by have e : k = w.heap.size := e; omega, ?_⟩
  exact X2.out.fr HFZ.out (fun q hq e => by have := hq.1; have e : q = w.heap.size := e; omega) fun k hk => ⟨by have := hk.1; omega, Nat.lt_of_lt_of_le hk.2 HFZ.out.size⟩
end Go.Proofs.YtfncbemligfloaaGreatDoor
/- The program's scope.Items. -/
namespace Go.Proofs.YtfncbemligfloaaGreatDoor
open Go.RowKit
set_option linter.unusedVariables false
set_option linter.unusedSimpArgs false
set_option maxRecDepth 100000 in
set_option maxHeartbeats 4000000 in
theorem sitems_any (N : Nat) : ∀ (l : List St) (ok : Nat → Prop) (A : Option Addr) (c : Nat) (w : World), St.sizes l < N → St.sizes l ≤ 1099511627776 → RdRows ok w 9 A 0 (St.ds l) → l.length * 144 ≤ reach →
   Calls Tryz.prog 34 #[.slice A l.length c] w fun e w' => e = .returned (.int .i64 (St.sizes l)) ∧ Fr Non w w' := by
  induction N with
  | zero => intro l ok A c w hN; omega
  | succ N ih =>
  intro l ok A c w hN hN2 hr hc
  have hlen : l.length ≤ 140737488355328 := by unfold reach at hc; omega
  have IH := Lib.hid ih; clear ih
  have HR := Lib.hid hr; clear hr
  have HC := Lib.hid hc; clear hc
  have HNN := Lib.hid hN; clear hN
  have HIA := Lib.hid (inner_all l)
  go_enter Tryz.func34, Tryz.ntmps34
  go_wp2_with fail
  go_loopw [3, 10] (fun t i wr => ∃ j : Nat, i = .int .i64 j ∧ t = .int .i64 ((l.length + inner (l.take j) : Nat) : Int) ∧ j ≤ l.length ∧ Fr Non w wr) (fun _ i _ => l.length - (intOf i).toNat)
  case atStart => exact ⟨0, rfl, by simp [inner], by omega, fr_refl _⟩
  case round =>
    obtain ⟨j, rfl, rfl, hj, hfr⟩ := hrel
    by_cases hlt : j < l.length
    · obtain ⟨b, o1, A1, c1, A2, c2, A3, c3, A4, c4, rfl, hb, e0, e1, e2, e3, e4, e5, e6, e7, e8, r1, r2, r3, r4⟩ := at_st (HR.out.fr hfr (fun _ _ => non _) (fun _ h => h)) j hlt
      have HSR := Lib.hid (⟨r1, r2, r3, r4⟩ : StRd ok wr l[j] A1 A2 A3 A4 c1 c2 c3 c4)
      clear r1 r2 r3 r4
      have HQ := Lib.hid (ssize_le l j hlt)
      have HT := Lib.hid (inner_take l j hlt)
      have HT2 := Lib.hid (inner_le l (j + 1))
      have HF := Lib.hid hfr; clear hfr
      generalize hx : l[j] = x at *
      have HX := Lib.hid hx; clear hx
      obtain ⟨w2, HW2⟩ : ∃ w2, w2 = wr.alloc (.cells #[vu8 x.kind, .string x.name, .string x.frm, .bool x.sec, .bool x.mt, .slice A1 x.ex.length c1, .slice A2 x.args.length c2, .slice A3 x.body.length c3, .slice A4 x.els.length c4] 54) := ⟨_, rfl⟩
      have hf2 : Fr Non wr w2 := by rw [HW2]; exact (fr_refl wr).alloc _
      have hbz : w2.heap[wr.heap.size]? = some (.cells #[vu8 x.kind, .string x.name, .string x.frm, .bool x.sec, .bool x.mt, .slice A1 x.ex.length c1, .slice A2 x.args.length c2, .slice A3 x.body.length c3, .slice A4 x.els.length c4] 54 (0, 0)) := by rw [HW2]; exact blk_new _ _ _
      have y7 := (cells_of hbz).1 7 _ rfl
      have y8 := (cells_of hbz).1 8 _ rfl
      have HS2 := Lib.hid (HSR.out.fr hf2 fun _ _ => non _)
      have HF2 := Lib.hid (HF.out.trans hf2); clear hf2 hbz
      have hbod := fun (w1 : World) (hf1 : Fr Non w2 w1) => IH.out x.body ok A3 c3 w1 (by have := HNN.out; have := HQ.out; rw [St.size_eq] at this; omega) (by have := HQ.out; rw [St.size_eq] at this; omega) (HS2.out.body.2.2.fr hf1 (fun _ _ => non _) (fun _ h => h)) HS2.out.body.2.1
      have hels := fun (w1 : World) (hf1 : Fr Non w2 w1) => IH.out x.els ok A4 c4 w1 (by have := HNN.out; have := HQ.out; rw [St.size_eq] at this; omega) (by have := HQ.out; rw [St.size_eq] at this; omega) (HS2.out.els.2.2.fr hf1 (fun _ _ => non _) (fun _ h => h)) HS2.out.els.2.1
      have HBOD := Lib.hid hbod; clear hbod
      have HELS := Lib.hid hels; clear hels
      have hs1 : l.length + inner (l.take j) + (St.sizes x.body + St.sizes x.els) ≤ 1099511627776 := by have := HT.out; have := HT2.out; have := HIA.out; omega
      have x7 := ext_cell y7
      have x8 := ext_cell y8
      clear y7 y8
      go_upto_region 5 with fail
      rw [← HW2]; clear HW2
      clear e0 e1 e2 e3 e4 e5 e6 e7 e8
      refine wp_region_ext (by kernel_rfl) (by kernel_rfl) ?_
      repeat (go_big_quiet_step (fail))
      go_big_quiet_want
      go_big_quiet_op
      apply Exists.intro
      refine ⟨fun y => ?_, ?_⟩
      · exact calls_ext (v := .int .i64 (St.sizes x.body)) (HBOD.out _ (ext_fr _ _))
      go_big_quiet_on
      repeat (go_big_quiet_step (fail))
      go_big_quiet_want
      go_big_quiet_op
      apply Exists.intro
      refine ⟨fun y => ?_, ?_⟩
      · exact calls_ext (v := .int .i64 (St.sizes x.els)) (HELS.out _ (ext_fr _ _))
      go_big_quiet_on
      repeat (go_big_quiet_step (fail))
      refine wpQuiet_nil ?_
      intro w3 hf3
      clear x7 x8
      have HF3 := Lib.hid (HF2.out.trans hf3); clear hf3
      go_wp2_with fail
      go_roundw
      case rel => exact ⟨j + 1, by go_num, by have := HT.out; have := hs1; go_num, by omega, HF3.out⟩
      case measure => simp [intOf]; omega
    · have hje : j = l.length := by omega
      subst hje
      rw [List.take_length]
      have hs1 : l.length + inner l = St.sizes l := HIA.out
      go_wp2_with fail
      go_ret
      exact ⟨ret_int (by rw [← hs1]), hfr⟩

theorem scItems_take (P : List Fu) (j : Nat) (h : j < P.length) : scItems (P.take (j + 1)) = scItems (P.take j) + (2 + St.sizes P[j].body) := by
  rw [take_snoc P j h, scItems, scItems, List.map_append, List.sum_append]; simp
theorem scItems_eq (P : List Fu) : ∀ j, j ≤ P.length → scItems (P.take j) = 2 * j + Fu.sizes (P.take j)
  | 0, _ => by simp [scItems, Fu.sizes]
  | j + 1, h => by
    have h1 := scItems_take P j (by omega)
    have h2 := fsizes_take P j (by omega)
    have h3 := scItems_eq P j (by omega)
    rw [h1, h2, h3]; push_cast; omega

set_option maxRecDepth 100000 in
set_option maxHeartbeats 4000000 in
theorem sItems_any (P : List Fu) (ok : Nat → Prop) (A : Option Addr) (c : Nat) (w : World) (hr : RdRows ok w 5 A 0 (P.map Fu.d)) (hc : P.length * 96 ≤ reach) (hs : Fu.sizes P ≤ 1099511620000) :
   Calls Tryz.prog 22 #[.agg #[.slice A P.length c]] w fun e w' => e = .returned (.tuple #[.int .i64 (if mayM P then scItems P else 0), .int .i64 (if mayM P then 0 else 2)]) ∧ Fr Non w w' := by
  have hlen : P.length ≤ 140737488355328 := by unfold reach at hc; omega
  obtain ⟨W1, HW1⟩ : ∃ W1, W1 = w.alloc (.cells #[.slice A P.length c] 24) := ⟨_, rfl⟩
  have hfw : Fr Non w W1 := by rw [HW1]; exact (fr_refl w).alloc _
  have hbp : W1.heap[w.heap.size]? = some (.cells #[.slice A P.length c] 24 (0, 0)) := by rw [HW1]; exact blk_new _ _ _
  have HC := Lib.hid (pcheck_any P ok A c W1 (hr.fr hfw (fun _ _ => non _) (fun _ h => h)) hc (by omega))
  have HR := Lib.hid hr; clear hr
  have g0 := (cells_of hbp).1 0 _ rfl
  have HBP := Lib.hid hbp; clear hbp
  have HFW := Lib.hid hfw; clear hfw
  have HEQ := Lib.hid (scItems_eq P)
  cases hm : mayM P with
  | false =>
    rw [hm] at HC
    have HM := Lib.hid hm; clear hm
    simp only [Bool.false_eq_true, if_false] at HC ⊢
    go_enter Tryz.func22, Tryz.ntmps22
    go_upto_region 1 with fail
    rw [← HW1]; clear HW1
    go_wp2_with fail
    refine HC.out.mono ?_
    rintro e w2 ⟨rfl, hf2⟩
    go_wp2_with fail
    refine bodyPost_ret (v := .tuple #[.int .i64 0, .int .i64 2]) (by simp [results, Tryz.results22, go_sem]) rfl ⟨rfl, HFW.out.trans hf2⟩
  | true =>
    rw [hm] at HC
    have HM := Lib.hid hm
    simp only [if_true] at HC ⊢
    have h16 : P.length ≤ 16 := by simp only [mayM, Bool.and_eq_true, decide_eq_true_eq] at hm; omega
    clear hm
    go_enter Tryz.func22, Tryz.ntmps22
    go_upto_region 1 with fail
    rw [← HW1]; clear HW1
    go_wp2_with fail
    refine HC.out.mono ?_
    rintro e w2 ⟨rfl, hf2⟩
    have hbp2 := blk_fr HBP.out hf2 (non _)
    clear g0
    have g0 := (cells_of hbp2).1 0 _ rfl
    have HF2 := Lib.hid (HFW.out.trans hf2); clear hf2 hbp2
    go_wp2_with fail
    go_loopw [5, 16] (fun t i wr => ∃ j : Nat, i = .int .i64 j ∧ t = .int .i64 (2 * j + Fu.sizes (P.take j) : Int) ∧ j ≤ P.length ∧ Fr Non w2 wr) (fun _ i _ => P.length - (intOf i).toNat)
    case atStart => exact ⟨0, rfl, by simp [Fu.sizes], by omega, fr_refl _⟩
    case round =>
      obtain ⟨j, rfl, rfl, hj, hfr⟩ := hrel
      by_cases hlt : j < P.length
      · obtain ⟨b, o1, A1, c1, A2, c2, A3, c3, rfl, hb, e0, e1, e2, e3, e4, ⟨p1, q1, r1⟩, ⟨p2, q2, r2⟩, ⟨p3, q3, r3⟩⟩ := at_fu (HR.out.fr (HF2.out.trans hfr) (fun _ _ => non _) (fun _ h => h)) j hlt
        have HF := Lib.hid hfr; clear hfr
        have hf0 := (fr_refl wr).alloc (.cells #[.string P[j].name, .slice A1 P[j].params.length c1, .slice A2 P[j].body.length c2, .bool P[j].sec, .slice A3 P[j].ret.length c3] 36)
        have HT := Lib.hid (fsizes_take P j hlt)
        have HT2 := Lib.hid (fsizes_take_le P (j + 1))
        have HIT := Lib.hid (sitems_any (St.sizes P[j].body + 1) P[j].body ok A2 c2 _ (by omega) (by have := fsize_le P j hlt; omega) (r2.fr hf0 (fun _ _ => non _) (fun _ h => h)) q2)
        clear hf0 r1 r2 r3
        have hs1 : Fu.sizes (P.take j) + St.sizes P[j].body ≤ 1099511620000 := by have := HT.out; have := HT2.out; omega
        go_wp2_with fail
        refine HIT.out.mono ?_
        rintro e w3 ⟨rfl, hf3⟩
        have HF3 := Lib.hid (HF.out.trans (box_fr hf3)); clear hf3
        go_wp2_with fail
        go_roundw
        case rel => exact ⟨j + 1, by go_num, by have := HT.out; go_num, by omega, HF3.out⟩
        case measure => simp [intOf]; omega
      · have hje : j = P.length := by omega
        subst hje
        rw [List.take_length]
        have HE := Lib.hid (HEQ.out P.length (Nat.le_refl _))
        rw [List.take_length] at HE
        go_wp2_with fail
        refine bodyPost_ret (v := .tuple #[.int .i64 (2 * P.length + Fu.sizes P), .int .i64 0]) (by simp [results, Tryz.results22, go_sem]) rfl ⟨by rw [HE.out], HF2.out.trans hfr⟩
end Go.Proofs.YtfncbemligfloaaGreatDoor
/- The four programs that the chapter on scope shows: how they read, and what is said of them. -/
namespace Go.Proofs.YtfncbemligfloaaGreatDoor
open Go.RowKit
set_option linter.unusedVariables false
set_option linter.unusedSimpArgs false
def alT_a : ByteArray := ⟨#[102, 110, 32, 102, 40, 41, 32, 123, 32, 108, 101, 116, 32, 120, 32, 61, 32, 121, 59, 32, 125, 59]⟩
def alF_a : Fu := ⟨⟨#[102]⟩, [], [.mk 1 ⟨#[120]⟩ ⟨#[]⟩ false false [.mk 2 0 ⟨#[121]⟩ 0 []] [] [] []], false, []⟩
def alT_b : ByteArray := ⟨#[102, 110, 32, 102, 40, 41, 32, 123, 32, 105, 102, 32, 49, 32, 123, 32, 108, 101, 116, 32, 120, 32, 61, 32, 49, 59, 32, 125, 32, 108, 101, 116, 32, 120, 32, 61, 32, 50, 59, 32, 125, 59]⟩
def alF_b : Fu := ⟨⟨#[102]⟩, [], [.mk 5 ⟨#[]⟩ ⟨#[]⟩ false false [.mk 1 1 ⟨#[]⟩ 0 []] [] [.mk 1 ⟨#[120]⟩ ⟨#[]⟩ false false [.mk 1 1 ⟨#[]⟩ 0 []] [] [] []] [], .mk 1 ⟨#[120]⟩ ⟨#[]⟩ false false [.mk 1 2 ⟨#[]⟩ 0 []] [] [] []], false, []⟩
def alT_c : ByteArray := ⟨#[102, 110, 32, 102, 40, 41, 32, 123, 32, 105, 102, 32, 49, 32, 123, 32, 108, 101, 116, 32, 120, 32, 61, 32, 49, 59, 32, 125, 32, 120, 32, 61, 32, 50, 59, 32, 125, 59]⟩
def alF_c : Fu := ⟨⟨#[102]⟩, [], [.mk 5 ⟨#[]⟩ ⟨#[]⟩ false false [.mk 1 1 ⟨#[]⟩ 0 []] [] [.mk 1 ⟨#[120]⟩ ⟨#[]⟩ false false [.mk 1 1 ⟨#[]⟩ 0 []] [] [] []] [], .mk 2 ⟨#[120]⟩ ⟨#[]⟩ false false [.mk 1 2 ⟨#[]⟩ 0 []] [] [] []], false, []⟩
def alT_d : ByteArray := ⟨#[102, 110, 32, 102, 40, 110, 117, 109, 32, 110, 41, 32, 123, 32, 102, 111, 114, 32, 105, 32, 60, 32, 110, 32, 123, 32, 108, 101, 116, 32, 120, 32, 61, 32, 105, 59, 32, 125, 32, 125, 32, 61, 32, 110, 59]⟩
def alF_d : Fu := ⟨⟨#[102]⟩, [⟨⟨#[110]⟩, false, false, false⟩], [.mk 7 ⟨#[105]⟩ ⟨#[]⟩ false false [.mk 2 0 ⟨#[110]⟩ 0 []] [] [.mk 1 ⟨#[120]⟩ ⟨#[]⟩ false false [.mk 2 0 ⟨#[105]⟩ 0 []] [] [] []] []], false, [.mk 2 0 ⟨#[110]⟩ 0 []]⟩
theorem alP_a : parseP alT_a = some alF_a := by kernel_rfl
theorem alC_a : scCheckV [alF_a] = faultV 1 3 := by kernel_rfl
theorem alZ_a : Fu.sizes [alF_a] ≤ 1000 := by rw [show Fu.sizes [alF_a] = _ from rfl]; decide
theorem alP_b : parseP alT_b = some alF_b := by kernel_rfl
theorem alC_b : scCheckV [alF_b] = faultV 3 9 := by kernel_rfl
theorem alZ_b : Fu.sizes [alF_b] ≤ 1000 := by rw [show Fu.sizes [alF_b] = _ from rfl]; decide
theorem alP_c : parseP alT_c = some alF_c := by kernel_rfl
theorem alC_c : scCheckV [alF_c] = faultV 3 3 := by kernel_rfl
theorem alZ_c : Fu.sizes [alF_c] ≤ 1000 := by rw [show Fu.sizes [alF_c] = _ from rfl]; decide
theorem alP_d : parseP alT_d = some alF_d := by kernel_rfl
theorem alC_d : scCheckV [alF_d] = .nilIface := by kernel_rfl
theorem alZ_d : Fu.sizes [alF_d] ≤ 1000 := by rw [show Fu.sizes [alF_d] = _ from rfl]; decide
theorem alM_d : mayM [alF_d] = true := by kernel_rfl
theorem alI_d : scItems [alF_d] = 4 := by kernel_rfl
end Go.Proofs.YtfncbemligfloaaGreatDoor
/- errors.Is at the program's faults; Told. -/
namespace Go.Proofs.YtfncbemligfloaaGreatDoor
open Go.RowKit
set_option linter.unusedVariables false
set_option linter.unusedSimpArgs false
open Go.Extern.Stop Go.Stop Go.Extern
theorem feq (x y : Int) (w : World) : (binOp .eql FT (.agg #[.int .i64 x, .int .i64 y]) (.agg #[.int .i64 x, .int .i64 y])).run Tryz.prog w = .ok (.bool true) w := by
  have u3 := Tryz.underlying3
  have a3 := Tryz.isAgg3
  have z3 := Tryz.sizeOf3
  have u31 := Tryz.underlying58
  have a31 := Tryz.isAgg58
  have z31 := Tryz.sizeOf58
  have hS : Program.underlying Tryz.prog FT = some (.struct (Program.fieldsOf Tryz.prog FT)) := by kernel_rfl
  have hp : Program.stoodInHeld Tryz.prog FT = false := by kernel_rfl
  rw [run_eql_struct, show (10000 : Nat) = 9999 + 1 from rfl, run_equalIn_agg w 9999 FT _ _ hS hp]
  simp only [Program.fieldsOf, Tryz.underlying63]
  go_simp
theorem tno (v : Value) (w : World) : (Instr.typeAssert (.iface FT v) 30 152 true).run Tryz.prog w = .ok (.tuple #[.nilIface, .bool false]) w := run_typeAssert_lacksB Tryz.underlying152 (by kernel_rfl) (by kernel_rfl) v 30 w
theorem eqa (v u : Value) (w : World) : (binOp .eql 30 (.iface FT v) (.iface 58 u)).run Tryz.prog w = .ok (.bool false) w := run_eql_iface_types _ _ _ _ Tryz.underlying30 (by decide) w
theorem eqb (x : Int) (w : World) : (binOp .eql 30 (.iface 58 (.int .i64 x)) (.iface 58 (.int .i64 x))).run Tryz.prog w = .ok (.bool true) w := by
  have h : (binOp .eql 30 (.iface 58 (.int .i64 x)) (.iface 58 (.int .i64 x))).run Tryz.prog w = .ok (.bool (x == x)) w := by kernel_rfl
  rw [h, beq_self_eq_true]
set_option maxRecDepth 100000 in
set_option maxHeartbeats 4000000 in
theorem is_hit (x y : Int) (w : World) :
    Calls Tryz.prog 36 #[.iface FT (.agg #[.int .i64 x, .int .i64 y]), .iface 58 (.int .i64 y)] w fun ev w' => ev = .returned (.bool true) ∧ Fr Non w w' := by
  have h10 := @run_callFunc_extern Tryz.prog 64 _ ReflectliteType.typeOf Tryz.func64 (by kernel_rfl) (by kernel_rfl) (by kernel_rfl) (by kernel_rfl)
  have h11 := @run_callFunc_extern Tryz.prog 152 _ (ReflectliteType.method (fun t => do Rtype.noPackHeld "Comparable" t; pure (.bool (← typeInfo t).comparable))) Tryz.func152 (by kernel_rfl) (by kernel_rfl) (by kernel_rfl) (by kernel_rfl)
  have tO := fx13e
  have mC := fx10c
  have cC : ∀ w : World, (ReflectliteType.method (fun t => do Rtype.noPackHeld "Comparable" t; (fun a => Value.bool a.comparable) <$> typeInfo t) #[.agg #[hdl 58]]).run Tryz.prog w = .ok (.bool true) w := fun w => by kernel_rfl
  have ta1 := tno
  have ea := eqa
  have eb := eqb
  have ta2 : ∀ w : World, (Instr.typeAssert (.iface FT (.agg #[.int .i64 x, .int .i64 y])) 30 147 true).run Tryz.prog w = .ok (.tuple #[.iface FT (.agg #[.int .i64 x, .int .i64 y]), .bool true]) w := fun w => by kernel_rfl
  have mU : ∀ (w : World), (Go.method 323 FT (.agg #[.int .i64 x, .int .i64 y]) "Unwrap").run Tryz.prog w = .ok (146, .agg #[.int .i64 x, .int .i64 y]) w := fun w => by kernel_rfl
  have mi : ∀ w : World, (Instr.makeInterface 58 (.int .i64 y)).run Tryz.prog w = .ok (.iface 58 (.int .i64 y)) w := fun w => by kernel_rfl
  go_enter Tryz.func36, Tryz.ntmps36
  go_wp2
  refine wp_loop_rounds 2 ?_
  rw [rounds_succ]
  go_wp2
  rw [rounds_succ]
  go_wp2
  go_ret
  exact ⟨rfl, (fr_refl w).alloc _⟩

/-- A fault as an error: nil where it is none. -/
def errV (r : Int × Int) : Value := if r.2 = 0 then .nilIface else faultV r.1 r.2

set_option maxRecDepth 100000 in
set_option maxHeartbeats 4000000 in
theorem told_any (r : Int × Int) (w : World) (hg : w.cell? ⟨0, 0, none⟩ = some (rty 30)) :
    Calls Tryz.prog 23 #[errV r, .agg #[.int .i64 r.1, .int .i64 r.2]] w fun ev w' => ev = .returned (.bool true) ∧ Fr Non w w' := by
  obtain ⟨x, y⟩ := r
  by_cases hy : y = 0
  · subst hy
    simp only [errV, if_true]
    go_enter Tryz.func23, Tryz.ntmps23
    go_wp2_with fail
    go_ret
    exact ⟨rfl, (fr_refl w).alloc _⟩
  · simp only [errV, if_neg hy, faultV]
    have hy' : (y == 0) = false := by simpa using hy
    obtain ⟨W1, HW1⟩ : ∃ W1, W1 = (w.alloc (.cells #[.int .i64 x, .int .i64 y] FT)).alloc (.cells #[.int .i64 0, .int .i64 0] FT) := ⟨_, rfl⟩
    have hf1 : Fr Non w W1 := by rw [HW1]; exact ((fr_refl w).alloc _).alloc _
    have hb0 : W1.heap[w.heap.size]? = some (.cells #[.int .i64 x, .int .i64 y] FT (0, 0)) := by rw [HW1]; exact blk_old (blk_new _ _ _)
    have hb1 : W1.heap[w.heap.size + 1]? = some (.cells #[.int .i64 0, .int .i64 0] FT (0, 0)) := by rw [HW1]; exact blk_new' (by simp) _ _
    have hg1 := hf1.cell' hg (non _)
    have HAS := Lib.hid (as_hit (w.heap.size + 1) x y 0 0 W1 hg1 hb1)
    have HB0 := Lib.hid hb0; clear hb0
    have HB1 := Lib.hid hb1; clear hb1
    have HF1 := Lib.hid hf1; clear hf1 hg hg1
    have hfe := feq
    go_enter Tryz.func23, Tryz.ntmps23
    go_upto_region 4 with fail
    rw [show ((w.alloc (.cells #[.int .i64 x, .int .i64 y] 63)).alloc (.cells #[.int .i64 0, .int .i64 0] 63)) = W1 from HW1.symm]
    clear HW1
    go_wp2_with fail
    refine HAS.out.mono ?_
    rintro e w2 ⟨rfl, hw2⟩
    have hfa : Fr (fun k => k = w.heap.size + 1) W1 (asW W1 (w.heap.size + 1) x y) := by unfold asW; exact (((((Fr.refl _ W1).alloc _).alloc _).alloc _).alloc _)
    have hf2 : Fr (fun k => k = w.heap.size + 1) W1 w2 := by rw [hw2]; exact (hfa.setCell _ _ (.inl rfl)).setCell _ _ (.inl rfl)
    have hb2 : w2.heap[w.heap.size + 1]? = some (.cells #[.int .i64 x, .int .i64 y] FT (0, 0)) := by
      rw [hw2]
      have h0 : (asW W1 (w.heap.size + 1) x y).heap[w.heap.size + 1]? = some (.cells #[.int .i64 0, .int .i64 0] FT (0, 0)) := by unfold asW; exact blk_old (blk_old (blk_old (blk_old HB1.out)))
      have := blk_set (blk_set h0 0 (.int .i64 x)) 1 (.int .i64 y)
      simpa using this
    have hb3 := blk_fr HB0.out hf2 (by omega)
    have HF2 := Lib.hid (show Fr Non w w2 from HF1.out.then hf2 fun k hk e => by omega)
    clear hf2 hfa hw2
    have c0 := (cells_of hb2).1 0 _ rfl
    have c1 := (cells_of hb2).1 1 _ rfl
    have d0 := (cells_of hb3).1 0 _ rfl
    have d1 := (cells_of hb3).1 1 _ rfl
    clear hb2 hb3
    go_wp2_with fail
    refine (is_hit x y w2).mono ?_
    rintro e w3 ⟨rfl, hf3⟩
    go_wp2_with fail
    go_ret
    exact ⟨rfl, HF2.out.trans hf3⟩
end Go.Proofs.YtfncbemligfloaaGreatDoor
/- Contract of sacristylaw10.alive: it answers true wherever the type's handle stands. -/
namespace Go.Proofs.YtfncbemligfloaaGreatDoor
open Go.RowKit
set_option linter.unusedVariables false
set_option linter.unusedSimpArgs false
theorem eq_nil (w : World) : (binOp .eql 30 .nilIface .nilIface).run Tryz.prog w = .ok (.bool true) w := by kernel_rfl

set_option maxRecDepth 100000 in
set_option maxHeartbeats 8000000 in
theorem alive_any (w : World) (hg : w.cell? ⟨0, 0, none⟩ = some (rty 30)) : Calls Tryz.prog 8 #[] w fun e w' => e = .returned (.bool true) ∧ Fr Non w w' := by
  have hq1 := Lib.hid (fun w => parsed_any alT_a alF_a w alP_a)
  have hq2 := Lib.hid (fun w => parsed_any alT_b alF_b w alP_b)
  have hq3 := Lib.hid (fun w => parsed_any alT_c alF_c w alP_c)
  have hq4 := Lib.hid (fun w => parsed_any alT_d alF_d w alP_d)
  have een := eq_nil
  simp only [alT_a, alT_b, alT_c, alT_d] at hq1 hq2 hq3 hq4
  have HG := Lib.hid hg; clear hg
  go_enter Tryz.func8, Tryz.ntmps8
  go_wp2_with fail
  refine (hq1.out _).mono ?_
  rintro e w1 ⟨A1, c1, rfl, hc1, hf1, hr1⟩
  have F1 := Lib.hid hf1
  have S1 := Lib.hid (scheck_any [alF_a] _ A1 c1 w1 hr1 (by unfold reach; simp) hc1 (by have := alZ_a; omega) fun q hq => hq.2)
  rw [alC_a] at S1
  clear hf1 hr1 hq1
  go_wp2_with fail
  refine S1.out.mono ?_
  rintro e w2 ⟨rfl, hf2⟩
  have F2 := Lib.hid (F1.out.trans hf2); clear hf2 F1 S1
  go_wp2_with fail
  refine (hq2.out _).mono ?_
  rintro e w3 ⟨A2, c2, rfl, hc2, hf3, hr3⟩
  have F3 := Lib.hid (F2.out.trans hf3)
  have S3 := Lib.hid (scheck_any [alF_b] _ A2 c2 w3 hr3 (by unfold reach; simp) hc2 (by have := alZ_b; omega) fun q hq => hq.2)
  rw [alC_b] at S3
  clear hf3 hr3 hq2 F2
  go_wp2_with fail
  refine S3.out.mono ?_
  rintro e w4 ⟨rfl, hf4⟩
  have F4 := Lib.hid (F3.out.trans hf4); clear hf4 F3 S3
  go_wp2_with fail
  refine (hq3.out _).mono ?_
  rintro e w5 ⟨A3, c3, rfl, hc3, hf5, hr5⟩
  have F5 := Lib.hid (F4.out.trans hf5)
  have S5 := Lib.hid (scheck_any [alF_c] _ A3 c3 w5 hr5 (by unfold reach; simp) hc3 (by have := alZ_c; omega) fun q hq => hq.2)
  rw [alC_c] at S5
  clear hf5 hr5 hq3 F4
  go_wp2_with fail
  refine S5.out.mono ?_
  rintro e w6 ⟨rfl, hf6⟩
  have F6 := Lib.hid (F5.out.trans hf6); clear hf6 F5 S5
  go_wp2_with fail
  refine (hq4.out _).mono ?_
  rintro e w7 ⟨A4, c4, rfl, hc4, hf7, hr7⟩
  have F7 := Lib.hid (F6.out.trans hf7); clear F6 hq4 hf7
  obtain ⟨W8, HW8⟩ : ∃ W8, W8 = w7.alloc (.cells #[.slice A4 1 c4] 24) := ⟨_, rfl⟩
  have hf8 : Fr Non w7 W8 := by rw [HW8]; exact (fr_refl w7).alloc _
  have R8 := Lib.hid (show W8.heap[w7.heap.size]? = some (.cells #[.slice A4 1 c4] 24 (0, 0)) by rw [HW8]; exact blk_new _ _ _)
  have D8 := Lib.hid (hr7.fr hf8 (fun _ _ => non _) fun _ h => h)
  have F8 := Lib.hid (F7.out.trans hf8)
  have hok : ∀ q, New w6.heap.size w7 q → q < w7.heap.size := fun q hq => hq.2
  have I8 := Lib.hid (sItems_any [alF_d] _ A4 c4 W8 D8.out (by unfold reach; simp) (by have := alZ_d; omega))
  rw [alM_d, alI_d] at I8
  simp only [if_true] at I8
  have hz8 := hf8.size
  clear hf8 hr7 F7
  go_upto_region 5 with fail
  rw [← HW8]; clear HW8
  have x8 := (cells_of R8.out).1 0 _ rfl
  go_wp2_with fail
  refine I8.out.mono ?_
  rintro e w9 ⟨rfl, hf9⟩
  have F9 := Lib.hid (F8.out.trans hf9)
  have R9 := Lib.hid (blk_fr R8.out hf9 (non _))
  have D9 := Lib.hid (D8.out.fr hf9 (fun _ _ => non _) fun _ h => h)
  have hz9 := hf9.size
  clear hf9 I8 F8 D8 R8 x8
  go_wp2_with fail
  have T9 := Lib.hid (told_any (1, 3) w9 (F9.out.cell' HG.out (non _)))
  rw [show errV (1, 3) = faultV 1 3 from rfl] at T9
  refine T9.out.mono ?_
  rintro e w10 ⟨rfl, hf10⟩
  have F10 := Lib.hid (F9.out.trans hf10)
  have R10 := Lib.hid (blk_fr R9.out hf10 (non _))
  have D10 := Lib.hid (D9.out.fr hf10 (fun _ _ => non _) fun _ h => h)
  have hz10 := hf10.size
  clear hf10 T9 F9 D9 R9
  go_wp2_with fail
  have T10 := Lib.hid (told_any (3, 9) w10 (F10.out.cell' HG.out (non _)))
  rw [show errV (3, 9) = faultV 3 9 from rfl] at T10
  refine T10.out.mono ?_
  rintro e w11 ⟨rfl, hf11⟩
  have F11 := Lib.hid (F10.out.trans hf11)
  have R11 := Lib.hid (blk_fr R10.out hf11 (non _))
  have D11 := Lib.hid (D10.out.fr hf11 (fun _ _ => non _) fun _ h => h)
  have hz11 := hf11.size
  clear hf11 T10 F10 D10 R10
  go_wp2_with fail
  have T11 := Lib.hid (told_any (3, 3) w11 (F11.out.cell' HG.out (non _)))
  rw [show errV (3, 3) = faultV 3 3 from rfl] at T11
  refine T11.out.mono ?_
  rintro e w12 ⟨rfl, hf12⟩
  have F12 := Lib.hid (F11.out.trans hf12)
  have R12 := Lib.hid (blk_fr R11.out hf12 (non _))
  have D12 := Lib.hid (D11.out.fr hf12 (fun _ _ => non _) fun _ h => h)
  have hz12 := hf12.size
  clear hf12 T11 F11 D11 R11
  have x12 := (cells_of R12.out).1 0 _ rfl
  go_wp2_with fail
  have S12 := Lib.hid (scheck_any [alF_d] _ A4 c4 w12 D12.out (by unfold reach; simp) hc4 (by have := alZ_d; omega) fun q hq => by have := hok q hq; omega)
  rw [alC_d] at S12
  refine S12.out.mono ?_
  rintro e w13 ⟨rfl, hf13⟩
  have F13 := Lib.hid (F12.out.trans hf13)
  clear hf13
  go_wp2_with fail
  go_ret
  exact ⟨rfl, F13.out⟩
end Go.Proofs.YtfncbemligfloaaGreatDoor
/- Contracts of the laws' bounds: sacristylaw07.Large. -/
namespace Go.Proofs.YtfncbemligfloaaGreatDoor
open Go.RowKit
set_option linter.unusedVariables false
set_option linter.unusedSimpArgs false
theorem Chunks.at {ok : Nat → Prop} {w : World} {sz : Nat} : ∀ {l : List (List D)} {xs : List Value} (k : Nat) (hk : k < l.length), Chunks ok w sz l xs → ∃ us, RdL ok w l[k] us ∧ us.length = sz ∧ ∀ i u, us[i]? = some u → xs[k * sz + i]? = some u
  | ds :: l, _, 0, _, ⟨us, r, rfl, h1, h2, h3, h4⟩ => ⟨us, h3, h1, fun i u h => by
      rw [Nat.zero_mul, Nat.zero_add, List.getElem?_append_left (by have := (List.getElem?_eq_some_iff.1 h).1; exact this)]; exact h⟩
  | ds :: l, _, k + 1, hk, ⟨us, r, rfl, h1, h2, h3, h4⟩ => by
    obtain ⟨vs, g1, g2, g3⟩ := Chunks.at k (by simpa using hk) h4
    refine ⟨vs, by simpa using g1, g2, fun i u h => ?_⟩
    rw [List.getElem?_append_right (by rw [h1, Nat.succ_mul]; omega), h1]
    rw [show (k + 1) * sz + i - sz = k * sz + i by rw [Nat.succ_mul]; omega]
    exact g3 i u h
/-- One element of an own row: its cells, what it leads to. -/
theorem OwnX.at {ok : Nat → Prop} {base : Nat} {e : TypeId} {sz : Nat} {w : World} {A : Option Addr} {c n : Nat} {l : List (List D)} (h : OwnX ok base e sz w (.slice A n c) l) (k : Nat) (hk : k < l.length) :
    ∃ g us, A = some ⟨g, 0, none⟩ ∧ base ≤ g ∧ RdL ok w l[k] us ∧ ∀ i u, us[i]? = some u → w.cell? ⟨g, k * sz + i, none⟩ = some u := by
  obtain ⟨xs, h1, h2⟩ := h
  obtain ⟨us, g1, g2, g3⟩ := Chunks.at k hk h2
  have h1' := h1
  obtain ⟨_, h3⟩ := h1
  rcases h3 with ⟨hv, h3⟩ | ⟨g, cap, cur, hv, hb, hh, _⟩
  · omega
  · obtain ⟨rfl, rfl, rfl⟩ : A = some ⟨g, 0, none⟩ ∧ n = l.length ∧ c = cap := by cases hv; exact ⟨rfl, rfl, rfl⟩
    refine ⟨g, us, rfl, hb, g1, fun i u hu => ?_⟩
    have := h1'.cells (g := g) rfl (k * sz + i) u (g3 i u hu)
    simpa [Addr.add_lit] using this
theorem own_new {ok : Nat → Prop} {base : Nat} {e : TypeId} {sz g : Nat} {w : World} {cur : Array Value} {ds : List D} (hb : base ≤ g) (hh : w.heap[g]? = some (.cells cur e (0, 0))) (hs : cur.size = sz) (hd : ds.length = sz) (hr : RdL ok w ds cur.toList) :
    OwnX ok base e sz w (.slice (some ⟨g, 0, none⟩) 1 1) [ds] :=
  ⟨cur.toList, ⟨by simp [hs], .inr ⟨g, 1, cur, rfl, hb, hh, Nat.le_refl _, by decide, by simp [hs], by rw [List.length_singleton, Nat.one_mul]; exact List.take_of_length_le (by simp [hs])⟩⟩, cur.toList, [], by simp, by simp [hs], hd, hr, rfl⟩

theorem Ex.ds_append (l r : List Ex) : Ex.ds (l ++ r) = Ex.ds l ++ Ex.ds r := by rw [Ex.ds_eq, Ex.ds_eq, Ex.ds_eq, List.map_append]
/-- Some answer; no: then the expression is small. -/
def SizeB (x : Ex) (e : Ending) : Prop := ∃ b, e = .returned (.bool b) ∧ (b = false → x.size ≤ 2000)
theorem sizeT {x : Ex} {v : Value} (h : v = .bool true) : SizeB x (.returned v) := ⟨true, by rw [h], fun h => by cases h⟩
theorem sizeF {x : Ex} {v : Value} (h : v = .bool false) (hs : x.size ≤ 2000) : SizeB x (.returned v) := ⟨false, by rw [h], fun _ => hs⟩
def innerE (l : List Ex) : Nat := (l.map fun e => Ex.sizes e.kids).sum
theorem innerE_append (l r : List Ex) : innerE (l ++ r) = innerE l + innerE r := by simp [innerE]
theorem ex_size_eq (e : Ex) : e.size = 1 + Ex.sizes e.kids := by cases e; rfl
theorem innerE_all (l : List Ex) : l.length + innerE l = Ex.sizes l := by
  induction l with
  | nil => rfl
  | cons x l ih => simp only [innerE, List.map_cons, List.sum_cons, List.length_cons, Ex.sizes, ex_size_eq] at ih ⊢; omega
theorem innerE_drop (l : List Ex) (j : Nat) (h : j < l.length) : innerE (l.drop j) = Ex.sizes l[j].kids + innerE (l.drop (j + 1)) := by
  rw [List.drop_eq_getElem_cons h, innerE, List.map_cons, List.sum_cons]; rfl
theorem workE_step (l : List Ex) (j : Nat) (h : j < l.length) : (l ++ l[j].kids).length + innerE ((l ++ l[j].kids).drop (j + 1)) = l.length + innerE (l.drop j) := by
  rw [innerE_drop l j h, List.drop_append_of_le_length (by omega), innerE_append, List.length_append, ← innerE_all l[j].kids]
  omega

set_option maxRecDepth 100000 in
set_option maxHeartbeats 4000000 in
theorem large07_any (e : Ex) (ok : Nat → Prop) (A : Option Addr) (c : Nat) (w : World) (hr : RdRows ok w 5 A 0 (Ex.ds e.kids)) (h1 : e.kids.length ≤ c) (h2 : e.kids.length * 64 ≤ reach) (hok : ∀ q, ok q → q < w.heap.size) :
   Calls Tryz.prog 18 #[exV e.kind e.num e.name e.op A e.kids.length c] w fun r w' => SizeB e r ∧ Fr Non w w' := by
  have HOK := Lib.hid hok; clear hok
  obtain ⟨W1, HW1⟩ : ∃ W1, W1 = (w.alloc (.cells #[vu8 e.kind, vu64 e.num, .string e.name, vu8 e.op, .slice A e.kids.length c] 46)).alloc (.cells #[vu8 e.kind, vu64 e.num, .string e.name, vu8 e.op, .slice A e.kids.length c] 46) := ⟨_, rfl⟩
  have hf1 : Fr Non w W1 := by rw [HW1]; exact ((fr_refl w).alloc _).alloc _
  have hb1 : W1.heap[w.heap.size + 1]? = some (.cells #[vu8 e.kind, vu64 e.num, .string e.name, vu8 e.op, .slice A e.kids.length c] 46 (0, 0)) := by rw [HW1]; exact blk_new' (by simp) _ _
  have HOW := Lib.hid (own_new (ok := ok) (base := w.heap.size) (ds := e.d) (sz := 5) (by omega) hb1 rfl (by cases e; rfl) (by
    have hr1 := hr.fr hf1 (fun _ _ => non _) (fun _ h => h)
    cases e with
    | mk k n s o l =>
      have hlen : (Ex.ds l).length = l.length := by rw [Ex.ds_eq, List.length_map]
      refine ⟨_, _, rfl, rfl, _, _, rfl, rfl, _, _, rfl, rfl, _, _, rfl, rfl, _, _, rfl, ⟨A, c, ?_, ?_, ?_, hr1⟩, rfl⟩
      · show Value.slice A l.length c = _; rw [hlen]
      · rw [hlen]; exact h1
      · rw [hlen]; exact h2))
  have HF1 := Lib.hid hf1; clear hf1 hb1 hr h1 h2
  go_enter Tryz.func18, Tryz.ntmps18
  go_upto_region 2 with fail
  rw [show ((w.alloc (.cells #[vu8 e.kind, vu64 e.num, .string e.name, vu8 e.op, .slice A e.kids.length c] 46)).alloc (.cells #[vu8 e.kind, vu64 e.num, .string e.name, vu8 e.op, .slice A e.kids.length c] 46)) = W1 from HW1.symm]
  clear HW1
  go_wp2_with fail
  go_loopw [3, 4, 5] (fun v t i wr => ∃ (l : List Ex) (j : Nat) (n : Int), i = .int .i64 j ∧ t = .int .i64 n ∧ j ≤ l.length ∧ l.length ≤ 2000 ∧ l.length + innerE (l.drop j) = e.size ∧ OwnX ok w.heap.size 46 5 wr v (Ex.ds l) ∧ Fr Non w wr) (fun _ _ i _ => 2001 - (intOf i).toNat)
  case atStart => exact ⟨[e], 0, 0, rfl, rfl, by simp, by simp, by simp [innerE, ex_size_eq], HOW.out, HF1.out⟩
  case round =>
    obtain ⟨l, j, n, rfl, rfl, hj, hl2, hin, how, hfr⟩ := hrel
    have HIN := Lib.hid hin; clear hin
    obtain ⟨A1, c1, hv, hc1⟩ := how.slice
    rw [Ex.ds_length] at hv hc1
    subst hv
    have HOX := Lib.hid how
    by_cases hlt : j < l.length
    · obtain ⟨g, us, rfl, hg, hrd, hce⟩ := how.at j (by rw [Ex.ds_length]; exact hlt)
      have hd : (Ex.ds l)[j]'(by rw [Ex.ds_length]; exact hlt) = l[j].d := by simp [Ex.ds_eq]
      rw [hd] at hrd
      have HX := Lib.hid (take_snoc l j hlt)
      have HWS := Lib.hid (workE_step l j hlt)
      generalize l[j] = x at *
      obtain ⟨xk, xn, xs, xo, xl⟩ := x
      obtain ⟨_, _, rfl, rfl, _, _, rfl, rfl, _, _, rfl, rfl, _, _, rfl, rfl, _, _, rfl, ⟨A2, c2, rfl, hk1, hk2, hk3⟩, rfl⟩ := hrd
      have e2 := hce 2 _ rfl
      have e4 := hce 4 _ rfl
      rw [Ex.ds_length] at e4 hk1 hk2
      have hl9 : xl.length ≤ 140737488355328 := by unfold reach at hk2; omega
      clear hce how
      have HK3 := Lib.hid hk3; clear hk3
      have HF := Lib.hid hfr; clear hfr
      go_upto_region 9 with fail
      all_goals try (go_ret; exact ⟨sizeT rfl, HF.out⟩)
      · rename_i hA hB
        have hsum : l.length + xl.length ≤ 2000 := by omega
        have HSUM := Lib.hid hsum; clear hsum hA hB
        go_wp2_with (at_builtin; (refine appX_ex rfl _ _ rfl ok w.heap.size (.slice (some ⟨g, 0, none⟩) l.length c1) (Ex.ds l) rfl HOX.out HOK.out A2 c2 (Ex.ds xl) (by rw [Ex.ds_length]; rfl) HK3.out (one_exs _) ?b1 ?b2 ?b3 ?k))
        case b1 => rw [Ex.ds_length, Ex.ds_length]; have := HSUM.out; unfold maxLen; omega
        case b2 => rw [Ex.ds_length, Ex.ds_length]; have := HSUM.out; omega
        case b3 => exact HF.out.size
        case k =>
        intro v3 w3 hown3 hf3
        rw [← Ex.ds_append] at hown3
        have HF3 := Lib.hid (HF.out.then hf3 fun k hk h => by omega)
        have HO3 := Lib.hid hown3; clear hown3 hf3
        go_wp2_with fail
        go_roundw
        case rel => exact ⟨l ++ xl, j + 1, _, by go_num, rfl, by rw [List.length_append]; omega, by rw [List.length_append]; exact HSUM.out, HWS.out.trans HIN.out, HO3.out, HF3.out⟩
        case measure => simp [intOf]; omega
    · go_wp2_with fail
      go_ret
      have hje : j = l.length := by omega
      have h9 := HIN.out
      rw [hje, List.drop_length] at h9
      exact ⟨sizeF rfl (by simp [innerE] at h9; omega), hfr⟩
end Go.Proofs.YtfncbemligfloaaGreatDoor
