/- Contracts and laws, file 11: PrH, PrI, ScG, LxA -/
import Derived.Test.YtnlnejpioijkiaaGreatDoorMg10
import Derived.Deep.DeepCutAuto
import Derived.Deep.CutBlock
import Derived.Deep.RegionWith
import Derived.Outline
/- Contracts of the reference's parser: a function. -/
namespace Go.Proofs.YtnlnejpioijkiaaGreatDoor
open Go.RowKit
set_option linter.unusedVariables false
set_option linter.unusedSimpArgs false
/-- The rows of a function. -/
structure FuRd (ok : Nat → Prop) (w : World) (s : Fu) (A1 A2 A3 : Option Addr) (c1 c2 c3 : Nat) : Prop where
  params : s.params.length ≤ c1 ∧ s.params.length * 24 ≤ reach ∧ RdRows ok w 4 A1 0 (s.params.map Pa.d)
  body : s.body.length ≤ c2 ∧ s.body.length * 144 ≤ reach ∧ RdRows ok w 9 A2 0 (St.ds s.body)
  ret : s.ret.length ≤ c3 ∧ s.ret.length * 64 ≤ reach ∧ RdRows ok w 5 A3 0 (Ex.ds s.ret)
def headP (ts : List Tk) (i : Nat) : Option (List Pa × Nat) :=
  if i < ts.length ∧ nmT (ts.getD i Tk.zero) = true ∧ i + 1 < ts.length ∧ tkK ts 4 gPar (i + 1) = true ∧ i + 1 + 1 < ts.length then
    (if tkK ts 4 gUnpar (i + 1 + 1) then some ([], i + 1 + 1 + 1)
     else if tkK ts 2 wNum (i + 1 + 1) = true ∧ i + 1 + 1 + 1 < ts.length ∧ nmT (ts.getD (i + 1 + 1 + 1) Tk.zero) = true ∧ i + 1 + 1 + 1 + 1 < ts.length ∧ tkK ts 4 gUnpar (i + 1 + 1 + 1 + 1) = true then some ([⟨(ts.getD (i + 1 + 1 + 1) Tk.zero).text, false, false, false⟩], i + 1 + 1 + 1 + 1 + 1) else none)
  else none
def tailP (ts : List Tk) (i : Nat) : Option (List Ex × Nat) :=
  if i < ts.length then
    (if tkK ts 4 gEq i then (if i + 1 < ts.length ∧ tkK ts 2 wSecret (i + 1) = false then (exprP ts (i + 1)).bind fun e => if e.2 < ts.length ∧ tkK ts 4 gSem e.2 = true then some ([e.1], e.2 + 1) else none else none)
     else if tkK ts 4 gSem i = true then some ([], i + 1) else none)
  else none
def fnP (ts : List Tk) (f n i : Nat) : Option (Fu × Nat × Nat) :=
  (headP ts i).bind fun p => (blP ts f 1 n p.2).bind fun b => (tailP ts b.2.2).map fun r => (⟨(ts.getD i Tk.zero).text, p.1, b.1, false, r.1⟩, b.2.1, r.2)
theorem rd_pa1 {ok : Nat → Prop} {w : World} {g : Nat} {nm : ByteArray} {Z : Array Value} (h : w.heap[g]? = some (.cells (#[.string nm, .bool false, .bool false, .bool false] ++ Z) 50 (0, 0))) (hg : ok g) : RdRows ok w 4 (some ⟨g, 0, none⟩) 0 ([⟨nm, false, false, false⟩].map Pa.d) := by
  have hc := (cells_of h).1
  have hq : ∀ i v, i < 4 → (#[.string nm, .bool false, .bool false, .bool false] : Array Value)[i]? = some v → w.cell? ⟨g, i, none⟩ = some v := fun i v hi hv => hc i v (by rw [Array.getElem?_append_left (by simpa using hi)]; exact hv)
  exact ⟨⟨g, 0, rfl, hg, rfl, ⟨_, hq 0 _ (by omega) rfl, rfl⟩, ⟨_, hq 1 _ (by omega) rfl, rfl⟩, ⟨_, hq 2 _ (by omega) rfl, rfl⟩, ⟨_, hq 3 _ (by omega) rfl, rfl⟩, trivial⟩, trivial⟩

set_option maxRecDepth 100000 in
set_option maxHeartbeats 8000000 in
theorem pfunc_any (ok : Nat → Prop) (ts : List Tk) (A : Option Addr) (c be bp f : Nat) (BK : BlkC ok ts A c be bp f) (w : World) (i n : Nat) (x : Fu) (n' j : Nat) (h : PsAt ok ts A c be bp w i n) (hok : ∀ q, ok q → q < w.heap.size) (hx : fnP ts f n i = some (x, n', j)) :
   Calls Tryz.prog 61 #[.pointer (some ⟨bp, 0, none⟩)] w fun e w' => ∃ A1 A2 A3 c1 c2 c3, e = .returned (.agg #[.string x.name, .slice A1 x.params.length c1, .slice A2 x.body.length c2, .bool x.sec, .slice A3 x.ret.length c3]) ∧ Fr (PS be bp) w w' ∧ PsAt ok ts A c be bp w' j n' ∧ FuRd (New w.heap.size w') w' x A1 A2 A3 c1 c2 c3 := by
  have hbe := blk_lt h.eye.blk
  have hbp := blk_lt h.blk
  rw [fnP] at hx
  cases hh : headP ts i with
  | none => rw [hh] at hx; cases hx
  | some p =>
  obtain ⟨ps, i3⟩ := p
  rw [hh, Option.bind_some] at hx
  cases hb : blP ts f 1 n i3 with
  | none => simp only [hb] at hx; cases hx
  | some b =>
  obtain ⟨l, n2, j1⟩ := b
  simp only [hb, Option.bind_some] at hx
  cases ht : tailP ts j1 with
  | none => rw [ht] at hx; cases hx
  | some r =>
  obtain ⟨rl, j2⟩ := r
  rw [ht] at hx
  simp only [Option.map_some, Option.some.injEq, Prod.mk.injEq] at hx
  obtain ⟨rfl, rfl, rfl⟩ := hx
  rw [headP] at hh
  split at hh
  case isFalse => cases hh
  case isTrue hc =>
  obtain ⟨hi, hnm, hi1, t1, hi2⟩ := hc
  obtain ⟨W1, HW1⟩ : ∃ W1, W1 = w.alloc (.cells #[.string ⟨#[]⟩, .slice none 0 0, .slice none 0 0, .bool false, .slice none 0 0] 44) := ⟨_, rfl⟩
  have hf1 : Fr Non w W1 := by rw [HW1]; exact (fr_refl w).alloc _
  have R1 := Lib.hid (show W1.heap[w.heap.size]? = some (.cells #[.string ⟨#[]⟩, .slice none 0 0, .slice none 0 0, .bool false, .slice none 0 0] 44 (0, 0)) by rw [HW1]; exact blk_new _ _ _)
  have H1 := Lib.hid (h.stay hf1); clear h
  have F1 := Lib.hid (show Fr (PS be bp) w W1 from hf1.non); clear hf1
  have HOK := Lib.hid hok; clear hok
  have HNQ := Lib.hid (show (ts.getD i Tk.zero).text = ts[i].text by rw [getD_at hi])
  rw [getD_at hi] at hnm
  have HNM := Lib.hid hnm; have T1 := Lib.hid t1; have HBL := Lib.hid hb; have HT := Lib.hid ht; have HH := Lib.hid hh
  clear hnm t1 hb ht hh
  have p0 := (cells_of H1.out.blk).1 0 _ rfl
  go_enter Tryz.func61, Tryz.ntmps61
  go_upto_region 1 with fail
  rw [← HW1]; clear HW1
  go_wp2_with fail
  refine (ename_any ok ts A c be W1 i H1.out.eye hi HNM.out).mono ?_
  rintro e w2 ⟨rfl, hf1, h⟩
  generalize ts[i].text = nm at *
  have H2 := Lib.hid (H1.out.moved hf1 h)
  have hf := eye_ps (bp := bp) hf1
  have R2 := Lib.hid (blk_fr R1.out hf (ps_far hbe hbp (by omega)))
  have F2 := Lib.hid (F1.out.trans hf)
  clear hf hf1 h p0
  have hz2 : w.heap.size < w2.heap.size := blk_lt R2.out
  obtain ⟨W3, HW3⟩ : ∃ W3, W3 = w2.alloc (.cells #[.string nm, .slice none 0 0, .slice none 0 0, .bool false, .slice none 0 0] 44) := ⟨_, rfl⟩
  have hf : Fr Non w2 W3 := by rw [HW3]; exact (fr_refl _).alloc _
  have S3 := Lib.hid (show W3.heap[w2.heap.size]? = some (.cells #[.string nm, .slice none 0 0, .slice none 0 0, .bool false, .slice none 0 0] 44 (0, 0)) by rw [HW3]; exact blk_new _ _ _)
  have H3 := Lib.hid (H2.out.stay hf)
  have R3 := Lib.hid (blk_fr R2.out hf (non _))
  have F3 := Lib.hid (F2.out.trans hf.non)
  clear hf
  go_upto_region 2 with fail
  rw [← HW3]; clear HW3
  have p0 := (cells_of H3.out.blk).1 0 _ rfl
  go_wp2_with fail
  refine (need_any ok ts A c be W3 (i + 1) ⟨#[40]⟩ H3.out.eye hi1 T1.out).mono ?_
  rintro e w4 ⟨rfl, hf1, h⟩
  have H4 := Lib.hid (H3.out.moved hf1 h)
  have hf := eye_ps (bp := bp) hf1
  have R4 := Lib.hid (blk_fr R3.out hf (ps_far hbe hbp (by omega)))
  have S4 := Lib.hid (blk_fr S3.out hf (ps_far hbe hbp (by omega)))
  have F4 := Lib.hid (F3.out.trans hf)
  clear hf hf1 h p0
  cases t2 : tkK ts 4 gUnpar (i + 1 + 1) with
  | true =>
    have hh := HH.out
    rw [t2, if_pos rfl] at hh
    simp only [Option.some.injEq, Prod.mk.injEq] at hh
    obtain ⟨rfl, rfl⟩ := hh
    have T2 := Lib.hid t2
    clear t2 HH
    go_wp2_with fail
    refine wp_loop_rounds 1 ?_
    rw [rounds_succ]
    go_wp2_with fail
    refine (pfine_any ok ts A c be bp w4 (i + 1 + 1) n H4.out).mono ?_
    rintro e wq ⟨rfl, rfl⟩
    have p0 := (cells_of H4.out.blk).1 0 _ rfl
    go_wp2_with fail
    refine (esign_any ok ts A c be w4 (i + 1 + 1) ⟨#[41]⟩ H4.out.eye hi2).mono ?_
    rintro e w5 ⟨rfl, hf1, h⟩
    rw [show tkK ts 4 ⟨#[41]⟩ (i + 1 + 1) = true from T2.out]
    rw [eyeI_t (show tkK ts 4 ⟨#[41]⟩ (i + 1 + 1) = true from T2.out)] at h
    have H5 := Lib.hid (H4.out.moved hf1 h)
    have hf := eye_ps (bp := bp) hf1
    have R5 := Lib.hid (blk_fr R4.out hf (ps_far hbe hbp (by omega)))
    have S5 := Lib.hid (blk_fr S4.out hf (ps_far hbe hbp (by omega)))
    have F5 := Lib.hid (F4.out.trans hf)
    clear hf hf1 h p0
    go_wp2_with fail
    refine (BK 1 n (i + 1 + 1 + 1) l n2 j1 w5 HBL.out (by omega) H5.out (fun q hq => by have := HOK.out q hq; have := F5.out.size; omega)).mono ?_
    rintro e w6 ⟨A3, c3, rfl, hc3, hl4, hf, h, hr⟩
    have H6 := Lib.hid h
    have y5 := blk_lt S5.out
    have R6 := Lib.hid (blk_fr R5.out hf (ps_far hbe hbp (by omega)))
    have S6 := Lib.hid (blk_fr S5.out hf (ps_far hbe hbp (by omega)))
    have F6 := Lib.hid (F5.out.trans hf)
    have Y6 := Lib.hid hr
    clear hf h hr
    have sx := (cells_of S6.out).1 2 _ rfl
    have sf := (cells_of S6.out).2
    go_upto_region 10 with fail
    have hf : Fr (fun q => q = w2.heap.size) w6 (w6.setCell ⟨w2.heap.size, 2, none⟩ (.slice A3 l.length c3)) := (Fr.refl _ _).setCell _ _ (.inl rfl)
    have hs := blk_set S6.out 2 (.slice A3 l.length c3)
    have S7 := Lib.hid (show (w6.setCell ⟨w2.heap.size, 2, none⟩ (.slice A3 l.length c3)).heap[w2.heap.size]? = some (.cells #[(.string nm), (.slice none 0 0), (.slice A3 l.length c3), (.bool false), (.slice none 0 0)] 44 (0, 0)) from hs)
    have H7 := Lib.hid (H6.out.away hf (by omega) (by omega) (fun q hq e => by have e : q = w2.heap.size := e; have := HOK.out q hq; omega))
    have R7 := Lib.hid (blk_fr R6.out hf (by omega))
    have F7 := Lib.hid (ps_new F6.out hf (by omega))
    have Y7 := Lib.hid (rows_keep Y6.out hf (fun k hk => by have hk : k = w2.heap.size := hk; omega) (Nat.le_refl _))
    generalize w6.setCell ⟨w2.heap.size, 2, none⟩ (.slice A3 l.length c3) = w7 at *
    clear sx sf hf hs
    have ht := HT.out
    rw [tailP] at ht
    split at ht
    case isFalse => cases ht
    case isTrue hj1 =>
    cases te : tkK ts 4 gEq j1 with
    | true =>
      rw [te, if_pos rfl] at ht
      split at ht
      case isFalse => cases ht
      case isTrue hq =>
      obtain ⟨hj2, ts2⟩ := hq
      cases he : exprP ts (j1 + 1) with
      | none => rw [he] at ht; cases ht
      | some r =>
      obtain ⟨y, k1⟩ := r
      rw [he, Option.bind_some] at ht
      split at ht
      case isFalse => cases ht
      case isTrue hq2 =>
      obtain ⟨hk1, ts3⟩ := hq2
      simp only [Option.some.injEq, Prod.mk.injEq] at ht
      obtain ⟨rfl, rfl⟩ := ht
      have TE := Lib.hid te; have TS2 := Lib.hid ts2; have TS3 := Lib.hid ts3; have HE := Lib.hid he
      clear te ts2 ts3 he HT
      have p0 := (cells_of H7.out.blk).1 0 _ rfl
      go_wp2_with fail
      refine (esign_any ok ts A c be w7 (j1) ⟨#[61]⟩ H7.out.eye hj1).mono ?_
      rintro e w8 ⟨rfl, hf1, h⟩
      rw [show tkK ts 4 ⟨#[61]⟩ (j1) = true from TE.out]
      rw [eyeI_t (show tkK ts 4 ⟨#[61]⟩ (j1) = true from TE.out)] at h
      have H8 := Lib.hid (H7.out.moved hf1 h)
      have hf := eye_ps (bp := bp) hf1
      have R8 := Lib.hid (blk_fr R7.out hf (ps_far hbe hbp (by omega)))
      have S8 := Lib.hid (blk_fr S7.out hf (ps_far hbe hbp (by omega)))
      have F8 := Lib.hid (F7.out.trans hf)
      have Y8 := Lib.hid (rows_keep Y7.out hf (ps_lt (by omega) (by omega)) (Nat.le_refl _))
      clear hf hf1 h p0
      go_wp2_with fail
      refine (eword_any ok ts A c be bp w8 (j1 + 1) n2 ⟨#[115, 101, 99, 114, 101, 116]⟩ H8.out hj2).mono ?_
      rintro e w9 ⟨rfl, hf, h⟩
      rw [show tkK ts 2 ⟨#[115, 101, 99, 114, 101, 116]⟩ (j1 + 1) = false from TS2.out]
      rw [eyeI_f (show tkK ts 2 ⟨#[115, 101, 99, 114, 101, 116]⟩ (j1 + 1) = false from TS2.out)] at h
      have H9 := Lib.hid h
      have R9 := Lib.hid (blk_fr R8.out hf (ps_far hbe hbp (by omega)))
      have S9 := Lib.hid (blk_fr S8.out hf (ps_far hbe hbp (by omega)))
      have F9 := Lib.hid (F8.out.trans hf)
      have Y9 := Lib.hid (rows_keep Y8.out hf (ps_lt (by omega) (by omega)) (Nat.le_refl _))
      clear hf h
      have sx := (cells_of S9.out).1 3 _ rfl
      have sf := (cells_of S9.out).2
      go_upto_region 12 with fail
      have hf : Fr (fun q => q = w2.heap.size) w9 (w9.setCell ⟨w2.heap.size, 3, none⟩ (.bool false)) := (Fr.refl _ _).setCell _ _ (.inl rfl)
      have hs := blk_set S9.out 3 (.bool false)
      have S10 := Lib.hid (show (w9.setCell ⟨w2.heap.size, 3, none⟩ (.bool false)).heap[w2.heap.size]? = some (.cells #[(.string nm), (.slice none 0 0), (.slice A3 l.length c3), (.bool false), (.slice none 0 0)] 44 (0, 0)) from hs)
      have H10 := Lib.hid (H9.out.away hf (by omega) (by omega) (fun q hq e => by have e : q = w2.heap.size := e; have := HOK.out q hq; omega))
      have R10 := Lib.hid (blk_fr R9.out hf (by omega))
      have F10 := Lib.hid (ps_new F9.out hf (by omega))
      have Y10 := Lib.hid (rows_keep Y9.out hf (fun k hk => by have hk : k = w2.heap.size := hk; omega) (Nat.le_refl _))
      generalize w9.setCell ⟨w2.heap.size, 3, none⟩ (.bool false) = w10 at *
      clear sx sf hf hs
      go_wp2_with fail
      refine (eexprs_any ok ts A c be bp w10 (j1 + 1) n2 y k1 H10.out HE.out (fun q hq => by have := HOK.out q hq; have := F10.out.size; omega)).mono ?_
      rintro e w11 ⟨g, rfl, hf, h, hr⟩
      have H11 := Lib.hid h
      have y10 := blk_lt S10.out
      have R11 := Lib.hid (blk_fr R10.out hf (ps_far hbe hbp (by omega)))
      have S11 := Lib.hid (blk_fr S10.out hf (ps_far hbe hbp (by omega)))
      have F11 := Lib.hid (F10.out.trans hf)
      have Y11 := Lib.hid (rows_keep Y10.out hf (ps_lt (by omega) (by omega)) (Nat.le_refl _))
      have X11 := Lib.hid hr
      clear hf h hr
      have sx := (cells_of S11.out).1 4 _ rfl
      have sf := (cells_of S11.out).2
      go_upto_region 13 with fail
      have hf : Fr (fun q => q = w2.heap.size) w11 (w11.setCell ⟨w2.heap.size, 4, none⟩ (.slice (some ⟨g, 0, none⟩) 1 1)) := (Fr.refl _ _).setCell _ _ (.inl rfl)
      have hs := blk_set S11.out 4 (.slice (some ⟨g, 0, none⟩) 1 1)
      have S12 := Lib.hid (show (w11.setCell ⟨w2.heap.size, 4, none⟩ (.slice (some ⟨g, 0, none⟩) 1 1)).heap[w2.heap.size]? = some (.cells #[(.string nm), (.slice none 0 0), (.slice A3 l.length c3), (.bool false), (.slice (some ⟨g, 0, none⟩) 1 1)] 44 (0, 0)) from hs)
      have H12 := Lib.hid (H11.out.away hf (by omega) (by omega) (fun q hq e => by have e : q = w2.heap.size := e; have := HOK.out q hq; omega))
      have R12 := Lib.hid (blk_fr R11.out hf (by omega))
      have F12 := Lib.hid (ps_new F11.out hf (by omega))
      have Y12 := Lib.hid (rows_keep Y11.out hf (fun k hk => by have hk : k = w2.heap.size := hk; omega) (Nat.le_refl _))
      have X12 := Lib.hid (rows_keep X11.out hf (fun k hk => by have hk : k = w2.heap.size := hk; omega) (Nat.le_refl _))
      generalize w11.setCell ⟨w2.heap.size, 4, none⟩ (.slice (some ⟨g, 0, none⟩) 1 1) = w12 at *
      clear sx sf hf hs
      have p0 := (cells_of H12.out.blk).1 0 _ rfl
      go_wp2_with fail
      refine (need_any ok ts A c be w12 k1 ⟨#[59]⟩ H12.out.eye hk1 TS3.out).mono ?_
      rintro e w13 ⟨rfl, hf1, h⟩
      have H13 := Lib.hid (H12.out.moved hf1 h)
      have hf := eye_ps (bp := bp) hf1
      have R13 := Lib.hid (blk_fr R12.out hf (ps_far hbe hbp (by omega)))
      have S13 := Lib.hid (blk_fr S12.out hf (ps_far hbe hbp (by omega)))
      have F13 := Lib.hid (F12.out.trans hf)
      have Y13 := Lib.hid (rows_keep Y12.out hf (ps_lt (by omega) (by omega)) (Nat.le_refl _))
      have X13 := Lib.hid (rows_keep X12.out hf (ps_lt (by omega) (by omega)) (Nat.le_refl _))
      clear hf hf1 h p0
      have l0 := (cells_of S13.out).1 0 _ rfl
      have r0 := (cells_of R13.out).1 0 _ rfl
      have l1 := (cells_of S13.out).1 1 _ rfl
      have r1 := (cells_of R13.out).1 1 _ rfl
      have l2 := (cells_of S13.out).1 2 _ rfl
      have r2 := (cells_of R13.out).1 2 _ rfl
      have l3 := (cells_of S13.out).1 3 _ rfl
      have r3 := (cells_of R13.out).1 3 _ rfl
      have l4 := (cells_of S13.out).1 4 _ rfl
      have r4 := (cells_of R13.out).1 4 _ rfl
      have rf := (cells_of R13.out).2
      go_wp2_with fail
      have HZ := Lib.hid (blk_put5 R13.out (.string nm) (.slice none 0 0) (.slice A3 l.length c3) (.bool false) (.slice (some ⟨g, 0, none⟩) 1 1))
      have HFZ := Lib.hid (fr_put5 (g := w.heap.size) (w := w13) (.string nm) (.slice none 0 0) (.slice A3 l.length c3) (.bool false) (.slice (some ⟨g, 0, none⟩) 1 1))
      generalize (((((w13.setCell ⟨w.heap.size, 0, none⟩ (.string nm)).setCell ⟨w.heap.size, 1, none⟩ (.slice none 0 0)).setCell ⟨w.heap.size, 2, none⟩ (.slice A3 l.length c3)).setCell ⟨w.heap.size, 3, none⟩ (.bool false)).setCell ⟨w.heap.size, 4, none⟩ (.slice (some ⟨g, 0, none⟩) 1 1)) = wz at *
      clear l0 l1 l2 l3 l4 r0 r1 r2 r3 r4 rf
      have YZ := Lib.hid (rows_keep Y13.out HFZ.out (fun k hk => by have hk : k = w.heap.size := hk; omega) (lo0 := w.heap.size) (by omega))
      have XZ := Lib.hid (rows_keep X13.out HFZ.out (fun k hk => by have hk : k = w.heap.size := hk; omega) (lo0 := w.heap.size) (by omega))
      have f0 := (cells_of HZ.out).1 0 _ rfl
      have f1 := (cells_of HZ.out).1 1 _ rfl
      have f2 := (cells_of HZ.out).1 2 _ rfl
      have f3 := (cells_of HZ.out).1 3 _ rfl
      have f4 := (cells_of HZ.out).1 4 _ rfl
      rw [HNQ.out]
      refine bodyPost_ret (v := .agg #[(.string nm), (.slice none 0 0), (.slice A3 l.length c3), (.bool false), (.slice (some ⟨g, 0, none⟩) 1 1)]) (by simp [results, Tryz.results61, go_sem, f0, f1, f2, f3, f4]) rfl ⟨_, _, _, _, _, _, rfl, ps_new F13.out HFZ.out (Nat.le_refl _), H13.out.away HFZ.out (by omega) (by omega) (fun q hq e => by have e : q = w.heap.size := e; have := HOK.out q hq; omega), ?_⟩
      exact ⟨⟨Nat.zero_le _, (by decide : 0 * 24 ≤ reach), trivial⟩, ⟨hc3, (by show l.length * 144 ≤ reach; unfold reach; omega), YZ.out⟩, ⟨Nat.le_refl 1, (by decide : 1 * 64 ≤ reach), XZ.out⟩⟩
    | false =>
      rw [te, if_neg Bool.false_ne_true] at ht
      split at ht
      case isFalse => cases ht
      case isTrue ts3 =>
      simp only [Option.some.injEq, Prod.mk.injEq] at ht
      obtain ⟨rfl, rfl⟩ := ht
      have TE := Lib.hid te; have TS3 := Lib.hid ts3
      clear te ts3 HT
      have p0 := (cells_of H7.out.blk).1 0 _ rfl
      go_wp2_with fail
      refine (esign_any ok ts A c be w7 (j1) ⟨#[61]⟩ H7.out.eye hj1).mono ?_
      rintro e w8 ⟨rfl, hf1, h⟩
      rw [show tkK ts 4 ⟨#[61]⟩ (j1) = false from TE.out]
      rw [eyeI_f (show tkK ts 4 ⟨#[61]⟩ (j1) = false from TE.out)] at h
      have H8 := Lib.hid (H7.out.moved hf1 h)
      have hf := eye_ps (bp := bp) hf1
      have R8 := Lib.hid (blk_fr R7.out hf (ps_far hbe hbp (by omega)))
      have S8 := Lib.hid (blk_fr S7.out hf (ps_far hbe hbp (by omega)))
      have F8 := Lib.hid (F7.out.trans hf)
      have Y8 := Lib.hid (rows_keep Y7.out hf (ps_lt (by omega) (by omega)) (Nat.le_refl _))
      clear hf hf1 h p0
      have p0 := (cells_of H8.out.blk).1 0 _ rfl
      go_wp2_with fail
      refine (need_any ok ts A c be w8 j1 ⟨#[59]⟩ H8.out.eye hj1 TS3.out).mono ?_
      rintro e w9 ⟨rfl, hf1, h⟩
      have H9 := Lib.hid (H8.out.moved hf1 h)
      have hf := eye_ps (bp := bp) hf1
      have R9 := Lib.hid (blk_fr R8.out hf (ps_far hbe hbp (by omega)))
      have S9 := Lib.hid (blk_fr S8.out hf (ps_far hbe hbp (by omega)))
      have F9 := Lib.hid (F8.out.trans hf)
      have Y9 := Lib.hid (rows_keep Y8.out hf (ps_lt (by omega) (by omega)) (Nat.le_refl _))
      clear hf hf1 h p0
      have l0 := (cells_of S9.out).1 0 _ rfl
      have r0 := (cells_of R9.out).1 0 _ rfl
      have l1 := (cells_of S9.out).1 1 _ rfl
      have r1 := (cells_of R9.out).1 1 _ rfl
      have l2 := (cells_of S9.out).1 2 _ rfl
      have r2 := (cells_of R9.out).1 2 _ rfl
      have l3 := (cells_of S9.out).1 3 _ rfl
      have r3 := (cells_of R9.out).1 3 _ rfl
      have l4 := (cells_of S9.out).1 4 _ rfl
      have r4 := (cells_of R9.out).1 4 _ rfl
      have rf := (cells_of R9.out).2
      go_wp2_with fail
      have HZ := Lib.hid (blk_put5 R9.out (.string nm) (.slice none 0 0) (.slice A3 l.length c3) (.bool false) (.slice none 0 0))
      have HFZ := Lib.hid (fr_put5 (g := w.heap.size) (w := w9) (.string nm) (.slice none 0 0) (.slice A3 l.length c3) (.bool false) (.slice none 0 0))
      generalize (((((w9.setCell ⟨w.heap.size, 0, none⟩ (.string nm)).setCell ⟨w.heap.size, 1, none⟩ (.slice none 0 0)).setCell ⟨w.heap.size, 2, none⟩ (.slice A3 l.length c3)).setCell ⟨w.heap.size, 3, none⟩ (.bool false)).setCell ⟨w.heap.size, 4, none⟩ (.slice none 0 0)) = wz at *
      clear l0 l1 l2 l3 l4 r0 r1 r2 r3 r4 rf
      have YZ := Lib.hid (rows_keep Y9.out HFZ.out (fun k hk => by have hk : k = w.heap.size := hk; omega) (lo0 := w.heap.size) (by omega))
      have f0 := (cells_of HZ.out).1 0 _ rfl
      have f1 := (cells_of HZ.out).1 1 _ rfl
      have f2 := (cells_of HZ.out).1 2 _ rfl
      have f3 := (cells_of HZ.out).1 3 _ rfl
      have f4 := (cells_of HZ.out).1 4 _ rfl
      rw [HNQ.out]
      refine bodyPost_ret (v := .agg #[(.string nm), (.slice none 0 0), (.slice A3 l.length c3), (.bool false), (.slice none 0 0)]) (by simp [results, Tryz.results61, go_sem, f0, f1, f2, f3, f4]) rfl ⟨_, _, _, _, _, _, rfl, ps_new F9.out HFZ.out (Nat.le_refl _), H9.out.away HFZ.out (by omega) (by omega) (fun q hq e => by have e : q = w.heap.size := e; have := HOK.out q hq; omega), ?_⟩
      exact ⟨⟨Nat.zero_le _, (by decide : 0 * 24 ≤ reach), trivial⟩, ⟨hc3, (by show l.length * 144 ≤ reach; unfold reach; omega), YZ.out⟩, ⟨Nat.zero_le _, (by decide : 0 * 64 ≤ reach), trivial⟩⟩
  | false =>
    have hh := HH.out
    rw [t2, if_neg Bool.false_ne_true] at hh
    split at hh
    case isFalse => cases hh
    case isTrue hq =>
    obtain ⟨t3, hi3, hnm2, hi4, t4⟩ := hq
    simp only [Option.some.injEq, Prod.mk.injEq] at hh
    obtain ⟨rfl, rfl⟩ := hh
    have HNQ2 := Lib.hid (show (ts.getD (i + 1 + 1 + 1) Tk.zero).text = ts[i + 1 + 1 + 1].text by rw [getD_at hi3])
    rw [getD_at hi3] at hnm2
    have T2 := Lib.hid t2; have T3 := Lib.hid t3; have T4 := Lib.hid t4; have HNM2 := Lib.hid hnm2
    clear t2 t3 t4 hnm2 HH
    go_wp2_with fail
    refine wp_loop_rounds 2 ?_
    rw [rounds_succ]
    go_wp2_with fail
    refine (pfine_any ok ts A c be bp w4 (i + 1 + 1) n H4.out).mono ?_
    rintro e wq ⟨rfl, rfl⟩
    have p0 := (cells_of H4.out.blk).1 0 _ rfl
    go_wp2_with fail
    refine (esign_any ok ts A c be w4 (i + 1 + 1) ⟨#[41]⟩ H4.out.eye hi2).mono ?_
    rintro e w5 ⟨rfl, hf1, h⟩
    rw [show tkK ts 4 ⟨#[41]⟩ (i + 1 + 1) = false from T2.out]
    rw [eyeI_f (show tkK ts 4 ⟨#[41]⟩ (i + 1 + 1) = false from T2.out)] at h
    have H5 := Lib.hid (H4.out.moved hf1 h)
    have hf := eye_ps (bp := bp) hf1
    have R5 := Lib.hid (blk_fr R4.out hf (ps_far hbe hbp (by omega)))
    have S5 := Lib.hid (blk_fr S4.out hf (ps_far hbe hbp (by omega)))
    have F5 := Lib.hid (F4.out.trans hf)
    clear hf hf1 h p0
    have s1 := (cells_of S5.out).1 1 _ rfl
    have sf := (cells_of S5.out).2
    have y5 := blk_lt S5.out
    have HCE := Lib.hid (pparam_any ok ts A c be bp w5.drew (i + 1 + 1) n ts[i + 1 + 1 + 1].text (H5.out.stay (fr_refl w5).drew) (fun q hq => by have := HOK.out q hq; show q < w5.heap.size; omega) hi2 T3.out hi3 HNM2.out rfl)
    generalize ts[i + 1 + 1 + 1].text = pn at *
    go_upto_region 8 with fail
    go_region_with (go_at_call 97; refine HCE.out.mono ?_; rintro e w7 ⟨rfl, hf6, h6⟩; have s1 := hf6.cell' s1 (ps_far (q := w2.heap.size) hbe hbp (by omega)); have sf := (cells_of (blk_fr (blk_fr S5.out (fr_refl w5).drew (non _)) hf6 (ps_far (q := w2.heap.size) hbe hbp (by omega)))).2; have hz6 : w2.heap.size < w7.heap.size := Nat.lt_of_lt_of_le y5 hf6.size)
    all_goals
      have HFX := Lib.hid (show Fr (fun q => q = w2.heap.size) w7 ((((w7.setCell ⟨w2.heap.size, 1, none⟩ (.slice (some ⟨w7.heap.size + 1, 0, none⟩) 1 ((Question.appendCap 1 0 50).cut (w7.tape w7.drawn (Question.appendCap 1 0 50))))).alloc (.cells #[.string pn, .bool false, .bool false, .bool false] 50)).alloc (.cells (#[.string pn, .bool false, .bool false, .bool false] ++ Builtin.zeroCells #[.string ⟨#[]⟩, .bool false, .bool false, .bool false] (((Question.appendCap 1 0 50).cut (w7.tape w7.drawn (Question.appendCap 1 0 50))) - 1)) 50)).drew) from ((((Fr.refl (fun q => q = w2.heap.size) w7).setCell ⟨w2.heap.size, 1, none⟩ _ (.inl rfl)).alloc _).alloc _).drew)
      have HXX := Lib.hid (show ((((w7.setCell ⟨w2.heap.size, 1, none⟩ (.slice (some ⟨w7.heap.size + 1, 0, none⟩) 1 ((Question.appendCap 1 0 50).cut (w7.tape w7.drawn (Question.appendCap 1 0 50))))).alloc (.cells #[.string pn, .bool false, .bool false, .bool false] 50)).alloc (.cells (#[.string pn, .bool false, .bool false, .bool false] ++ Builtin.zeroCells #[.string ⟨#[]⟩, .bool false, .bool false, .bool false] (((Question.appendCap 1 0 50).cut (w7.tape w7.drawn (Question.appendCap 1 0 50))) - 1)) 50)).drew).heap[w7.heap.size + 1]? = some (.cells (#[.string pn, .bool false, .bool false, .bool false] ++ Builtin.zeroCells #[.string ⟨#[]⟩, .bool false, .bool false, .bool false] (((Question.appendCap 1 0 50).cut (w7.tape w7.drawn (Question.appendCap 1 0 50))) - 1)) 50 (0, 0)) from blk_new' (by simp) _ _)
      have S6 := Lib.hid (blk_fr (blk_fr S5.out (fr_refl w5).drew (non _)) hf6 (ps_far hbe hbp (by omega)))
      have S8 := Lib.hid (show ((((w7.setCell ⟨w2.heap.size, 1, none⟩ (.slice (some ⟨w7.heap.size + 1, 0, none⟩) 1 ((Question.appendCap 1 0 50).cut (w7.tape w7.drawn (Question.appendCap 1 0 50))))).alloc (.cells #[.string pn, .bool false, .bool false, .bool false] 50)).alloc (.cells (#[.string pn, .bool false, .bool false, .bool false] ++ Builtin.zeroCells #[.string ⟨#[]⟩, .bool false, .bool false, .bool false] (((Question.appendCap 1 0 50).cut (w7.tape w7.drawn (Question.appendCap 1 0 50))) - 1)) 50)).drew).heap[w2.heap.size]? = some (.cells #[.string nm, .slice (some ⟨w7.heap.size + 1, 0, none⟩) 1 ((Question.appendCap 1 0 50).cut (w7.tape w7.drawn (Question.appendCap 1 0 50))), .slice none 0 0, .bool false, .slice none 0 0] 44 (0, 0)) from blk_old (blk_old (blk_set S6.out 1 _)))
      have hC := cap_one w7 50
      have R6 := Lib.hid (blk_fr (blk_fr R5.out (fr_refl w5).drew (non _)) hf6 (ps_far hbe hbp (by omega)))
      have H6 := Lib.hid h6
      have F6 := Lib.hid ((F5.out.trans (fr_refl w5).drew.non).trans hf6)
      clear s1 sf hf6 h6
      generalize (Question.appendCap 1 0 50).cut (w7.tape w7.drawn (Question.appendCap 1 0 50)) = C at *
      generalize ((((w7.setCell ⟨w2.heap.size, 1, none⟩ (.slice (some ⟨w7.heap.size + 1, 0, none⟩) 1 C)).alloc (.cells #[.string pn, .bool false, .bool false, .bool false] 50)).alloc (.cells (#[.string pn, .bool false, .bool false, .bool false] ++ Builtin.zeroCells #[.string ⟨#[]⟩, .bool false, .bool false, .bool false] (C - 1)) 50)).drew) = w8 at *
      have H8 := Lib.hid (H6.out.away HFX.out (by omega) (by omega) (fun q hq e => by have e : q = w2.heap.size := e; have := HOK.out q hq; omega))
      have R8 := Lib.hid (blk_fr R6.out HFX.out (by omega))
      have F8 := Lib.hid (ps_new F6.out HFX.out (by omega))
      have hzx := blk_lt HXX.out
      have P8 := Lib.hid (rd_pa1 (ok := New w7.heap.size w8) HXX.out ⟨by omega, hzx⟩)
      have hz67 : w.heap.size < w7.heap.size := by omega
      clear HXX
      go_wp2_with fail
      rw [rounds_succ]
      go_wp2_with fail
      refine (pfine_any ok ts A c be bp w8 (i + 1 + 1 + 1 + 1) n H8.out).mono ?_
      rintro e wq ⟨rfl, rfl⟩
      have p0 := (cells_of H8.out.blk).1 0 _ rfl
      go_wp2_with fail
      refine (esign_any ok ts A c be w8 (i + 1 + 1 + 1 + 1) ⟨#[41]⟩ H8.out.eye hi4).mono ?_
      rintro e w9 ⟨rfl, hf1, h⟩
      rw [show tkK ts 4 ⟨#[41]⟩ (i + 1 + 1 + 1 + 1) = true from T4.out]
      rw [eyeI_t (show tkK ts 4 ⟨#[41]⟩ (i + 1 + 1 + 1 + 1) = true from T4.out)] at h
      have H9 := Lib.hid (H8.out.moved hf1 h)
      have hf := eye_ps (bp := bp) hf1
      have R9 := Lib.hid (blk_fr R8.out hf (ps_far hbe hbp (by omega)))
      have S9 := Lib.hid (blk_fr S8.out hf (ps_far hbe hbp (by omega)))
      have F9 := Lib.hid (F8.out.trans hf)
      have P9 := Lib.hid (rows_keep P8.out hf (ps_lt (by omega) (by omega)) (Nat.le_refl _))
      clear hf hf1 h p0
      go_wp2_with fail
      refine (BK 1 n (i + 1 + 1 + 1 + 1 + 1) l n2 j1 w9 HBL.out (by omega) H9.out (fun q hq => by have := HOK.out q hq; have := F9.out.size; omega)).mono ?_
      rintro e w10 ⟨A3, c3, rfl, hc3, hl4, hf, h, hr⟩
      have H10 := Lib.hid h
      have y9 := blk_lt S9.out
      have R10 := Lib.hid (blk_fr R9.out hf (ps_far hbe hbp (by omega)))
      have S10 := Lib.hid (blk_fr S9.out hf (ps_far hbe hbp (by omega)))
      have F10 := Lib.hid (F9.out.trans hf)
      have P10 := Lib.hid (rows_keep P9.out hf (ps_lt (by omega) (by omega)) (Nat.le_refl _))
      have Y10 := Lib.hid hr
      clear hf h hr
      have sx := (cells_of S10.out).1 2 _ rfl
      have sf := (cells_of S10.out).2
      go_upto_region 10 with fail
      have hf : Fr (fun q => q = w2.heap.size) w10 (w10.setCell ⟨w2.heap.size, 2, none⟩ (.slice A3 l.length c3)) := (Fr.refl _ _).setCell _ _ (.inl rfl)
      have hs := blk_set S10.out 2 (.slice A3 l.length c3)
      have S11 := Lib.hid (show (w10.setCell ⟨w2.heap.size, 2, none⟩ (.slice A3 l.length c3)).heap[w2.heap.size]? = some (.cells #[(.string nm), (.slice (some ⟨w7.heap.size + 1, 0, none⟩) 1 C), (.slice A3 l.length c3), (.bool false), (.slice none 0 0)] 44 (0, 0)) from hs)
      have H11 := Lib.hid (H10.out.away hf (by omega) (by omega) (fun q hq e => by have e : q = w2.heap.size := e; have := HOK.out q hq; omega))
      have R11 := Lib.hid (blk_fr R10.out hf (by omega))
      have F11 := Lib.hid (ps_new F10.out hf (by omega))
      have P11 := Lib.hid (rows_keep P10.out hf (fun k hk => by have hk : k = w2.heap.size := hk; omega) (Nat.le_refl _))
      have Y11 := Lib.hid (rows_keep Y10.out hf (fun k hk => by have hk : k = w2.heap.size := hk; omega) (Nat.le_refl _))
      generalize w10.setCell ⟨w2.heap.size, 2, none⟩ (.slice A3 l.length c3) = w11 at *
      clear sx sf hf hs
      have ht := HT.out
      rw [tailP] at ht
      split at ht
      case isFalse => cases ht
      case isTrue hj1 =>
      cases te : tkK ts 4 gEq j1 with
      | true =>
        rw [te, if_pos rfl] at ht
        split at ht
        case isFalse => cases ht
        case isTrue hq =>
        obtain ⟨hj2, ts2⟩ := hq
        cases he : exprP ts (j1 + 1) with
        | none => rw [he] at ht; cases ht
        | some r =>
        obtain ⟨y, k1⟩ := r
        rw [he, Option.bind_some] at ht
        split at ht
        case isFalse => cases ht
        case isTrue hq2 =>
        obtain ⟨hk1, ts3⟩ := hq2
        simp only [Option.some.injEq, Prod.mk.injEq] at ht
        obtain ⟨rfl, rfl⟩ := ht
        have TE := Lib.hid te; have TS2 := Lib.hid ts2; have TS3 := Lib.hid ts3; have HE := Lib.hid he
        clear te ts2 ts3 he HT
        have p0 := (cells_of H11.out.blk).1 0 _ rfl
        go_wp2_with fail
        refine (esign_any ok ts A c be w11 (j1) ⟨#[61]⟩ H11.out.eye hj1).mono ?_
        rintro e w12 ⟨rfl, hf1, h⟩
        rw [show tkK ts 4 ⟨#[61]⟩ (j1) = true from TE.out]
        rw [eyeI_t (show tkK ts 4 ⟨#[61]⟩ (j1) = true from TE.out)] at h
        have H12 := Lib.hid (H11.out.moved hf1 h)
        have hf := eye_ps (bp := bp) hf1
        have R12 := Lib.hid (blk_fr R11.out hf (ps_far hbe hbp (by omega)))
        have S12 := Lib.hid (blk_fr S11.out hf (ps_far hbe hbp (by omega)))
        have F12 := Lib.hid (F11.out.trans hf)
        have P12 := Lib.hid (rows_keep P11.out hf (ps_lt (by omega) (by omega)) (Nat.le_refl _))
        have Y12 := Lib.hid (rows_keep Y11.out hf (ps_lt (by omega) (by omega)) (Nat.le_refl _))
        clear hf hf1 h p0
        go_wp2_with fail
        refine (eword_any ok ts A c be bp w12 (j1 + 1) n2 ⟨#[115, 101, 99, 114, 101, 116]⟩ H12.out hj2).mono ?_
        rintro e w13 ⟨rfl, hf, h⟩
        rw [show tkK ts 2 ⟨#[115, 101, 99, 114, 101, 116]⟩ (j1 + 1) = false from TS2.out]
        rw [eyeI_f (show tkK ts 2 ⟨#[115, 101, 99, 114, 101, 116]⟩ (j1 + 1) = false from TS2.out)] at h
        have H13 := Lib.hid h
        have R13 := Lib.hid (blk_fr R12.out hf (ps_far hbe hbp (by omega)))
        have S13 := Lib.hid (blk_fr S12.out hf (ps_far hbe hbp (by omega)))
        have F13 := Lib.hid (F12.out.trans hf)
        have P13 := Lib.hid (rows_keep P12.out hf (ps_lt (by omega) (by omega)) (Nat.le_refl _))
        have Y13 := Lib.hid (rows_keep Y12.out hf (ps_lt (by omega) (by omega)) (Nat.le_refl _))
        clear hf h
        have sx := (cells_of S13.out).1 3 _ rfl
        have sf := (cells_of S13.out).2
        go_upto_region 12 with fail
        have hf : Fr (fun q => q = w2.heap.size) w13 (w13.setCell ⟨w2.heap.size, 3, none⟩ (.bool false)) := (Fr.refl _ _).setCell _ _ (.inl rfl)
        have hs := blk_set S13.out 3 (.bool false)
        have S14 := Lib.hid (show (w13.setCell ⟨w2.heap.size, 3, none⟩ (.bool false)).heap[w2.heap.size]? = some (.cells #[(.string nm), (.slice (some ⟨w7.heap.size + 1, 0, none⟩) 1 C), (.slice A3 l.length c3), (.bool false), (.slice none 0 0)] 44 (0, 0)) from hs)
        have H14 := Lib.hid (H13.out.away hf (by omega) (by omega) (fun q hq e => by have e : q = w2.heap.size := e; have := HOK.out q hq; omega))
        have R14 := Lib.hid (blk_fr R13.out hf (by omega))
        have F14 := Lib.hid (ps_new F13.out hf (by omega))
        have P14 := Lib.hid (rows_keep P13.out hf (fun k hk => by have hk : k = w2.heap.size := hk; omega) (Nat.le_refl _))
        have Y14 := Lib.hid (rows_keep Y13.out hf (fun k hk => by have hk : k = w2.heap.size := hk; omega) (Nat.le_refl _))
        generalize w13.setCell ⟨w2.heap.size, 3, none⟩ (.bool false) = w14 at *
        clear sx sf hf hs
        go_wp2_with fail
        refine (eexprs_any ok ts A c be bp w14 (j1 + 1) n2 y k1 H14.out HE.out (fun q hq => by have := HOK.out q hq; have := F14.out.size; omega)).mono ?_
        rintro e w15 ⟨g, rfl, hf, h, hr⟩
        have H15 := Lib.hid h
        have y14 := blk_lt S14.out
        have R15 := Lib.hid (blk_fr R14.out hf (ps_far hbe hbp (by omega)))
        have S15 := Lib.hid (blk_fr S14.out hf (ps_far hbe hbp (by omega)))
        have F15 := Lib.hid (F14.out.trans hf)
        have P15 := Lib.hid (rows_keep P14.out hf (ps_lt (by omega) (by omega)) (Nat.le_refl _))
        have Y15 := Lib.hid (rows_keep Y14.out hf (ps_lt (by omega) (by omega)) (Nat.le_refl _))
        have X15 := Lib.hid hr
        clear hf h hr
        have sx := (cells_of S15.out).1 4 _ rfl
        have sf := (cells_of S15.out).2
        go_upto_region 13 with fail
        have hf : Fr (fun q => q = w2.heap.size) w15 (w15.setCell ⟨w2.heap.size, 4, none⟩ (.slice (some ⟨g, 0, none⟩) 1 1)) := (Fr.refl _ _).setCell _ _ (.inl rfl)
        have hs := blk_set S15.out 4 (.slice (some ⟨g, 0, none⟩) 1 1)
        have S16 := Lib.hid (show (w15.setCell ⟨w2.heap.size, 4, none⟩ (.slice (some ⟨g, 0, none⟩) 1 1)).heap[w2.heap.size]? = some (.cells #[(.string nm), (.slice (some ⟨w7.heap.size + 1, 0, none⟩) 1 C), (.slice A3 l.length c3), (.bool false), (.slice (some ⟨g, 0, none⟩) 1 1)] 44 (0, 0)) from hs)
        have H16 := Lib.hid (H15.out.away hf (by omega) (by omega) (fun q hq e => by have e : q = w2.heap.size := e; have := HOK.out q hq; omega))
        have R16 := Lib.hid (blk_fr R15.out hf (by omega))
        have F16 := Lib.hid (ps_new F15.out hf (by omega))
        have P16 := Lib.hid (rows_keep P15.out hf (fun k hk => by have hk : k = w2.heap.size := hk; omega) (Nat.le_refl _))
        have Y16 := Lib.hid (rows_keep Y15.out hf (fun k hk => by have hk : k = w2.heap.size := hk; omega) (Nat.le_refl _))
        have X16 := Lib.hid (rows_keep X15.out hf (fun k hk => by have hk : k = w2.heap.size := hk; omega) (Nat.le_refl _))
        generalize w15.setCell ⟨w2.heap.size, 4, none⟩ (.slice (some ⟨g, 0, none⟩) 1 1) = w16 at *
        clear sx sf hf hs
        have p0 := (cells_of H16.out.blk).1 0 _ rfl
        go_wp2_with fail
        refine (need_any ok ts A c be w16 k1 ⟨#[59]⟩ H16.out.eye hk1 TS3.out).mono ?_
        rintro e w17 ⟨rfl, hf1, h⟩
        have H17 := Lib.hid (H16.out.moved hf1 h)
        have hf := eye_ps (bp := bp) hf1
        have R17 := Lib.hid (blk_fr R16.out hf (ps_far hbe hbp (by omega)))
        have S17 := Lib.hid (blk_fr S16.out hf (ps_far hbe hbp (by omega)))
        have F17 := Lib.hid (F16.out.trans hf)
        have P17 := Lib.hid (rows_keep P16.out hf (ps_lt (by omega) (by omega)) (Nat.le_refl _))
        have Y17 := Lib.hid (rows_keep Y16.out hf (ps_lt (by omega) (by omega)) (Nat.le_refl _))
        have X17 := Lib.hid (rows_keep X16.out hf (ps_lt (by omega) (by omega)) (Nat.le_refl _))
        clear hf hf1 h p0
        have l0 := (cells_of S17.out).1 0 _ rfl
        have r0 := (cells_of R17.out).1 0 _ rfl
        have l1 := (cells_of S17.out).1 1 _ rfl
        have r1 := (cells_of R17.out).1 1 _ rfl
        have l2 := (cells_of S17.out).1 2 _ rfl
        have r2 := (cells_of R17.out).1 2 _ rfl
        have l3 := (cells_of S17.out).1 3 _ rfl
        have r3 := (cells_of R17.out).1 3 _ rfl
        have l4 := (cells_of S17.out).1 4 _ rfl
        have r4 := (cells_of R17.out).1 4 _ rfl
        have rf := (cells_of R17.out).2
        go_wp2_with fail
        have HZ := Lib.hid (blk_put5 R17.out (.string nm) (.slice (some ⟨w7.heap.size + 1, 0, none⟩) 1 C) (.slice A3 l.length c3) (.bool false) (.slice (some ⟨g, 0, none⟩) 1 1))
        have HFZ := Lib.hid (fr_put5 (g := w.heap.size) (w := w17) (.string nm) (.slice (some ⟨w7.heap.size + 1, 0, none⟩) 1 C) (.slice A3 l.length c3) (.bool false) (.slice (some ⟨g, 0, none⟩) 1 1))
        generalize (((((w17.setCell ⟨w.heap.size, 0, none⟩ (.string nm)).setCell ⟨w.heap.size, 1, none⟩ (.slice (some ⟨w7.heap.size + 1, 0, none⟩) 1 C)).setCell ⟨w.heap.size, 2, none⟩ (.slice A3 l.length c3)).setCell ⟨w.heap.size, 3, none⟩ (.bool false)).setCell ⟨w.heap.size, 4, none⟩ (.slice (some ⟨g, 0, none⟩) 1 1)) = wz at *
        clear l0 l1 l2 l3 l4 r0 r1 r2 r3 r4 rf
        have PZ := Lib.hid (rows_keep P17.out HFZ.out (fun k hk => by have hk : k = w.heap.size := hk; omega) (lo0 := w.heap.size) (by omega))
        have YZ := Lib.hid (rows_keep Y17.out HFZ.out (fun k hk => by have hk : k = w.heap.size := hk; omega) (lo0 := w.heap.size) (by omega))
        have XZ := Lib.hid (rows_keep X17.out HFZ.out (fun k hk => by have hk : k = w.heap.size := hk; omega) (lo0 := w.heap.size) (by omega))
        have f0 := (cells_of HZ.out).1 0 _ rfl
        have f1 := (cells_of HZ.out).1 1 _ rfl
        have f2 := (cells_of HZ.out).1 2 _ rfl
        have f3 := (cells_of HZ.out).1 3 _ rfl
        have f4 := (cells_of HZ.out).1 4 _ rfl
        rw [HNQ.out, HNQ2.out]
        refine bodyPost_ret (v := .agg #[(.string nm), (.slice (some ⟨w7.heap.size + 1, 0, none⟩) 1 C), (.slice A3 l.length c3), (.bool false), (.slice (some ⟨g, 0, none⟩) 1 1)]) (by simp [results, Tryz.results61, go_sem, f0, f1, f2, f3, f4]) rfl ⟨_, _, _, _, _, _, rfl, ps_new F17.out HFZ.out (Nat.le_refl _), H17.out.away HFZ.out (by omega) (by omega) (fun q hq e => by have e : q = w.heap.size := e; have := HOK.out q hq; omega), ?_⟩
        exact ⟨⟨hC, (by decide : 1 * 24 ≤ reach), PZ.out⟩, ⟨hc3, (by show l.length * 144 ≤ reach; unfold reach; omega), YZ.out⟩, ⟨Nat.le_refl 1, (by decide : 1 * 64 ≤ reach), XZ.out⟩⟩
      | false =>
        rw [te, if_neg Bool.false_ne_true] at ht
        split at ht
        case isFalse => cases ht
        case isTrue ts3 =>
        simp only [Option.some.injEq, Prod.mk.injEq] at ht
        obtain ⟨rfl, rfl⟩ := ht
        have TE := Lib.hid te; have TS3 := Lib.hid ts3
        clear te ts3 HT
        have p0 := (cells_of H11.out.blk).1 0 _ rfl
        go_wp2_with fail
        refine (esign_any ok ts A c be w11 (j1) ⟨#[61]⟩ H11.out.eye hj1).mono ?_
        rintro e w12 ⟨rfl, hf1, h⟩
        rw [show tkK ts 4 ⟨#[61]⟩ (j1) = false from TE.out]
        rw [eyeI_f (show tkK ts 4 ⟨#[61]⟩ (j1) = false from TE.out)] at h
        have H12 := Lib.hid (H11.out.moved hf1 h)
        have hf := eye_ps (bp := bp) hf1
        have R12 := Lib.hid (blk_fr R11.out hf (ps_far hbe hbp (by omega)))
        have S12 := Lib.hid (blk_fr S11.out hf (ps_far hbe hbp (by omega)))
        have F12 := Lib.hid (F11.out.trans hf)
        have P12 := Lib.hid (rows_keep P11.out hf (ps_lt (by omega) (by omega)) (Nat.le_refl _))
        have Y12 := Lib.hid (rows_keep Y11.out hf (ps_lt (by omega) (by omega)) (Nat.le_refl _))
        clear hf hf1 h p0
        have p0 := (cells_of H12.out.blk).1 0 _ rfl
        go_wp2_with fail
        refine (need_any ok ts A c be w12 j1 ⟨#[59]⟩ H12.out.eye hj1 TS3.out).mono ?_
        rintro e w13 ⟨rfl, hf1, h⟩
        have H13 := Lib.hid (H12.out.moved hf1 h)
        have hf := eye_ps (bp := bp) hf1
        have R13 := Lib.hid (blk_fr R12.out hf (ps_far hbe hbp (by omega)))
        have S13 := Lib.hid (blk_fr S12.out hf (ps_far hbe hbp (by omega)))
        have F13 := Lib.hid (F12.out.trans hf)
        have P13 := Lib.hid (rows_keep P12.out hf (ps_lt (by omega) (by omega)) (Nat.le_refl _))
        have Y13 := Lib.hid (rows_keep Y12.out hf (ps_lt (by omega) (by omega)) (Nat.le_refl _))
        clear hf hf1 h p0
        have l0 := (cells_of S13.out).1 0 _ rfl
        have r0 := (cells_of R13.out).1 0 _ rfl
        have l1 := (cells_of S13.out).1 1 _ rfl
        have r1 := (cells_of R13.out).1 1 _ rfl
        have l2 := (cells_of S13.out).1 2 _ rfl
        have r2 := (cells_of R13.out).1 2 _ rfl
        have l3 := (cells_of S13.out).1 3 _ rfl
        have r3 := (cells_of R13.out).1 3 _ rfl
        have l4 := (cells_of S13.out).1 4 _ rfl
        have r4 := (cells_of R13.out).1 4 _ rfl
        have rf := (cells_of R13.out).2
        go_wp2_with fail
        have HZ := Lib.hid (blk_put5 R13.out (.string nm) (.slice (some ⟨w7.heap.size + 1, 0, none⟩) 1 C) (.slice A3 l.length c3) (.bool false) (.slice none 0 0))
        have HFZ := Lib.hid (fr_put5 (g := w.heap.size) (w := w13) (.string nm) (.slice (some ⟨w7.heap.size + 1, 0, none⟩) 1 C) (.slice A3 l.length c3) (.bool false) (.slice none 0 0))
        generalize (((((w13.setCell ⟨w.heap.size, 0, none⟩ (.string nm)).setCell ⟨w.heap.size, 1, none⟩ (.slice (some ⟨w7.heap.size + 1, 0, none⟩) 1 C)).setCell ⟨w.heap.size, 2, none⟩ (.slice A3 l.length c3)).setCell ⟨w.heap.size, 3, none⟩ (.bool false)).setCell ⟨w.heap.size, 4, none⟩ (.slice none 0 0)) = wz at *
        clear l0 l1 l2 l3 l4 r0 r1 r2 r3 r4 rf
        have PZ := Lib.hid (rows_keep P13.out HFZ.out (fun k hk => by have hk : k = w.heap.size := hk; omega) (lo0 := w.heap.size) (by omega))
        have YZ := Lib.hid (rows_keep Y13.out HFZ.out (fun k hk => by have hk : k = w.heap.size := hk; omega) (lo0 := w.heap.size) (by omega))
        have f0 := (cells_of HZ.out).1 0 _ rfl
        have f1 := (cells_of HZ.out).1 1 _ rfl
        have f2 := (cells_of HZ.out).1 2 _ rfl
        have f3 := (cells_of HZ.out).1 3 _ rfl
        have f4 := (cells_of HZ.out).1 4 _ rfl
        rw [HNQ.out, HNQ2.out]
        refine bodyPost_ret (v := .agg #[(.string nm), (.slice (some ⟨w7.heap.size + 1, 0, none⟩) 1 C), (.slice A3 l.length c3), (.bool false), (.slice none 0 0)]) (by simp [results, Tryz.results61, go_sem, f0, f1, f2, f3, f4]) rfl ⟨_, _, _, _, _, _, rfl, ps_new F13.out HFZ.out (Nat.le_refl _), H13.out.away HFZ.out (by omega) (by omega) (fun q hq e => by have e : q = w.heap.size := e; have := HOK.out q hq; omega), ?_⟩
        exact ⟨⟨hC, (by decide : 1 * 24 ≤ reach), PZ.out⟩, ⟨hc3, (by show l.length * 144 ≤ reach; unfold reach; omega), YZ.out⟩, ⟨Nat.zero_le _, (by decide : 0 * 64 ≤ reach), trivial⟩⟩
end Go.Proofs.YtnlnejpioijkiaaGreatDoor
/- Contracts of the reference's parser: ref08.Parse of a text with one function; sacristylaw10.Parsed. -/
namespace Go.Proofs.YtnlnejpioijkiaaGreatDoor
open Go.RowKit
set_option linter.unusedVariables false
set_option linter.unusedSimpArgs false
theorem field_kind (t : Tk) (w : World) : Sem.run Tryz.prog (Instr.field 119 (.agg #[vu8 t.kind, .string t.text, vu64 t.num, .int .i64 t.at_]) 0) w = .ok (vu8 t.kind) w := by
  kernel_rfl
theorem rd_fu1 {ok : Nat → Prop} {w : World} {g : Nat} {x : Fu} {Z : Array Value} {A1 A2 A3 : Option Addr} {c1 c2 c3 : Nat} (h : w.heap[g]? = some (.cells (#[.string x.name, .slice A1 x.params.length c1, .slice A2 x.body.length c2, .bool x.sec, .slice A3 x.ret.length c3] ++ Z) 44 (0, 0))) (hf : FuRd ok w x A1 A2 A3 c1 c2 c3) (hg : ok g) : RdRows ok w 5 (some ⟨g, 0, none⟩) 0 ([x].map Fu.d) := by
  have hc := (cells_of h).1
  have hq : ∀ i v, i < 5 → (#[.string x.name, .slice A1 x.params.length c1, .slice A2 x.body.length c2, .bool x.sec, .slice A3 x.ret.length c3] : Array Value)[i]? = some v → w.cell? ⟨g, i, none⟩ = some v := fun i v hi hv => hc i v (by rw [Array.getElem?_append_left (by simpa using hi)]; exact hv)
  refine ⟨⟨g, 0, rfl, hg, rfl, ⟨_, hq 0 _ (by omega) rfl, rfl⟩, ⟨_, hq 1 _ (by omega) rfl, A1, c1, ?_, ?_, ?_, hf.params.2.2⟩, ⟨_, hq 2 _ (by omega) rfl, A2, c2, ?_, ?_, ?_, hf.body.2.2⟩, ⟨_, hq 3 _ (by omega) rfl, rfl⟩, ⟨_, hq 4 _ (by omega) rfl, A3, c3, ?_, ?_, ?_, hf.ret.2.2⟩, trivial⟩, trivial⟩
  · rw [List.length_map]; rfl
  · rw [List.length_map]; exact hf.params.1
  · rw [List.length_map]; exact hf.params.2.1
  · rw [St.ds_length]; rfl
  · rw [St.ds_length]; exact hf.body.1
  · rw [St.ds_length]; exact hf.body.2.1
  · rw [Ex.ds_length]; rfl
  · rw [Ex.ds_length]; exact hf.ret.1
  · rw [Ex.ds_length]; exact hf.ret.2.1
theorem FuRd.keepS {lo lo0 : Nat} {w w' : World} {s : Fu} {A1 A2 A3 : Option Addr} {c1 c2 c3 : Nat} {S : Nat → Prop} (h : FuRd (New lo w) w s A1 A2 A3 c1 c2 c3) (hf : Fr S w w') (hs : ∀ k, S k → k < lo) (hl : lo0 ≤ lo) : FuRd (New lo0 w') w' s A1 A2 A3 c1 c2 c3 :=
  ⟨⟨h.params.1, h.params.2.1, rows_keep h.params.2.2 hf hs hl⟩, ⟨h.body.1, h.body.2.1, rows_keep h.body.2.2 hf hs hl⟩, ⟨h.ret.1, h.ret.2.1, rows_keep h.ret.2.2 hf hs hl⟩⟩
/-- The program of a text with one function. -/
def parseP (s : ByteArray) : Option Fu :=
  if s.size ≤ 16384 then (cutS s (s.size + 1) 0).bind fun L =>
    if (L ++ [endTk s]).length ≤ 20000 ∧ tkK (L ++ [endTk s]) 2 wFn 0 = true then
      (fnP (L ++ [endTk s]) 100 0 1).bind fun r => if r.2.2 < (L ++ [endTk s]).length ∧ ((L ++ [endTk s]).getD r.2.2 Tk.zero).kind.toNat = 5 then some r.1 else none
    else none
  else none

set_option maxRecDepth 100000 in
set_option maxHeartbeats 8000000 in
theorem parse_any (s : ByteArray) (x : Fu) (w : World) (hx : parseP s = some x) :
   Calls Tryz.prog 30 #[.string s] w fun e w' => ∃ A c, e = .returned (.tuple #[.agg #[.slice A 1 c], .agg #[.int .i64 0, .int .i64 0]]) ∧ 1 ≤ c ∧ Fr Non w w' ∧ RdRows (New w.heap.size w') w' 5 A 0 ([x].map Fu.d) := by
  rw [parseP] at hx
  split at hx
  case isFalse => cases hx
  case isTrue hs =>
  cases hL : cutS s (s.size + 1) 0 with
  | none => rw [hL] at hx; cases hx
  | some L =>
  rw [hL, Option.bind_some] at hx
  have htl : (L ++ [endTk s]).length = L.length + 1 := by simp
  generalize hts : L ++ [endTk s] = ts at *
  split at hx
  case isFalse => cases hx
  case isTrue hc =>
  obtain ⟨hlen, t1⟩ := hc
  cases hfn : fnP ts 100 0 1 with
  | none => rw [hfn] at hx; cases hx
  | some r =>
  obtain ⟨y, n', j⟩ := r
  rw [hfn, Option.bind_some] at hx
  split at hx
  case isFalse => cases hx
  case isTrue hq =>
  obtain ⟨hj, hk5⟩ := hq
  simp only [Option.some.injEq] at hx
  subst hx
  simp only at hj hk5
  rw [getD_at hj] at hk5
  obtain ⟨W1, HW1⟩ : ∃ W1, W1 = (w.alloc (.cells #[.slice none 0 0] 24)).alloc (.cells #[.int .i64 0, .int .i64 0] 36) := ⟨_, rfl⟩
  have hf1 : Fr Non w W1 := by rw [HW1]; exact ((fr_refl w).alloc _).alloc _
  have R1 := Lib.hid (show W1.heap[w.heap.size]? = some (.cells #[.slice none 0 0] 24 (0, 0)) by rw [HW1]; exact blk_old (blk_new _ _ _))
  have Q1 := Lib.hid (show W1.heap[w.heap.size + 1]? = some (.cells #[.int .i64 0, .int .i64 0] 36 (0, 0)) by rw [HW1]; exact blk_new' (by simp) _ _)
  have F1 := Lib.hid hf1; clear hf1
  have HL := Lib.hid hL; have HTS := Lib.hid hts; have T1 := Lib.hid t1; have HFN := Lib.hid hfn; have HK5 := Lib.hid hk5; have HTL := Lib.hid htl
  clear hL t1 hfn hk5 htl hts
  have hz1 := blk_lt Q1.out
  go_enter Tryz.func30, Tryz.ntmps30
  go_upto_region 1 with fail
  rw [← HW1]; clear HW1
  go_wp2_with fail
  refine (cut_any s L W1 hs HL.out).mono ?_
  rintro e w2 ⟨A, c, rfl, hcl, hf, hr⟩
  rw [HTS.out] at hr
  rw [← HTL.out] at hcl ⊢
  have TR2 := Lib.hid hr
  have R2 := Lib.hid (blk_fr R1.out hf (non _))
  have Q2 := Lib.hid (blk_fr Q1.out hf (non _))
  have F2 := Lib.hid (F1.out.trans hf)
  have hz2 := hf.size
  clear hf hr HL HTL
  obtain ⟨W3, HW3⟩ : ∃ W3, W3 = (((w2.alloc (.cells #[.int .i64 0, .int .i64 0] 36)).alloc (.cells #[.slice A ts.length c, .int .i64 0, .int .i64 0, .int .i64 0] 115)).alloc (.cells #[.pointer (some ⟨w2.heap.size + 1, 0, none⟩), .int .i64 0] 117)).alloc (.cells #[.slice none 0 0] 24) := ⟨_, rfl⟩
  have hf : Fr Non w2 W3 := by rw [HW3]; exact ((((fr_refl w2).alloc _).alloc _).alloc _).alloc _
  have E3 := Lib.hid (show W3.heap[w2.heap.size + 1]? = some (.cells #[.slice A ts.length c, .int .i64 0, .int .i64 0, .int .i64 0] 115 (0, 0)) by rw [HW3]; exact blk_old (blk_old (blk_new' (by simp) _ _)))
  have B3 := Lib.hid (show W3.heap[w2.heap.size + 1 + 1]? = some (.cells #[.pointer (some ⟨w2.heap.size + 1, 0, none⟩), .int .i64 0] 117 (0, 0)) by rw [HW3]; exact blk_old (blk_new' (by simp) _ _))
  have S3 := Lib.hid (show W3.heap[w2.heap.size + 1 + 1 + 1]? = some (.cells #[.slice none 0 0] 24 (0, 0)) by rw [HW3]; exact blk_new' (by simp) _ _)
  have R3 := Lib.hid (blk_fr R2.out hf (non _))
  have Q3 := Lib.hid (blk_fr Q2.out hf (non _))
  have F3 := Lib.hid (F2.out.trans hf)
  have H3 := Lib.hid (show PsAt (New W1.heap.size w2) ts A c (w2.heap.size + 1) (w2.heap.size + 1 + 1) W3 0 0 from ⟨⟨E3.out, TR2.out.fr hf (fun _ _ => non _) fun _ h => h, fun q hq => by have := hq.2; omega, hlen, Nat.zero_le _⟩, B3.out, by omega, fun q hq => by have := hq.2; omega⟩)
  clear hf
  have hz3 := blk_lt S3.out
  have hi0 : 0 < ts.length := by omega
  have HOK := Lib.hid (show ∀ q, New W1.heap.size w2 q → q < w2.heap.size from fun q hq => hq.2)
  go_upto_region 6 with fail
  rw [← HW3]; clear HW3
  refine wp_loop_rounds 2 ?_
  rw [rounds_succ]
  have o1 : w2.heap.size < w2.heap.size + 1 := by omega
  have o2 : w2.heap.size + 1 < w2.heap.size + 1 + 1 := by omega
  have o3 : w2.heap.size + 1 + 1 < w2.heap.size + 1 + 1 + 1 := by omega
  generalize hq3 : w2.heap.size + 1 + 1 + 1 = q3 at *
  generalize hbp : w2.heap.size + 1 + 1 = bp at *
  generalize hbe : w2.heap.size + 1 = be at *
  clear hq3 hbp hbe
  go_wp2_with fail
  refine (pfine_any (New W1.heap.size w2) ts A c be bp W3 0 0 H3.out).mono ?_
  rintro e wq ⟨rfl, rfl⟩
  have p0 := (cells_of B3.out).1 0 _ rfl
  have hkk : ts[0].kind.toNat = 2 := by have h9 := T1.out; rw [tkK, getD_at hi0, Bool.and_eq_true, beq_iff_eq] at h9; exact h9.1
  have hk5n : (((ts[0].kind.toNat : Nat) : Int) != 5) = true := by rw [bne_iff_ne]; omega
  clear hkk
  go_wp2_with fail
  refine (look_any (New W1.heap.size w2) ts A c be W3 0 H3.out.eye hi0).mono ?_
  rintro e w4 ⟨rfl, hf⟩
  have hfk := field_kind ts[0]
  unfold Tk.v
  generalize ts[0] = t0 at *
  have H4 := Lib.hid (H3.out.stay hf)
  have S4 := Lib.hid (blk_fr S3.out hf (non _))
  have R4 := Lib.hid (blk_fr R3.out hf (non _))
  have Q4 := Lib.hid (blk_fr Q3.out hf (non _))
  have F4 := Lib.hid (F3.out.trans hf)
  have hz4 := hf.size
  clear hf p0
  have s0 := (cells_of S4.out).1 0 _ rfl
  go_wp2_with fail
  refine (eword_any (New W1.heap.size w2) ts A c be bp w4 0 0 ⟨#[102, 110]⟩ H4.out hi0).mono ?_
  rintro e w5 ⟨rfl, hf, h⟩
  rw [show tkK ts 2 ⟨#[102, 110]⟩ 0 = true from T1.out]
  rw [eyeI_t (show tkK ts 2 ⟨#[102, 110]⟩ 0 = true from T1.out)] at h
  have hps : ∀ q, q ≤ w2.heap.size → ¬ PS be bp q := fun q hq hp => by rcases hp with hp | hp <;> omega
  have hpq : ¬ PS be bp q3 := fun hp => by rcases hp with hp | hp <;> omega
  have H5 := Lib.hid h
  have S5 := Lib.hid (blk_fr S4.out hf hpq)
  have R5 := Lib.hid (blk_fr R4.out hf (hps _ (by omega)))
  have Q5 := Lib.hid (blk_fr Q4.out hf (hps _ (by omega)))
  have F5 := Lib.hid (F4.out.then hf fun k hk hp => by rcases hp with hp | hp <;> omega)
  have hz5 := hf.size
  clear hf h s0 hfk hk5n
  have s0 := (cells_of S5.out).1 0 _ rfl
  have sf := (cells_of S5.out).2
  have y5 := blk_lt S5.out
  have HCE := Lib.hid (pfunc_any (New W1.heap.size w2) ts A c be bp 100 ((pstmt_any (New W1.heap.size w2) ts A c be bp 100).2 100 (Nat.le_refl _)) w5.drew 1 0 y n' j (H5.out.stay (fr_refl w5).drew) (fun q hq => by have := HOK.out q hq; show q < w5.heap.size; omega) HFN.out)
  go_upto_region 11 with fail
  go_region_with (go_at_call 61; refine HCE.out.mono ?_; rintro e w7 ⟨A1, A2, A3, c1, c2, c3, rfl, hf6, h6, hr6⟩; have s0 := hf6.cell' s0 hpq; have sf := (cells_of (blk_fr (blk_fr S5.out (fr_refl w5).drew (non _)) hf6 hpq)).2; have hz6 : q3 < w7.heap.size := Nat.lt_of_lt_of_le y5 hf6.size)
  all_goals
    have HFX := Lib.hid (show Fr (fun q => q = q3) w7 ((((w7.setCell ⟨q3, 0, none⟩ (.slice (some ⟨w7.heap.size + 1, 0, none⟩) 1 ((Question.appendCap 1 0 44).cut (w7.tape w7.drawn (Question.appendCap 1 0 44))))).alloc (.cells #[.string y.name, .slice A1 y.params.length c1, .slice A2 y.body.length c2, .bool y.sec, .slice A3 y.ret.length c3] 44)).alloc (.cells (#[.string y.name, .slice A1 y.params.length c1, .slice A2 y.body.length c2, .bool y.sec, .slice A3 y.ret.length c3] ++ Builtin.zeroCells #[.string ⟨#[]⟩, .slice none 0 0, .slice none 0 0, .bool false, .slice none 0 0] (((Question.appendCap 1 0 44).cut (w7.tape w7.drawn (Question.appendCap 1 0 44))) - 1)) 44)).drew) from ((((Fr.refl (fun q => q = q3) w7).setCell ⟨q3, 0, none⟩ _ (.inl rfl)).alloc _).alloc _).drew)
    have HXX := Lib.hid (show ((((w7.setCell ⟨q3, 0, none⟩ (.slice (some ⟨w7.heap.size + 1, 0, none⟩) 1 ((Question.appendCap 1 0 44).cut (w7.tape w7.drawn (Question.appendCap 1 0 44))))).alloc (.cells #[.string y.name, .slice A1 y.params.length c1, .slice A2 y.body.length c2, .bool y.sec, .slice A3 y.ret.length c3] 44)).alloc (.cells (#[.string y.name, .slice A1 y.params.length c1, .slice A2 y.body.length c2, .bool y.sec, .slice A3 y.ret.length c3] ++ Builtin.zeroCells #[.string ⟨#[]⟩, .slice none 0 0, .slice none 0 0, .bool false, .slice none 0 0] (((Question.appendCap 1 0 44).cut (w7.tape w7.drawn (Question.appendCap 1 0 44))) - 1)) 44)).drew).heap[w7.heap.size + 1]? = some (.cells (#[.string y.name, .slice A1 y.params.length c1, .slice A2 y.body.length c2, .bool y.sec, .slice A3 y.ret.length c3] ++ Builtin.zeroCells #[.string ⟨#[]⟩, .slice none 0 0, .slice none 0 0, .bool false, .slice none 0 0] (((Question.appendCap 1 0 44).cut (w7.tape w7.drawn (Question.appendCap 1 0 44))) - 1)) 44 (0, 0)) from blk_new' (by simp) _ _)
    have S6 := Lib.hid (blk_fr (blk_fr S5.out (fr_refl w5).drew (non _)) hf6 hpq)
    have S8 := Lib.hid (show ((((w7.setCell ⟨q3, 0, none⟩ (.slice (some ⟨w7.heap.size + 1, 0, none⟩) 1 ((Question.appendCap 1 0 44).cut (w7.tape w7.drawn (Question.appendCap 1 0 44))))).alloc (.cells #[.string y.name, .slice A1 y.params.length c1, .slice A2 y.body.length c2, .bool y.sec, .slice A3 y.ret.length c3] 44)).alloc (.cells (#[.string y.name, .slice A1 y.params.length c1, .slice A2 y.body.length c2, .bool y.sec, .slice A3 y.ret.length c3] ++ Builtin.zeroCells #[.string ⟨#[]⟩, .slice none 0 0, .slice none 0 0, .bool false, .slice none 0 0] (((Question.appendCap 1 0 44).cut (w7.tape w7.drawn (Question.appendCap 1 0 44))) - 1)) 44)).drew).heap[q3]? = some (.cells #[.slice (some ⟨w7.heap.size + 1, 0, none⟩) 1 ((Question.appendCap 1 0 44).cut (w7.tape w7.drawn (Question.appendCap 1 0 44)))] 24 (0, 0)) from blk_old (blk_old (blk_set S6.out 0 _)))
    have hC := cap_one w7 44
    have R6 := Lib.hid (blk_fr (blk_fr R5.out (fr_refl w5).drew (non _)) hf6 (hps _ (by omega)))
    have Q6 := Lib.hid (blk_fr (blk_fr Q5.out (fr_refl w5).drew (non _)) hf6 (hps _ (by omega)))
    have H6 := Lib.hid h6
    have F6 := Lib.hid ((F5.out.trans (fr_refl w5).drew).then hf6 fun k hk hp => by rcases hp with hp | hp <;> omega)
    have X6 := Lib.hid hr6
    clear s0 sf hf6 h6 hr6
    generalize (Question.appendCap 1 0 44).cut (w7.tape w7.drawn (Question.appendCap 1 0 44)) = C at *
    generalize ((((w7.setCell ⟨q3, 0, none⟩ (.slice (some ⟨w7.heap.size + 1, 0, none⟩) 1 C)).alloc (.cells #[.string y.name, .slice A1 y.params.length c1, .slice A2 y.body.length c2, .bool y.sec, .slice A3 y.ret.length c3] 44)).alloc (.cells (#[.string y.name, .slice A1 y.params.length c1, .slice A2 y.body.length c2, .bool y.sec, .slice A3 y.ret.length c3] ++ Builtin.zeroCells #[.string ⟨#[]⟩, .slice none 0 0, .slice none 0 0, .bool false, .slice none 0 0] (C - 1)) 44)).drew) = w8 at *
    have H8 := Lib.hid (H6.out.away HFX.out (by omega) (by omega) (fun q hq e => by have e : q = q3 := e; have := HOK.out q hq; omega))
    have R8 := Lib.hid (blk_fr R6.out HFX.out (by omega))
    have Q8 := Lib.hid (blk_fr Q6.out HFX.out (by omega))
    have F8 := Lib.hid (F6.out.then HFX.out fun k hk e => by have e : k = q3 := e; omega)
    have X8 := Lib.hid (X6.out.keepS HFX.out (fun k hk => by have hk : k = q3 := hk; show k < w5.heap.size; omega) (lo0 := w.heap.size + 2) (by show w.heap.size + 2 ≤ w5.heap.size; omega))
    have hzx := blk_lt HXX.out
    have hz78 := HFX.out.size
    have P8 := Lib.hid (rd_fu1 (ok := New (w.heap.size + 2) w8) HXX.out X8.out ⟨by omega, hzx⟩)
    clear HXX
    have p0 := (cells_of H8.out.blk).1 0 _ rfl
    go_wp2_with fail
    rw [rounds_succ]
    go_wp2_with fail
    refine (pfine_any (New W1.heap.size w2) ts A c be bp w8 j n' H8.out).mono ?_
    rintro e wq ⟨rfl, rfl⟩
    go_wp2_with fail
    refine (look_any (New W1.heap.size w2) ts A c be w8 j H8.out.eye hj).mono ?_
    rintro e w9 ⟨rfl, hf⟩
    have hfk := field_kind ts[j]
    have hk5n : (((ts[j].kind.toNat : Nat) : Int) != 5) = false := by rw [bne_eq_false_iff_eq]; have := HK5.out; omega
    unfold Tk.v
    have HK5' := Lib.hid HK5.out
    generalize ts[j] = tj at *
    have H9 := Lib.hid (H8.out.stay hf)
    have S9 := Lib.hid (blk_fr S8.out hf (non _))
    have R9 := Lib.hid (blk_fr R8.out hf (non _))
    have Q9 := Lib.hid (blk_fr Q8.out hf (non _))
    have F9 := Lib.hid (F8.out.trans hf)
    have P9 := Lib.hid (rows_keep P8.out hf (fun _ h => h.elim) (Nat.le_refl _))
    clear hf p0
    go_wp2_with fail
    refine (pfine_any (New W1.heap.size w2) ts A c be bp w9 j n' H9.out).mono ?_
    rintro e wq ⟨rfl, rfl⟩
    have l0 := (cells_of S9.out).1 0 _ rfl
    have r0 := (cells_of R9.out).1 0 _ rfl
    have rf := (cells_of R9.out).2
    have q0 := (cells_of Q9.out).1 0 _ rfl
    have q1 := (cells_of Q9.out).1 1 _ rfl
    have qf := (cells_of Q9.out).2
    go_wp2_with fail
    have hfz : Fr (fun q => q = w.heap.size ∨ q = w.heap.size + 1) w9 (((w9.setCell ⟨w.heap.size, 0, none⟩ (.slice (some ⟨w7.heap.size + 1, 0, none⟩) 1 C)).setCell ⟨w.heap.size + 1, 0, none⟩ (.int .i64 0)).setCell ⟨w.heap.size + 1, 1, none⟩ (.int .i64 0)) := (((Fr.refl (fun q => q = w.heap.size ∨ q = w.heap.size + 1) w9).setCell ⟨w.heap.size, 0, none⟩ _ (.inl (.inl rfl))).setCell ⟨w.heap.size + 1, 0, none⟩ _ (.inl (.inr rfl))).setCell ⟨w.heap.size + 1, 1, none⟩ _ (.inl (.inr rfl))
    have hfa : Fr (fun q => q = w.heap.size + 1) (w9.setCell ⟨w.heap.size, 0, none⟩ (.slice (some ⟨w7.heap.size + 1, 0, none⟩) 1 C)) (((w9.setCell ⟨w.heap.size, 0, none⟩ (.slice (some ⟨w7.heap.size + 1, 0, none⟩) 1 C)).setCell ⟨w.heap.size + 1, 0, none⟩ (.int .i64 0)).setCell ⟨w.heap.size + 1, 1, none⟩ (.int .i64 0)) := ((Fr.refl (fun q => q = w.heap.size + 1) _).setCell ⟨w.heap.size + 1, 0, none⟩ _ (.inl rfl)).setCell ⟨w.heap.size + 1, 1, none⟩ _ (.inl rfl)
    have hrz : (((w9.setCell ⟨w.heap.size, 0, none⟩ (.slice (some ⟨w7.heap.size + 1, 0, none⟩) 1 C)).setCell ⟨w.heap.size + 1, 0, none⟩ (.int .i64 0)).setCell ⟨w.heap.size + 1, 1, none⟩ (.int .i64 0)).heap[w.heap.size]? = some (.cells #[.slice (some ⟨w7.heap.size + 1, 0, none⟩) 1 C] 24 (0, 0)) := blk_fr (blk_set R9.out 0 (.slice (some ⟨w7.heap.size + 1, 0, none⟩) 1 C)) hfa (by omega)
    have hqa : (w9.setCell ⟨w.heap.size, 0, none⟩ (.slice (some ⟨w7.heap.size + 1, 0, none⟩) 1 C)).heap[w.heap.size + 1]? = some (.cells #[.int .i64 0, .int .i64 0] 36 (0, 0)) := blk_fr Q9.out ((Fr.refl (fun q => q = w.heap.size) w9).setCell ⟨w.heap.size, 0, none⟩ _ (.inl rfl)) (by omega)
    have hqz : (((w9.setCell ⟨w.heap.size, 0, none⟩ (.slice (some ⟨w7.heap.size + 1, 0, none⟩) 1 C)).setCell ⟨w.heap.size + 1, 0, none⟩ (.int .i64 0)).setCell ⟨w.heap.size + 1, 1, none⟩ (.int .i64 0)).heap[w.heap.size + 1]? = some (.cells #[.int .i64 0, .int .i64 0] 36 (0, 0)) := blk_set (blk_set hqa 0 _) 1 _
    have HFZ := Lib.hid hfz
    clear l0 r0 rf q0 q1 qf hfa hqa hfz
    generalize (((w9.setCell ⟨w.heap.size, 0, none⟩ (.slice (some ⟨w7.heap.size + 1, 0, none⟩) 1 C)).setCell ⟨w.heap.size + 1, 0, none⟩ (.int .i64 0)).setCell ⟨w.heap.size + 1, 1, none⟩ (.int .i64 0)) = wz at *
    have r0 := (cells_of hrz).1 0 _ rfl
    have q0 := (cells_of hqz).1 0 _ rfl
    have q1 := (cells_of hqz).1 1 _ rfl
    clear hrz hqz
    refine bodyPost_ret (v := .tuple #[.agg #[.slice (some ⟨w7.heap.size + 1, 0, none⟩) 1 C], .agg #[.int .i64 0, .int .i64 0]]) (by simp [results, Tryz.results30, go_sem, r0, q0, q1]) rfl ⟨_, _, rfl, hC, F9.out.then HFZ.out fun k hk e => by rcases e with e | e <;> omega, ?_⟩
    exact P9.out.fr HFZ.out (fun q hq e => by have := hq.1; rcases e with e | e <;> omega) fun k hk => ⟨by have := hk.1; omega, Nat.lt_of_lt_of_le hk.2 HFZ.out.size⟩

set_option maxRecDepth 100000 in
set_option maxHeartbeats 4000000 in
theorem parsed_any (s : ByteArray) (x : Fu) (w : World) (hx : parseP s = some x) :
   Calls Tryz.prog 15 #[.string s] w fun e w' => ∃ A c, e = .returned (.agg #[.slice A 1 c]) ∧ 1 ≤ c ∧ Fr Non w w' ∧ RdRows (New w.heap.size w') w' 5 A 0 ([x].map Fu.d) := by
  obtain ⟨W1, HW1⟩ : ∃ W1, W1 = w.alloc (.cells #[.slice none 0 0] 24) := ⟨_, rfl⟩
  have hf1 : Fr Non w W1 := by rw [HW1]; exact (fr_refl w).alloc _
  have R1 := Lib.hid (show W1.heap[w.heap.size]? = some (.cells #[.slice none 0 0] 24 (0, 0)) by rw [HW1]; exact blk_new _ _ _)
  have F1 := Lib.hid hf1; clear hf1
  have hz1 := blk_lt R1.out
  go_enter Tryz.func15, Tryz.ntmps15
  go_upto_region 1 with fail
  rw [← HW1]; clear HW1
  go_wp2_with fail
  refine (parse_any s x W1 hx).mono ?_
  rintro e w2 ⟨A, c, rfl, hc, hf, hr⟩
  have R2 := Lib.hid (blk_fr R1.out hf (non _))
  have F2 := Lib.hid (F1.out.trans hf)
  have X2 := Lib.hid hr
  have hz2 := hf.size
  clear hf hr
  have r0 := (cells_of R2.out).1 0 _ rfl
  have rf := (cells_of R2.out).2
  have hlt : w.heap.size < w2.heap.size := blk_lt R2.out
  go_wp2_with fail
  have hfz : Fr (fun q => q = w.heap.size) w2 (((w2.setCell ⟨w.heap.size, 0, none⟩ (.slice A 1 c)).alloc (.cells #[.slice A 1 c] 24)).alloc (.cells #[.int .i64 0, .int .i64 0] 36)) := (((Fr.refl (fun q => q = w.heap.size) w2).setCell ⟨w.heap.size, 0, none⟩ _ (.inl rfl)).alloc _).alloc _
  have hrz : (((w2.setCell ⟨w.heap.size, 0, none⟩ (.slice A 1 c)).alloc (.cells #[.slice A 1 c] 24)).alloc (.cells #[.int .i64 0, .int .i64 0] 36)).heap[w.heap.size]? = some (.cells #[.slice A 1 c] 24 (0, 0)) := blk_old (blk_old (blk_set R2.out 0 _))
  have HFZ := Lib.hid hfz
  clear r0 rf hfz
  generalize (((w2.setCell ⟨w.heap.size, 0, none⟩ (.slice A 1 c)).alloc (.cells #[.slice A 1 c] 24)).alloc (.cells #[.int .i64 0, .int .i64 0] 36)) = wz at *
  have r0 := (cells_of hrz).1 0 _ rfl
  clear hrz
  refine bodyPost_ret (v := .agg #[.slice A 1 c]) (by simp [results, Tryz.results15, go_sem, r0]) rfl ⟨_, _, rfl, hc, F2.out.then HFZ.out fun k hk e => by have e : k = w.heap.size := e; omega, ?_⟩
  exact X2.out.fr HFZ.out (fun q hq e => by have := hq.1; have e : q = w.heap.size := e; omega) fun k hk => ⟨by have := hk.1; omega, Nat.lt_of_lt_of_le hk.2 HFZ.out.size⟩
end Go.Proofs.YtnlnejpioijkiaaGreatDoor
/- The program's walker of scope: a function. -/
namespace Go.Proofs.YtnlnejpioijkiaaGreatDoor
open Go.RowKit
set_option linter.unusedVariables false
set_option linter.unusedSimpArgs false

theorem scall (base b bk bg : Nat) (ok : Nat → Prop) (PA : Option Addr) (pc : Nat) (P : List Fu) (F : Nat) : ∀ N, StC base b bk bg ok PA pc P F N ∧ BlC base b bk bg ok PA pc P F N
  | 0 => by
    have h0 : StC base b bk bg ok PA pc P F 0 := by
      intro s d A1 A2 A3 A4 c1 c2 c3 c4 w a hN
      exfalso
      have := St.size_eq s
      omega
    exact ⟨h0, scblock_of base b bk bg ok PA pc P F 0 h0⟩
  | N + 1 => by
    have h1 := scstmt_of base b bk bg ok PA pc P F N (scall base b bk bg ok PA pc P F N).2
    exact ⟨h1, scblock_of base b bk bg ok PA pc P F (N + 1) h1⟩
theorem scParams_snoc (x : Pa) : ∀ (l : List Pa) (a : Sc), scParams (l ++ [x]) a = match scParams l a with
    | .error y => .error y
    | .ok a1 => a1.give x.name
  | [], a => by simp only [List.nil_append, scParams]; cases a.give x.name <;> rfl
  | y :: l, a => by
    simp only [List.cons_append, scParams]
    cases a.give y.name with
    | error z => rfl
    | ok a1 => exact scParams_snoc x l a1
theorem scParams_err (r : List Pa) (z : Int × Int) : ∀ (l : List Pa) (a : Sc), scParams l a = .error z → scParams (l ++ r) a = .error z
  | [], a, h => by cases h
  | y :: l, a, h => by
    simp only [List.cons_append, scParams] at h ⊢
    cases hg : a.give y.name with
    | error z => rw [hg] at h; exact h
    | ok a1 => rw [hg] at h; exact scParams_err r z l a1 h
theorem give_n {a a1 : Sc} {nm : ByteArray} (h : a.give nm = .ok a1) : a1.n = a.n := by
  unfold Sc.give at h
  split at h
  · cases h
  · cases h; rfl
theorem scParams_n : ∀ (l : List Pa) (a a1 : Sc), scParams l a = .ok a1 → a1.n = a.n
  | [], a, a1, h => by cases h; rfl
  | y :: l, a, a1, h => by
    simp only [scParams] at h
    cases hg : a.give y.name with
    | error z => rw [hg] at h; cases h
    | ok a2 => rw [hg] at h; exact (scParams_n l a2 a1 h).trans (give_n hg)
def FnR (b : Nat) (PV : Value) (w : World) (r : Except (Int × Int) Int) (e : Ending) (w' : World) : Prop := match r with
  | .error x => e = .panicked [{ v := faultV x.1 x.2, recovered := false }] ∧ Fr (fun k => k = b) w w'
  | .ok n => e = .returned (.tuple #[]) ∧ Fr (fun k => k = b) w w' ∧ ∃ v2 v3, w'.heap[b]? = some (.cells #[PV, .int .i64 n, v2, v3] 61 (0, 0))

set_option maxRecDepth 100000 in
set_option maxHeartbeats 4000000 in
theorem scfun_any (base b : Nat) (ok : Nat → Prop) (PA : Option Addr) (pc : Nat) (P : List Fu) (F : Nat) (hF : F < P.length) (w : World) (n : Int) (v2 v3 : Value) (hb : w.heap[b]? = some (.cells #[.slice PA P.length pc, .int .i64 n, v2, v3] 61 (0, 0)))
   (hbase : base ≤ b) (hP : ScP base ok PA pc P F w) (hok : okF P[F] = true) (hn0 : 0 ≤ n) (hn1 : n + St.sizes P[F].body ≤ 1099511627000) :
   Calls Tryz.prog 20 #[.pointer (some ⟨b, 0, none⟩), .int .i64 F] w (FnR b (.slice PA P.length pc) w (scFun P F P[F] n)) := by
  obtain ⟨g, o, A1, c1, A2, c2, A3, c3, hpa, hd, e0, e1, e2, e3, e4, r1, r2, r3⟩ := at_fu hP.rows F hF
  have R1 := Lib.hid r1; clear r1
  have R2 := Lib.hid r2; clear r2
  have R3 := Lib.hid r3; clear r3
  subst hpa
  have hPl : P.length ≤ 140737488355328 := by have := hP.hc; unfold reach at this; omega
  have hpc := hP.hpc
  have b0 := (cells_of hb).1 0 _ rfl
  have hblt := blk_lt hb
  have HP := Lib.hid hP; clear hP
  have HB := Lib.hid hb; clear hb
  generalize hf : P[F] = f at *
  have HFE := Lib.hid hf; clear hf
  have HOKF := Lib.hid hok; clear hok
  obtain ⟨W0, HW0⟩ : ∃ W0, W0 = w.alloc (.cells #[.string f.name, .slice A1 f.params.length c1, .slice A2 f.body.length c2, .bool f.sec, .slice A3 f.ret.length c3] 44) := ⟨_, rfl⟩
  have hf0 : Fr Non w W0 := by rw [HW0]; exact (fr_refl w).alloc _
  have hbx : W0.heap[w.heap.size]? = some (.cells #[.string f.name, .slice A1 f.params.length c1, .slice A2 f.body.length c2, .bool f.sec, .slice A3 f.ret.length c3] 44 (0, 0)) := by rw [HW0]; exact blk_new _ _ _
  have g0 := (cells_of hbx).1 0 _ rfl
  have hPr := HP.out.fr hf0 (fun _ _ => non _)
  have HC := Lib.hid (named_ahead_any P F w.heap.size (by omega) ok _ pc f.name W0 hPr.rows hPr.hc g0)
  have HBX := Lib.hid hbx; clear hbx hPr
  have HF0 := Lib.hid hf0
  have b00 := hf0.cell' b0 (non _)
  clear hf0 g0
  have hmf : ∀ (fn : Fn) (first cap : Array Value) (w : World), (Instr.makeFunc fn first cap).run Tryz.prog w = .ok (.func fn first cap) w := fun _ _ _ _ => rfl
  have hmm := @run_makeMap Tryz.prog
  go_enter Tryz.func20, Tryz.ntmps20
  go_wp2_with fail
  rw [← HW0]; clear HW0
  refine HC.out.mono ?_
  rintro e w1 ⟨rfl, hf1⟩
  have HF1 := Lib.hid (HF0.out.trans hf1)
  have hb1 := blk_fr HB.out HF1.out (non _)
  have hbx1 := blk_fr HBX.out hf1 (non _)
  have g1 := (cells_of hbx1).1 1 _ rfl
  have p1 := (cells_of hb1).1 1 _ rfl
  have p2 := (cells_of hb1).1 2 _ rfl
  have p3 := (cells_of hb1).1 3 _ rfl
  have pf := (cells_of hb1).2
  have hb1lt := blk_lt hb1
  have hx1lt := blk_lt hbx1
  have HB1 := Lib.hid hb1; clear hb1
  have HBX1 := Lib.hid hbx1; clear hbx1 hf1
  generalize hq : ((P.take F).any fun g => sq g.name f.name) = q
  have HQ := Lib.hid hq; clear hq
  cases q with
  | true =>
    go_wp2_with fail
    refine (scbad_any base b (.slice (some ⟨g, o, none⟩) P.length pc) w1 ⟨[], [], n⟩ 0 0 9 p1).mono ?_
    rintro e w' ⟨rfl, rfl⟩
    unfold Sc.err faultP
    go_wp2_with fail
    refine ⟨rfl, ?_⟩
    unfold scFun
    rw [HQ.out, if_pos rfl]
    exact ⟨rfl, HF1.out.non⟩
  | false =>
    go_upto_region 4 with fail
    obtain ⟨W2, HW2⟩ : ∃ W2, W2 = (((w1.setCell ⟨b, 2, none⟩ (.map (some w1.heap.size))).setCell ⟨b, 3, none⟩ (.map (some (w1.heap.size + 1)))).alloc (.map #[] 0)).alloc (.map #[] 0) := ⟨_, rfl⟩
    rw [← HW2]
    have hf2a : Fr (fun k => k = b) w1 ((w1.setCell ⟨b, 2, none⟩ (.map (some w1.heap.size))).setCell ⟨b, 3, none⟩ (.map (some (w1.heap.size + 1)))) := ((Fr.refl (fun k => k = b) w1).setCell _ _ (.inl rfl)).setCell _ _ (.inl rfl)
    have hf2 : Fr (fun k => k = b) w1 W2 := by rw [HW2]; exact (hf2a.alloc _).alloc _
    obtain ⟨bk, hbk⟩ : ∃ bk, bk = w1.heap.size := ⟨_, rfl⟩
    have h2 : ScAt base b (.slice (some ⟨g, o, none⟩) P.length pc) W2 ⟨[], [], n⟩ bk (bk + 1) := by
      have hm1 := MapS.new ((w1.setCell ⟨b, 2, none⟩ (.map (some w1.heap.size))).setCell ⟨b, 3, none⟩ (.map (some (w1.heap.size + 1))))
      have hm2 := MapS.new (((w1.setCell ⟨b, 2, none⟩ (.map (some w1.heap.size))).setCell ⟨b, 3, none⟩ (.map (some (w1.heap.size + 1)))).alloc (.map #[] 0))
      have hm1' := hm1.fr ((fr_refl _).alloc (.map #[] 0)) (non _)
      rw [← HW2] at hm1' hm2
      have e1 : ((w1.setCell ⟨b, 2, none⟩ (.map (some w1.heap.size))).setCell ⟨b, 3, none⟩ (.map (some (w1.heap.size + 1)))).heap.size = bk := by rw [hbk]; simp
      have e2 : (((w1.setCell ⟨b, 2, none⟩ (.map (some w1.heap.size))).setCell ⟨b, 3, none⟩ (.map (some (w1.heap.size + 1)))).alloc (.map #[] 0)).heap.size = bk + 1 := by rw [hbk]; simp
      rw [e1] at hm1'
      rw [e2] at hm2
      refine ⟨?_, hm1', hm2, by omega, hbase, by omega, by omega⟩
      rw [HW2, hbk]
      exact blk_fr (blk_set (blk_set HB1.out 2 _) 3 _) (((fr_refl _).alloc _).alloc _) (non _)
    have hsz12 := hf2.size
    have hs1 : ∀ q, q < w.heap.size → SS b bk (bk + 1) q → q = b := fun q hq h => by
      rcases h with h | h | h
      · exact h
      · omega
      · omega
    have hxs : ¬ SS b bk (bk + 1) w.heap.size := fun h => by
      rcases h with h | h | h <;> omega
    have hoks : ∀ q, ok q → ¬ SS b bk (bk + 1) q := fun q hq h => by
      have h1 := HP.out.hok q hq
      rcases h with h | h | h <;> omega
    have HFW := Lib.hid (HF1.out.non.trans (hf2.mono fun _ _ h => .inl h) : Fr (SS b bk (bk + 1)) w W2)
    have hbx2 := blk_fr HBX1.out hf2 (by omega)
    have HBX2 := Lib.hid hbx2; clear hbx2
    have H2 := Lib.hid h2; clear h2
    have HS1 := Lib.hid hs1; clear hs1
    have HXS := Lib.hid hxs; clear hxs
    have HOKS := Lib.hid hoks; clear hoks
    have HBK := Lib.hid hbk
    clear hf2a hf2 HW2 p1 p2 p3 pf g1 b00 b0 e0 e1 e2 e3 e4 hmm
    have g1 := (cells_of HBX2.out).1 1 _ rfl
    have hpl : f.params.length ≤ 140737488355328 := by have := R1.out.2.1; unfold reach at this; omega
    have hbl : f.body.length ≤ 140737488355328 := by have := R2.out.2.1; unfold reach at this; omega
    go_upto_region 5 with fail
    go_loopw [39] (fun i wr => ∃ k : Nat, ∃ ak, i = .int .i64 k ∧ k ≤ f.params.length ∧ scParams (f.params.take k) ⟨[], [], n⟩ = .ok ak ∧ Fr (SS b bk (bk + 1)) W2 wr ∧ ScAt base b (.slice (some ⟨g, o, none⟩) P.length pc) wr ak bk (bk + 1)) (fun i _ => f.params.length - (intOf i).toNat)
    case atStart => exact ⟨0, ⟨[], [], n⟩, rfl, by omega, rfl, Fr.refl _ _, H2.out⟩
    case round =>
      obtain ⟨k, ak, rfl, hk, hsc, hfr, hs⟩ := hrel
      have HSC := Lib.hid hsc; clear hsc
      have HFR := Lib.hid hfr; clear hfr
      have HS := Lib.hid hs; clear hs
      by_cases hlt : k < f.params.length
      · obtain ⟨pg, po, hA1, hd1, q0, q1, q2, q3⟩ := at_pa (R1.out.2.2.fr (HFW.out.trans HFR.out) HOKS.out fun _ h => h) k hlt
        subst hA1
        generalize hx : f.params[k] = x at *
        have HX := Lib.hid hx; clear hx
        have hwz := (fr_refl wr).alloc (.cells #[.string x.name, .bool x.buf, .bool x.sec, .bool x.mt] 50)
        have HS0 := Lib.hid (HS.out.stay hwz); clear hwz
        go_wp2_with fail
        refine (scgive_any base b _ _ ak bk (bk + 1) x.name HS0.out).mono ?_
        intro e w3 hgr
        unfold GiveR at hgr
        cases hgv : ak.give x.name with
        | error y =>
          rw [hgv] at hgr
          obtain ⟨rfl, hf3⟩ := hgr
          have herr : scParams f.params ⟨[], [], n⟩ = .error y := by
            have h1 : scParams (f.params.take (k + 1)) ⟨[], [], n⟩ = .error y := by
              rw [take_snoc _ k hlt, HX.out, scParams_snoc, HSC.out]; simp only; rw [hgv]
            have h2 := scParams_err (f.params.drop (k + 1)) y _ _ h1
            rwa [List.take_append_drop] at h2
          have HE := Lib.hid herr; clear herr hgv
          have HF3 := Lib.hid ((HFW.out.trans HFR.out).trans (box_fr hf3).non); clear hf3
          unfold faultP
          go_wp2_with fail
          refine ⟨rfl, ?_⟩
          unfold scFun
          rw [HQ.out, if_neg (by decide), HE.out]
          exact ⟨rfl, HF3.out.mono fun q hq h => HS1.out q hq h⟩
        | ok a1 =>
          rw [hgv] at hgr
          obtain ⟨v, pw, ps, rfl, haw, hp1, hp2, hf3, h3⟩ := hgr
          have hok1 : scParams (f.params.take (k + 1)) ⟨[], [], n⟩ = .ok a1 := by
            rw [take_snoc _ k hlt, HX.out, scParams_snoc, HSC.out]; simp only; rw [hgv]
          have HO := Lib.hid hok1; clear hok1 hgv haw
          have HF3 := Lib.hid (HFR.out.trans (box_fr hf3)); clear hf3
          have H3 := Lib.hid h3; clear h3
          go_wp2_with fail
          go_roundw
          case rel => exact ⟨k + 1, a1, by go_num, by omega, HO.out, HF3.out, H3.out⟩
          case measure => simp [intOf]; omega
      · obtain rfl : k = f.params.length := by omega
        have hsc2 : scParams f.params ⟨[], [], n⟩ = .ok ak := by have := HSC.out; rwa [List.take_length] at this
        have han := scParams_n _ _ _ hsc2
        have HPA := Lib.hid hsc2; clear hsc2
        have han1 : 0 ≤ ak.n := by rw [han]; exact hn0
        have han2 : ak.n + St.sizes f.body ≤ 1099511627000 := by rw [han]; exact hn1
        have HAN := Lib.hid han; clear han
        have HBX3 := Lib.hid (blk_fr HBX2.out HFR.out HXS.out)
        clear g1
        have g2 := (cells_of HBX3.out).1 2 _ rfl
        have HFW3 := Lib.hid (HFW.out.trans HFR.out)
        obtain ⟨wp, rfl⟩ : ∃ wp : World, wp = wr := ⟨_, rfl⟩
        go_upto_region 10 with fail
        go_loopw [51] (fun i wz => ∃ j : Nat, ∃ aj awj, i = .int .i64 j ∧ j ≤ f.body.length ∧ scStmts P F (f.body.take j) ak [] = .ok (aj, awj) ∧ Fr (SS b bk (bk + 1)) wp wz ∧ ScAt base b (.slice (some ⟨g, o, none⟩) P.length pc) wz aj bk (bk + 1)) (fun i _ => f.body.length - (intOf i).toNat)
        case atStart => exact ⟨0, ak, [], rfl, by omega, rfl, Fr.refl _ _, HS.out⟩
        case round =>
          obtain ⟨j, aj, awj, rfl, hj, hsc, hfr, hs⟩ := hrel
          have HSC := Lib.hid hsc
          have hnk := scStmts_n P F _ ak aj [] awj hsc
          clear hsc
          have hsz1 := sizes_take_le f.body j
          have b1 := (cells_of hs.blk).1 1 _ rfl
          have bf := (cells_of hs.blk).2
          have hblt3 := blk_lt hs.blk
          have HFR := Lib.hid hfr; clear hfr
          have HS := Lib.hid hs; clear hs
          have HRR := Lib.hid (R2.out.2.2.fr (HFW3.out.trans HFR.out) HOKS.out (fun _ h => h))
          have HBX4 := Lib.hid (blk_fr HBX3.out HFR.out HXS.out)
          by_cases hlt : j < f.body.length
          · obtain ⟨bg, bo, B1, d1, B2, d2, B3, d3, B4, d4, hA2, hd, e0, e1, e2, e3, e4, e5, e6, e7, e8, r1, r2, r3, r4⟩ := at_st HRR.out j hlt
            have HSR := Lib.hid (⟨r1, r2, r3, r4⟩ : StRd ok _ f.body[j] B1 B2 B3 B4 d1 d2 d3 d4)
            clear r1 r2 r3 r4
            have hsz2 := sizes_take f.body j hlt
            have hsz3 := sizes_take_le f.body (j + 1)
            have hbn : aj.n ≤ 1099511627776 := by omega
            have hbn0 : 0 ≤ aj.n := by omega
            subst hA2
            generalize hx : f.body[j] = x at *
            have hxok : St.ok x 1 = true := by
              have hbo := HOKF.out
              simp only [okF, Bool.and_eq_true] at hbo
              rw [← hx]; exact oks_at hbo.1 j hlt
            have HX := Lib.hid hx; clear hx
            have HXOK := Lib.hid hxok; clear hxok
            have HW3 := Lib.hid (fun o : Obj => (((Fr.refl (SS b bk (bk + 1)) wr).setCell ⟨b, 1, none⟩ (.int .i64 (aj.n + 1)) (.inl (.inl rfl))).alloc o))
            go_wp2_with fail
            refine ((scall base b bk (bk + 1) ok (some ⟨g, o, none⟩) pc P F x.size).1 x 1 B1 B2 B3 B4 d1 d2 d3 d4 _ ⟨aj.kn, aj.gi, aj.n + 1⟩ (Nat.le_refl _) HXOK.out (HSR.out.fr (HW3.out _) HOKS.out) (by simp only; omega) (by simp only; omega) ((HS.out.setn (aj.n + 1)).stay ((fr_refl _).alloc _)) (HP.out.fr ((HFW3.out.trans HFR.out).trans (HW3.out _)) HOKS.out)).mono ?_
            intro e w3 hst
            cases hsx : scStmt P F x ⟨aj.kn, aj.gi, aj.n + 1⟩ with
            | error y =>
              rw [hsx] at hst
              obtain ⟨rfl, hf3⟩ := hst
              have herr : scStmts P F f.body ak [] = .error y := by
                have h1 : scStmts P F (f.body.take (j + 1)) ak [] = .error y := by
                  rw [take_snoc _ j hlt, HX.out, scStmts_snoc, HSC.out]; simp only; rw [hsx]
                have h2 := scStmts_err P F (f.body.drop (j + 1)) _ _ _ _ h1
                rwa [List.take_append_drop] at h2
              have HE := Lib.hid herr; clear herr hsx
              have HF3 := Lib.hid (((HFW3.out.trans HFR.out).trans (HW3.out _)).trans hf3); clear hf3
              go_wp2_with fail
              refine ⟨rfl, ?_⟩
              unfold scFun
              rw [HQ.out, if_neg (by decide), HPA.out]
              simp only
              rw [HE.out]
              exact ⟨rfl, HF3.out.mono fun q hq h => HS1.out q hq h⟩
            | ok p =>
              obtain ⟨a2, aw2⟩ := p
              rw [hsx] at hst
              obtain ⟨v2, rfl, haw2, hf3, h3⟩ := hst
              have hok1 : scStmts P F (f.body.take (j + 1)) ak [] = .ok (a2, awj ++ aw2) := by
                rw [take_snoc _ j hlt, HX.out, scStmts_snoc, HSC.out]; simp only; rw [hsx]
              have HO := Lib.hid hok1; clear hok1 hsx haw2
              have HF3 := Lib.hid ((HFR.out.trans (HW3.out _)).trans hf3); clear hf3
              have H3 := Lib.hid h3; clear h3
              go_wp2_with fail
              go_roundw
              case rel => exact ⟨j + 1, a2, awj ++ aw2, by go_num, by omega, HO.out, HF3.out, H3.out⟩
              case measure => simp [intOf]; omega
          · obtain rfl : j = f.body.length := by omega
            rw [List.take_length] at hnk hsz1
            have hsc2 : scStmts P F f.body ak [] = .ok (aj, awj) := by have := HSC.out; rwa [List.take_length] at this
            have HBD := Lib.hid hsc2; clear hsc2
            have g4 := (cells_of HBX4.out).1 4 _ rfl
            have hbn : aj.n ≤ 1099511627776 := by omega
            have hbn0 : 0 ≤ aj.n := by omega
            have HW3 := Lib.hid ((Fr.refl (SS b bk (bk + 1)) wr).setCell ⟨b, 1, none⟩ (.int .i64 (aj.n + 1)) (.inl (.inl rfl)))
            have hxb : w.heap.size ≠ b := by omega
            go_wp2_with fail
            refine (scexprs_any (Ex.sizes f.ret + 1) f.ret ok A3 c3 base b _ _ ⟨aj.kn, aj.gi, aj.n + 1⟩ bk (bk + 1) (by omega) (R3.out.2.2.fr ((HFW3.out.trans HFR.out).trans HW3.out) HOKS.out fun _ h => h) R3.out.2.1 (HS.out.setn (aj.n + 1))).mono ?_
            rintro e w4 ⟨he1, hf4⟩
            have HF4 := Lib.hid (((HFW3.out.trans HFR.out).trans HW3.out).trans hf4.non)
            have h4 := (HS.out.setn (aj.n + 1)).stay hf4
            clear hf4
            cases hx1 : Ex.askss (inM aj.kn) f.ret with
            | false =>
              rw [hx1] at he1; obtain rfl := he1.f; clear he1
              have HXR := Lib.hid hx1; clear hx1 h4
              go_wp2_with fail
              refine ⟨rfl, ?_⟩
              unfold scFun
              rw [HQ.out, if_neg (by decide), HPA.out]
              simp only
              rw [HBD.out]
              simp only
              rw [HXR.out]
              exact ⟨rfl, HF4.out.mono fun q hq h => HS1.out q hq h⟩
            | true =>
              rw [hx1] at he1; obtain rfl := he1.t; clear he1
              have HXR := Lib.hid hx1; clear hx1
              have k1 := (cells_of h4.blk).1 1 _ rfl
              have kf := (cells_of h4.blk).2
              have HBF := Lib.hid h4.blk
              have hblt4 := blk_lt h4.blk
              clear h4 b1 bf
              go_wp2_with fail
              go_end0
              unfold scFun
              rw [HQ.out, if_neg (by decide), HPA.out]
              simp only
              rw [HBD.out]
              simp only
              rw [HXR.out, if_pos rfl]
              exact ⟨rfl, (HF4.out.mono fun q hq h => HS1.out q hq h).setCell _ _ (.inl rfl), _, _, blk_set HBF.out 1 _⟩
end Go.Proofs.YtnlnejpioijkiaaGreatDoor
/- Contracts of the program's small functions on texts: letters, words, names. -/
namespace Go.Proofs.YtnlnejpioijkiaaGreatDoor
open Go.RowKit
set_option linter.unusedVariables false
set_option linter.unusedSimpArgs false

theorem pletter_any (c : UInt8) (w : World) : Calls Tryz.prog 101 #[vu8 c] w fun e w' => e = .returned (.bool (letterM c)) ∧ w = w' := by
  have hc := c.toNat_lt
  go_enter Tryz.func101, Tryz.ntmps101
  go_wp2_with fail
  all_goals
    go_ret
    refine ⟨ret_bool ?_, rfl⟩
    rw [Bool.eq_iff_iff]; simp [letterM]; try omega
theorem pdigit_any (c : UInt8) (w : World) : Calls Tryz.prog 102 #[vu8 c] w fun e w' => e = .returned (.bool (digitM c)) ∧ w = w' := by
  have hc := c.toNat_lt
  go_enter Tryz.func102, Tryz.ntmps102
  go_wp2_with fail
  all_goals
    go_ret
    refine ⟨ret_bool ?_, rfl⟩
    rw [Bool.eq_iff_iff]; simp [digitM]; try omega
theorem ppart_any (c : UInt8) (w : World) : Calls Tryz.prog 100 #[vu8 c] w fun e w' => e = .returned (.bool (partM c)) ∧ w = w' := by
  cases hl : letterM c with
  | true =>
    go_enter Tryz.func100, Tryz.ntmps100
    go_wp2_with fail
    refine (pletter_any _ _).mono ?_
    rintro e w1 ⟨rfl, rfl⟩
    go_wp2_with fail
    go_ret
    exact ⟨ret_bool (by simp [partM, hl]), rfl⟩
  | false =>
    go_enter Tryz.func100, Tryz.ntmps100
    go_wp2_with fail
    refine (pletter_any _ _).mono ?_
    rintro e w1 ⟨rfl, rfl⟩
    go_wp2_with fail
    refine (pdigit_any _ _).mono ?_
    rintro e w1 ⟨rfl, rfl⟩
    go_wp2_with fail
    go_ret
    exact ⟨ret_bool (by simp [partM, hl]), rfl⟩
theorem word_list (s : ByteArray) : wordM s = ((s.toList == [108, 101, 116]) || (s.toList == [115, 101, 99, 114, 101, 116]) || (s.toList == [98, 117, 102]) || (s.toList == [105, 102]) || (s.toList == [101, 108, 115, 101]) || (s.toList == [119, 104, 105, 108, 101]) || (s.toList == [102, 111, 114]) || (s.toList == [118, 105, 101, 119]) || (s.toList == [101, 100, 105, 116]) || (s.toList == [109, 111, 118, 101]) || (s.toList == [111, 112, 101, 110]) || (s.toList == [99, 97, 108, 108]) || (s.toList == [115, 101, 97, 108]) || (s.toList == [102, 110]) || (s.toList == [114, 101, 116, 117, 114, 110]) || (s.toList == [110, 117, 109])) := by
  have key : ∀ x : ByteArray, sq x s = (s.toList == x.data.toList) := fun x => by
    rw [sq, ByteArray.toList_eq, Bool.eq_iff_iff, beq_iff_eq, beq_iff_eq, eq_comm]
  simp only [wordM, inM, wordsM, List.any_cons, List.any_nil, key, Bool.or_false, Bool.or_assoc]
set_option maxRecDepth 100000 in
theorem pword_any (s : ByteArray) (w : World) : Calls Tryz.prog 103 #[.string s] w fun e w' => e = .returned (.bool (wordM s)) ∧ w = w' := by
  go_enter Tryz.func103, Tryz.ntmps103
  go_wp2_with fail
  all_goals
    go_ret
    refine ⟨ret_bool ?_, rfl⟩
    rw [word_list]
    simp_all
/-- The longest beginning whose bytes are such. -/
def spanN (p : UInt8 → Bool) (l : List UInt8) : Nat := (l.takeWhile p).length
theorem spanN_at {p : UInt8 → Bool} {l : List UInt8} (k : Nat) (hk : k ≤ l.length) (h : ∀ j, j < k → ∀ hj : j < l.length, p l[j] = true) (he : k = l.length ∨ ∃ hk' : k < l.length, p l[k] = false) : spanN p l = k := by
  induction l generalizing k with
  | nil => simp at hk; subst hk; rfl
  | cons x l ih =>
    cases k with
    | zero =>
      rcases he with he | ⟨_, he⟩
      · simp at he
      · simp at he; simp [spanN, he]
    | succ k =>
      have h0 := h 0 (by omega) (by simp)
      simp at h0
      have := ih k (by simpa using hk) (fun j hj hj' => by have := h (j + 1) (by omega) (by simpa using hj'); simpa using this) (by
        rcases he with he | ⟨h1, he⟩
        · exact .inl (by simpa using he)
        · exact .inr ⟨by simpa using h1, by simpa using he⟩)
      simp only [spanN] at this ⊢
      rw [List.takeWhile_cons_of_pos h0, List.length_cons, this]
set_option maxRecDepth 100000 in
set_option maxHeartbeats 1000000 in
theorem ppiece_any (s : ByteArray) (hs : s.size ≤ 140737488355328) (w : World) : Calls Tryz.prog 104 #[.string s, .func (.func 100) #[] #[]] w fun e w' => e = .returned (.string (s.extract 0 (spanN partM s.data.toList))) ∧ w = w' := by
  go_enter Tryz.func104, Tryz.ntmps104
  go_wp2_with fail
  go_loop [5] (fun i => ∃ k : Nat, i = .int .i64 k ∧ k ≤ s.size ∧ ∀ j, j < k → ∀ hj : j < s.data.toList.length, partM s.data.toList[j] = true) (fun i => s.size - (intOf i).toNat)
  case atStart => exact ⟨0, rfl, by omega, fun j hj => by omega⟩
  case round =>
    obtain ⟨k, rfl, hk, hno⟩ := hrel
    have HN := Lib.hid hno; clear hno
    by_cases hlt : k < s.size
    · have hlt' : k < s.data.size := hlt
      have hsk : s.data.toList[k]'(by simpa using hlt') = s[k] := rfl
      have HS := Lib.hid hsk; clear hsk
      have hdk : decide ((k : Int) < (s.size : Int)) = true := by simp; omega
      go_wp2_with fail
      refine (ppart_any _ _).mono ?_
      rintro e w1 ⟨rfl, rfl⟩
      cases hp : partM s[k] with
      | true =>
        have HP := Lib.hid hp; clear hp
        go_wp2_with fail
        go_round
        case rel => exact ⟨k + 1, by go_num, by omega, till HN.out fun _ => by rw [HS.out]; exact HP.out⟩
        case measure => simp [intOf]; omega
      | false =>
        have HP := Lib.hid hp; clear hp
        go_wp2_with fail
        go_ret
        refine ⟨?_, rfl⟩
        rw [spanN_at k (by simpa using Nat.le_of_lt hlt') (fun j hj hj' => HN.out j hj hj') (.inr ⟨by simpa using hlt', by rw [HS.out]; exact HP.out⟩)]
        rfl
    · have hdk : decide ((k : Int) < (s.size : Int)) = false := by simp; omega
      obtain rfl : k = s.size := by omega
      go_wp2_with fail
      go_ret
      refine ⟨?_, rfl⟩
      have hl : s.data.toList.length = s.size := Array.length_toList
      rw [spanN_at s.size (Nat.le_of_eq hl.symm) (fun j hj hj' => HN.out j hj hj') (.inl hl.symm)]
      have he : s.extract 0 s.size = s := by simp
      rw [he]
      rfl
theorem piece_eq (s : ByteArray) : sq (s.extract 0 (spanN partM s.data.toList)) s = s.data.toList.all partM := by
  have hdata : (s.extract 0 (spanN partM s.data.toList)).data.toList = s.data.toList.take (spanN partM s.data.toList) := by
    rw [ByteArray.data_extract, Array.toList_extract]; simp
  rw [sq, hdata]
  generalize s.data.toList = l
  have htw : l.take (spanN partM l) = l.takeWhile partM := by
    have : l.takeWhile partM <+: l := List.takeWhile_prefix _
    rw [spanN]; exact (List.prefix_iff_eq_take.1 this).symm
  rw [htw, Bool.eq_iff_iff, beq_iff_eq, List.all_eq_true]
  constructor
  · intro h x hx
    rw [← h] at hx
    exact List.all_eq_true.1 (List.all_takeWhile (p := partM) (l := l)) x hx
  · intro h
    have key : ∀ l : List UInt8, (∀ x ∈ l, partM x = true) → l.takeWhile partM = l := by
      intro l
      induction l with
      | nil => intro _; rfl
      | cons x l ih => intro h; rw [List.takeWhile_cons_of_pos (h x (by simp)), ih fun y hy => h y (by simp [hy])]
    exact key l h
set_option maxRecDepth 100000 in
set_option maxHeartbeats 1000000 in
theorem pnamed_any (s : ByteArray) (w : World) : Calls Tryz.prog 63 #[.string s] w fun e w' => e = .returned (.bool (namedM s)) ∧ w = w' := by
  cases he : emp s with
  | true =>
    have he' := he; rw [← toemp] at he'
    have he2 : (!s.toList.isEmpty) = false := by rw [he']; rfl
    go_enter Tryz.func63, Tryz.ntmps63
    go_wp2_with fail
    go_ret
    exact ⟨ret_bool (by simp [namedM, he]), rfl⟩
  | false =>
    have he' := he; rw [← toemp] at he'
    have he2 : (!s.toList.isEmpty) = true := by rw [he']; rfl
    have hp : 0 < s.size := by
      rcases Nat.eq_zero_or_pos s.size with h | h
      · simp [emp, h] at he
      · exact h
    have hd : s.data.getD 0 0 = s[0] := by have hp' : 0 < s.data.size := hp; rw [Array.getD, dif_pos hp']; rfl
    by_cases h16 : s.size ≤ 16
    · have h16' : decide ((s.size : Int) ≤ 16) = true := by simp; omega
      cases hl : letterM s[0] with
      | false =>
        have HF := Lib.hid (show namedM s = false by simp [namedM, hd, hl]); clear hd
        have H1 := Lib.hid he; clear he
        go_enter Tryz.func63, Tryz.ntmps63
        go_wp2_with fail
        refine (pletter_any _ _).mono ?_
        rintro e w1 ⟨rfl, rfl⟩
        go_wp2_with fail
        go_ret
        exact ⟨ret_bool HF.out.symm, rfl⟩
      | true =>
        cases hw : wordM s with
        | true =>
          have HF := Lib.hid (show namedM s = false by simp [namedM, hw]); clear hd
          have H1 := Lib.hid he; clear he
          go_enter Tryz.func63, Tryz.ntmps63
          go_wp2_with fail
          refine (pletter_any _ _).mono ?_
          rintro e w1 ⟨rfl, rfl⟩
          go_wp2_with fail
          refine (pword_any _ _).mono ?_
          rintro e w1 ⟨rfl, rfl⟩
          go_wp2_with fail
          go_ret
          exact ⟨ret_bool HF.out.symm, rfl⟩
        | false =>
          have HF := Lib.hid (show namedM s = s.data.toList.all partM by simp [namedM, he, h16, hd, hl, hw]); clear hd
          have H1 := Lib.hid he; clear he
          go_enter Tryz.func63, Tryz.ntmps63
          go_wp2_with fail
          refine (pletter_any _ _).mono ?_
          rintro e w1 ⟨rfl, rfl⟩
          go_wp2_with fail
          refine (pword_any _ _).mono ?_
          rintro e w1 ⟨rfl, rfl⟩
          go_wp2_with fail
          refine (ppiece_any s (by omega) _).mono ?_
          rintro e w1 ⟨rfl, rfl⟩
          have hpe := piece_eq s
          rw [← tosq] at hpe
          generalize s.extract 0 (spanN partM s.data.toList) = t at *
          have HPE := Lib.hid hpe; clear hpe
          go_wp2_with fail
          go_ret
          exact ⟨ret_bool (by rw [HF.out, HPE.out]), rfl⟩
    · have h16' : decide ((s.size : Int) ≤ 16) = false := by simp; omega
      have HF := Lib.hid (show namedM s = false by simp [namedM, h16])
      have H1 := Lib.hid he; clear he
      go_enter Tryz.func63, Tryz.ntmps63
      go_wp2_with fail
      go_ret
      exact ⟨ret_bool HF.out.symm, rfl⟩
end Go.Proofs.YtnlnejpioijkiaaGreatDoor
