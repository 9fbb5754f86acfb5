/- Contracts and laws, file 7: PrD, PrE, PrF, PrG -/
import Derived.Test.YtfncbemligfloaaGreatDoorMg06
import Derived.Deep.DeepCutAuto
import Derived.Deep.CutBlock
import Derived.Deep.RegionWith
/- Contracts of the reference's parser: statements with blocks. -/
namespace Go.Proofs.YtfncbemligfloaaGreatDoor
open Go.RowKit
set_option linter.unusedVariables false
set_option linter.unusedSimpArgs false
mutual
def stP (ts : List Tk) : Nat → Nat → Nat → Nat → Option (St × Nat × Nat)
  | 0, _, _, _ => none
  | f + 1, deep, n, i =>
    if deep ≤ 40 ∧ n < 400 ∧ i < ts.length then
      (if tkK ts 2 wIf i then (exprP ts (i + 1)).bind fun e => (blP ts f (deep + 1) (n + 1) e.2).bind fun b => if b.2.2 < ts.length ∧ tkK ts 2 wElse b.2.2 = false then some (.mk 5 nob nob false false [e.1] [] b.1 [], b.2.1, b.2.2) else none
      else if tkK ts 2 wWhile i then none
      else if tkK ts 2 wFor i then (if i + 1 < ts.length ∧ nmT (ts.getD (i + 1) Tk.zero) = true ∧ i + 2 < ts.length ∧ tkK ts 4 gLt (i + 2) = true then (exprP ts (i + 3)).bind fun e => (blP ts f (deep + 1) (n + 1) e.2).map fun b => (.mk 7 (ts.getD (i + 1) Tk.zero).text nob false false [e.1] [] b.1 [], b.2.1, b.2.2) else none)
      else if tkK ts 2 wView i || tkK ts 2 wEdit i then none
      else if tkK ts 2 wLet i then (if i + 1 < ts.length ∧ tkK ts 2 wSecret (i + 1) = false ∧ nmT (ts.getD (i + 1) Tk.zero) = true ∧ i + 2 < ts.length ∧ tkK ts 4 gEq (i + 2) = true then (exprP ts (i + 3)).bind fun e => if e.2 < ts.length ∧ tkK ts 4 gSem e.2 = true then some (.mk 1 (ts.getD (i + 1) Tk.zero).text nob false false [e.1] [] [] [], n + 1, e.2 + 1) else none else none)
      else if tkK ts 2 wBuf i || tkK ts 2 wMove i || tkK ts 2 wOpen i || tkK ts 2 wSeal i || tkK ts 2 wCall i then none
      else (bareP ts i).map fun r => (r.1, n + 1, r.2))
    else none
def blP (ts : List Tk) : Nat → Nat → Nat → Nat → Option (List St × Nat × Nat)
  | 0, _, _, _ => none
  | f + 1, deep, n, i => if i < ts.length ∧ tkK ts 4 gBra i = true then blQ ts f deep [] n (i + 1) else none
def blQ (ts : List Tk) : Nat → Nat → List St → Nat → Nat → Option (List St × Nat × Nat)
  | 0, _, _, _, _ => none
  | f + 1, deep, l, n, i => if i < ts.length ∧ l.length ≤ 400 then (if tkK ts 4 gKet i then some (l, n, i + 1) else (stP ts f deep n i).bind fun s => blQ ts f deep (l ++ [s.1]) s.2.1 s.2.2) else none
end
theorem rows_keep {lo lo0 : Nat} {wa wb : World} {sz : Nat} {A : Option Addr} {l : List (List D)} {S : Nat → Prop} (h : RdRows (New lo wa) wa sz A 0 l) (hf : Fr S wa wb) (hs : ∀ k, S k → k < lo) (hl : lo0 ≤ lo) : RdRows (New lo0 wb) wb sz A 0 l :=
  h.fr hf (fun q hq hS => by have := hs q hS; have := hq.1; omega) fun k hk => ⟨Nat.le_trans hl hk.1, Nat.lt_of_lt_of_le hk.2 hf.size⟩
theorem ps_far {be bp lo q : Nat} (h1 : be < lo) (h2 : bp < lo) (hq : lo ≤ q) : ¬ PS be bp q := fun h => by rcases h with h | h <;> omega
theorem ps_lt {be bp lo : Nat} (h1 : be < lo) (h2 : bp < lo) : ∀ k, PS be bp k → k < lo := fun k h => by rcases h with rfl | rfl <;> assumption
def BlkC (ok : Nat → Prop) (ts : List Tk) (A : Option Addr) (c be bp f : Nat) : Prop :=
  ∀ (deep n i : Nat) (l : List St) (n' j : Nat) (w : World), blP ts f deep n i = some (l, n', j) → deep ≤ 41 → PsAt ok ts A c be bp w i n → (∀ q, ok q → q < w.heap.size) →
    Calls Tryz.prog 82 #[.pointer (some ⟨bp, 0, none⟩), .int .i64 deep] w fun e w' => ∃ A' c', e = .returned (.slice A' l.length c') ∧ l.length ≤ c' ∧ l.length ≤ 400 ∧ Fr (PS be bp) w w' ∧ PsAt ok ts A c be bp w' j n' ∧ RdRows (New w.heap.size w') w' 9 A' 0 (St.ds l)
def StmC (ok : Nat → Prop) (ts : List Tk) (A : Option Addr) (c be bp f : Nat) : Prop :=
  ∀ (deep n i : Nat) (x : St) (n' j : Nat) (w : World), stP ts f deep n i = some (x, n', j) → PsAt ok ts A c be bp w i n → (∀ q, ok q → q < w.heap.size) →
    Calls Tryz.prog 96 #[.pointer (some ⟨bp, 0, none⟩), .int .i64 deep] w fun e w' => ∃ A1 A2 A3 A4 c1 c2 c3 c4, e = .returned (stV x A1 A2 A3 A4 c1 c2 c3 c4) ∧ Fr (PS be bp) w w' ∧ PsAt ok ts A c be bp w' j n' ∧ StRd (New w.heap.size w') w' x A1 A2 A3 A4 c1 c2 c3 c4

set_option maxRecDepth 100000 in
set_option maxHeartbeats 4000000 in
theorem blocks_none (ok : Nat → Prop) (ts : List Tk) (A : Option Addr) (c be bp : Nat) (w : World) (i n deep : Nat) (h : PsAt ok ts A c be bp w i n) (hok : ∀ q, ok q → q < w.heap.size) (hi : i < ts.length)
   (f1 : tkK ts 2 wIf i = false) (f2 : tkK ts 2 wWhile i = false) (f3 : tkK ts 2 wFor i = false) (f4 : tkK ts 2 wView i = false) (f5 : tkK ts 2 wEdit i = false) :
   Calls Tryz.prog 104 #[.pointer (some ⟨bp, 0, none⟩), .int .i64 deep] w fun e w' => e = .returned (.tuple #[.agg #[.int .u8 0, .string ⟨#[]⟩, .string ⟨#[]⟩, .bool false, .bool false, .slice none 0 0, .slice none 0 0, .slice none 0 0, .slice none 0 0], .bool false]) ∧ Fr (PS be bp) w w' ∧ PsAt ok ts A c be bp w' i n := by
  have hbe := blk_lt h.eye.blk
  have hbp := blk_lt h.blk
  obtain ⟨W1, HW1⟩ : ∃ W1, W1 = (w.alloc (.cells #[.int .u8 0, .string ⟨#[]⟩, .string ⟨#[]⟩, .bool false, .bool false, .slice none 0 0, .slice none 0 0, .slice none 0 0, .slice none 0 0] 54)).alloc (.cells #[.int .u8 0, .string ⟨#[]⟩, .string ⟨#[]⟩, .bool false, .bool false, .slice none 0 0, .slice none 0 0, .slice none 0 0, .slice none 0 0] 54) := ⟨_, rfl⟩
  have hf1 : Fr Non w W1 := by rw [HW1]; exact ((fr_refl w).alloc _).alloc _
  have R1 := Lib.hid (show W1.heap[w.heap.size]? = some (.cells #[.int .u8 0, .string ⟨#[]⟩, .string ⟨#[]⟩, .bool false, .bool false, .slice none 0 0, .slice none 0 0, .slice none 0 0, .slice none 0 0] 54 (0, 0)) by rw [HW1]; exact blk_old (blk_new _ _ _))
  have S1 := Lib.hid (show W1.heap[w.heap.size + 1]? = some (.cells #[.int .u8 0, .string ⟨#[]⟩, .string ⟨#[]⟩, .bool false, .bool false, .slice none 0 0, .slice none 0 0, .slice none 0 0, .slice none 0 0] 54 (0, 0)) by rw [HW1]; exact blk_new' (by simp) _ _)
  have H1 := Lib.hid (h.stay hf1); clear h
  have F1 := Lib.hid (show Fr (PS be bp) w W1 from hf1.non); clear hf1
  have HOK := Lib.hid hok; clear hok
  have HI0 := Lib.hid hi
  have T1 := Lib.hid f1; have T2 := Lib.hid f2; have T3 := Lib.hid f3; have T4 := Lib.hid f4; have T5 := Lib.hid f5
  clear f1 f2 f3 f4 f5
  go_enter Tryz.func104, Tryz.ntmps104
  go_upto_region 2 with fail
  rw [← HW1]; clear HW1
  go_wp2_with fail
  refine (eword_any ok ts A c be bp W1 (i) n ⟨#[105, 102]⟩ H1.out HI0.out).mono ?_
  rintro e w2 ⟨rfl, hf, h⟩
  rw [show tkK ts 2 ⟨#[105, 102]⟩ (i) = false from T1.out]
  rw [eyeI_f (show tkK ts 2 ⟨#[105, 102]⟩ (i) = false from T1.out)] at h
  have H2 := Lib.hid h
  have R2 := Lib.hid (blk_fr R1.out hf (ps_far hbe hbp (by omega)))
  have S2 := Lib.hid (blk_fr S1.out hf (ps_far hbe hbp (by omega)))
  have F2 := Lib.hid (F1.out.trans hf)
  clear hf h
  go_wp2_with fail
  refine (eword_any ok ts A c be bp w2 (i) n ⟨#[119, 104, 105, 108, 101]⟩ H2.out HI0.out).mono ?_
  rintro e w3 ⟨rfl, hf, h⟩
  rw [show tkK ts 2 ⟨#[119, 104, 105, 108, 101]⟩ (i) = false from T2.out]
  rw [eyeI_f (show tkK ts 2 ⟨#[119, 104, 105, 108, 101]⟩ (i) = false from T2.out)] at h
  have H3 := Lib.hid h
  have R3 := Lib.hid (blk_fr R2.out hf (ps_far hbe hbp (by omega)))
  have S3 := Lib.hid (blk_fr S2.out hf (ps_far hbe hbp (by omega)))
  have F3 := Lib.hid (F2.out.trans hf)
  clear hf h
  go_wp2_with fail
  refine (eword_any ok ts A c be bp w3 (i) n ⟨#[102, 111, 114]⟩ H3.out HI0.out).mono ?_
  rintro e w4 ⟨rfl, hf, h⟩
  rw [show tkK ts 2 ⟨#[102, 111, 114]⟩ (i) = false from T3.out]
  rw [eyeI_f (show tkK ts 2 ⟨#[102, 111, 114]⟩ (i) = false from T3.out)] at h
  have H4 := Lib.hid h
  have R4 := Lib.hid (blk_fr R3.out hf (ps_far hbe hbp (by omega)))
  have S4 := Lib.hid (blk_fr S3.out hf (ps_far hbe hbp (by omega)))
  have F4 := Lib.hid (F3.out.trans hf)
  clear hf h
  go_wp2_with fail
  refine (eword_any ok ts A c be bp w4 (i) n ⟨#[118, 105, 101, 119]⟩ H4.out HI0.out).mono ?_
  rintro e w5 ⟨rfl, hf, h⟩
  rw [show tkK ts 2 ⟨#[118, 105, 101, 119]⟩ (i) = false from T4.out]
  rw [eyeI_f (show tkK ts 2 ⟨#[118, 105, 101, 119]⟩ (i) = false from T4.out)] at h
  have H5 := Lib.hid h
  have R5 := Lib.hid (blk_fr R4.out hf (ps_far hbe hbp (by omega)))
  have S5 := Lib.hid (blk_fr S4.out hf (ps_far hbe hbp (by omega)))
  have F5 := Lib.hid (F4.out.trans hf)
  clear hf h
  go_wp2_with fail
  refine (eword_any ok ts A c be bp w5 (i) n ⟨#[101, 100, 105, 116]⟩ H5.out HI0.out).mono ?_
  rintro e w6 ⟨rfl, hf, h⟩
  rw [show tkK ts 2 ⟨#[101, 100, 105, 116]⟩ (i) = false from T5.out]
  rw [eyeI_f (show tkK ts 2 ⟨#[101, 100, 105, 116]⟩ (i) = false from T5.out)] at h
  have H6 := Lib.hid h
  have R6 := Lib.hid (blk_fr R5.out hf (ps_far hbe hbp (by omega)))
  have S6 := Lib.hid (blk_fr S5.out hf (ps_far hbe hbp (by omega)))
  have F6 := Lib.hid (F5.out.trans hf)
  clear hf h
  have l0 := (cells_of S6.out).1 0 _ rfl
  have r0 := (cells_of R6.out).1 0 _ rfl
  have l1 := (cells_of S6.out).1 1 _ rfl
  have r1 := (cells_of R6.out).1 1 _ rfl
  have l2 := (cells_of S6.out).1 2 _ rfl
  have r2 := (cells_of R6.out).1 2 _ rfl
  have l3 := (cells_of S6.out).1 3 _ rfl
  have r3 := (cells_of R6.out).1 3 _ rfl
  have l4 := (cells_of S6.out).1 4 _ rfl
  have r4 := (cells_of R6.out).1 4 _ rfl
  have l5 := (cells_of S6.out).1 5 _ rfl
  have r5 := (cells_of R6.out).1 5 _ rfl
  have l6 := (cells_of S6.out).1 6 _ rfl
  have r6 := (cells_of R6.out).1 6 _ rfl
  have l7 := (cells_of S6.out).1 7 _ rfl
  have r7 := (cells_of R6.out).1 7 _ rfl
  have l8 := (cells_of S6.out).1 8 _ rfl
  have r8 := (cells_of R6.out).1 8 _ rfl
  have rf := (cells_of R6.out).2
  go_wp2_with fail
  have HZ := Lib.hid (blk_put9 R6.out (.int .u8 0) (.string ⟨#[]⟩) (.string ⟨#[]⟩) (.bool false) (.bool false) (.slice none 0 0) (.slice none 0 0) (.slice none 0 0) (.slice none 0 0))
  have HFZ := Lib.hid (fr_put9 (g := w.heap.size) (w := w6) (S := fun q => q = w.heap.size) rfl (.int .u8 0) (.string ⟨#[]⟩) (.string ⟨#[]⟩) (.bool false) (.bool false) (.slice none 0 0) (.slice none 0 0) (.slice none 0 0) (.slice none 0 0))
  generalize (((((((((w6.setCell ⟨w.heap.size, 0, none⟩ (.int .u8 0)).setCell ⟨w.heap.size, 1, none⟩ (.string ⟨#[]⟩)).setCell ⟨w.heap.size, 2, none⟩ (.string ⟨#[]⟩)).setCell ⟨w.heap.size, 3, none⟩ (.bool false)).setCell ⟨w.heap.size, 4, none⟩ (.bool false)).setCell ⟨w.heap.size, 5, none⟩ (.slice none 0 0)).setCell ⟨w.heap.size, 6, none⟩ (.slice none 0 0)).setCell ⟨w.heap.size, 7, none⟩ (.slice none 0 0)).setCell ⟨w.heap.size, 8, none⟩ (.slice none 0 0)) = wz at *
  clear l0 l1 l2 l3 l4 l5 l6 l7 l8 r0 r1 r2 r3 r4 r5 r6 r7 r8 rf
  have f0 := (cells_of HZ.out).1 0 _ rfl
  have f1 := (cells_of HZ.out).1 1 _ rfl
  have f2 := (cells_of HZ.out).1 2 _ rfl
  have f3 := (cells_of HZ.out).1 3 _ rfl
  have f4 := (cells_of HZ.out).1 4 _ rfl
  have f5 := (cells_of HZ.out).1 5 _ rfl
  have f6 := (cells_of HZ.out).1 6 _ rfl
  have f7 := (cells_of HZ.out).1 7 _ rfl
  have f8 := (cells_of HZ.out).1 8 _ rfl
  refine bodyPost_ret (v := .tuple #[.agg #[.int .u8 0, .string ⟨#[]⟩, .string ⟨#[]⟩, .bool false, .bool false, .slice none 0 0, .slice none 0 0, .slice none 0 0, .slice none 0 0], .bool false]) (by simp [results, Tryz.results104, go_sem, f0, f1, f2, f3, f4, f5, f6, f7, f8]) rfl ⟨rfl, ps_new F6.out HFZ.out (Nat.le_refl _), H6.out.away HFZ.out (by omega) (by omega) (fun q hq e => by have e : q = w.heap.size := e; have := HOK.out q hq; omega)⟩

set_option maxRecDepth 100000 in
set_option maxHeartbeats 4000000 in
theorem blocks_if (ok : Nat → Prop) (ts : List Tk) (A : Option Addr) (c be bp f : Nat) (BK : BlkC ok ts A c be bp f) (w : World) (i n deep : Nat) (h : PsAt ok ts A c be bp w i n) (hok : ∀ q, ok q → q < w.heap.size) (hi : i < ts.length) (hd : deep ≤ 40)
   (y : Ex) (k1 : Nat) (l : List St) (n' j : Nat) (t1 : tkK ts 2 wIf i = true) (he : exprP ts (i + 1) = some (y, k1)) (hb : blP ts f (deep + 1) n k1 = some (l, n', j)) (hj : j < ts.length) (t2 : tkK ts 2 wElse j = false) :
   Calls Tryz.prog 104 #[.pointer (some ⟨bp, 0, none⟩), .int .i64 deep] w fun e w' => ∃ A1 A2 A3 A4 c1 c2 c3 c4, e = .returned (.tuple #[stV (.mk 5 nob nob false false [y] [] l []) A1 A2 A3 A4 c1 c2 c3 c4, .bool true]) ∧ Fr (PS be bp) w w' ∧ PsAt ok ts A c be bp w' j n' ∧ StRd (New w.heap.size w') w' (.mk 5 nob nob false false [y] [] l []) A1 A2 A3 A4 c1 c2 c3 c4 := by
  have hbe := blk_lt h.eye.blk
  have hbp := blk_lt h.blk
  obtain ⟨W1, HW1⟩ : ∃ W1, W1 = (w.alloc (.cells #[.int .u8 0, .string ⟨#[]⟩, .string ⟨#[]⟩, .bool false, .bool false, .slice none 0 0, .slice none 0 0, .slice none 0 0, .slice none 0 0] 54)).alloc (.cells #[.int .u8 0, .string ⟨#[]⟩, .string ⟨#[]⟩, .bool false, .bool false, .slice none 0 0, .slice none 0 0, .slice none 0 0, .slice none 0 0] 54) := ⟨_, rfl⟩
  have hf1 : Fr Non w W1 := by rw [HW1]; exact ((fr_refl w).alloc _).alloc _
  have R1 := Lib.hid (show W1.heap[w.heap.size]? = some (.cells #[.int .u8 0, .string ⟨#[]⟩, .string ⟨#[]⟩, .bool false, .bool false, .slice none 0 0, .slice none 0 0, .slice none 0 0, .slice none 0 0] 54 (0, 0)) by rw [HW1]; exact blk_old (blk_new _ _ _))
  have S1 := Lib.hid (show W1.heap[w.heap.size + 1]? = some (.cells #[.int .u8 0, .string ⟨#[]⟩, .string ⟨#[]⟩, .bool false, .bool false, .slice none 0 0, .slice none 0 0, .slice none 0 0, .slice none 0 0] 54 (0, 0)) by rw [HW1]; exact blk_new' (by simp) _ _)
  have H1 := Lib.hid (h.stay hf1); clear h
  have F1 := Lib.hid (show Fr (PS be bp) w W1 from hf1.non); clear hf1
  have HOK := Lib.hid hok; clear hok
  have T1 := Lib.hid t1; have T2 := Lib.hid t2; have HE := Lib.hid he; have HBL := Lib.hid hb; have HKD := Lib.hid (exprP_kids he)
  clear t1 t2 he hb
  go_enter Tryz.func104, Tryz.ntmps104
  go_upto_region 2 with fail
  rw [← HW1]; clear HW1
  go_wp2_with fail
  refine (eword_any ok ts A c be bp W1 (i) n ⟨#[105, 102]⟩ H1.out hi).mono ?_
  rintro e w2 ⟨rfl, hf, h⟩
  rw [show tkK ts 2 ⟨#[105, 102]⟩ (i) = true from T1.out]
  rw [eyeI_t (show tkK ts 2 ⟨#[105, 102]⟩ (i) = true from T1.out)] at h
  have H2 := Lib.hid h
  have R2 := Lib.hid (blk_fr R1.out hf (ps_far hbe hbp (by omega)))
  have S2 := Lib.hid (blk_fr S1.out hf (ps_far hbe hbp (by omega)))
  have F2 := Lib.hid (F1.out.trans hf)
  clear hf h
  have sx := (cells_of S2.out).1 0 _ rfl
  have sf := (cells_of S2.out).2
  go_upto_region 4 with fail
  have hf : Fr (fun q => q = w.heap.size + 1) w2 (w2.setCell ⟨w.heap.size + 1, 0, none⟩ (.int .u8 5)) := (Fr.refl _ _).setCell _ _ (.inl rfl)
  have hs := blk_set S2.out 0 (.int .u8 5)
  have S3 := Lib.hid (show (w2.setCell ⟨w.heap.size + 1, 0, none⟩ (.int .u8 5)).heap[w.heap.size + 1]? = some (.cells #[(.int .u8 5), (.string ⟨#[]⟩), (.string ⟨#[]⟩), (.bool false), (.bool false), (.slice none 0 0), (.slice none 0 0), (.slice none 0 0), (.slice none 0 0)] 54 (0, 0)) from hs)
  have H3 := Lib.hid (H2.out.away hf (by omega) (by omega) (fun q hq e => by have e : q = w.heap.size + 1 := e; have := HOK.out q hq; omega))
  have R3 := Lib.hid (blk_fr R2.out hf (by omega))
  have F3 := Lib.hid (ps_new F2.out hf (by omega))
  generalize w2.setCell ⟨w.heap.size + 1, 0, none⟩ (.int .u8 5) = w3 at *
  clear sx sf hf hs
  go_wp2_with fail
  refine (eexprs_any ok ts A c be bp w3 (i + 1) n y k1 H3.out HE.out (fun q hq => by have := HOK.out q hq; have := F3.out.size; omega)).mono ?_
  rintro e w4 ⟨g, rfl, hf, h, hr⟩
  have H4 := Lib.hid h
  have y3 := blk_lt S3.out
  have z3 : w.heap.size + 1 < w3.heap.size := by omega
  have R4 := Lib.hid (blk_fr R3.out hf (ps_far hbe hbp (by omega)))
  have S4 := Lib.hid (blk_fr S3.out hf (ps_far hbe hbp (by omega)))
  have F4 := Lib.hid (F3.out.trans hf)
  have X4 := Lib.hid hr
  clear hf h hr
  have sx := (cells_of S4.out).1 5 _ rfl
  have sf := (cells_of S4.out).2
  go_upto_region 5 with fail
  have hf : Fr (fun q => q = w.heap.size + 1) w4 (w4.setCell ⟨w.heap.size + 1, 5, none⟩ (.slice (some ⟨g, 0, none⟩) 1 1)) := (Fr.refl _ _).setCell _ _ (.inl rfl)
  have hs := blk_set S4.out 5 (.slice (some ⟨g, 0, none⟩) 1 1)
  have S5 := Lib.hid (show (w4.setCell ⟨w.heap.size + 1, 5, none⟩ (.slice (some ⟨g, 0, none⟩) 1 1)).heap[w.heap.size + 1]? = some (.cells #[(.int .u8 5), (.string ⟨#[]⟩), (.string ⟨#[]⟩), (.bool false), (.bool false), (.slice (some ⟨g, 0, none⟩) 1 1), (.slice none 0 0), (.slice none 0 0), (.slice none 0 0)] 54 (0, 0)) from hs)
  have H5 := Lib.hid (H4.out.away hf (by omega) (by omega) (fun q hq e => by have e : q = w.heap.size + 1 := e; have := HOK.out q hq; omega))
  have R5 := Lib.hid (blk_fr R4.out hf (by omega))
  have F5 := Lib.hid (ps_new F4.out hf (by omega))
  have X5 := Lib.hid (rows_keep X4.out hf (fun k hk => by have hk : k = w.heap.size + 1 := hk; omega) (Nat.le_refl _))
  generalize w4.setCell ⟨w.heap.size + 1, 5, none⟩ (.slice (some ⟨g, 0, none⟩) 1 1) = w5 at *
  clear sx sf hf hs
  go_wp2_with fail
  rw [show ((deep : Int) + 1) = ((deep + 1 : Nat) : Int) by omega]
  refine (BK (deep + 1) n k1 l n' j w5 HBL.out (by omega) H5.out (fun q hq => by have := HOK.out q hq; have := F5.out.size; omega)).mono ?_
  rintro e w6 ⟨A3, c3, rfl, hc3, hl4, hf, h, hr⟩
  have H6 := Lib.hid h
  have y5 := blk_lt S5.out
  have z5 : w.heap.size + 1 < w5.heap.size := by omega
  have R6 := Lib.hid (blk_fr R5.out hf (ps_far hbe hbp (by omega)))
  have S6 := Lib.hid (blk_fr S5.out hf (ps_far hbe hbp (by omega)))
  have F6 := Lib.hid (F5.out.trans hf)
  have X6 := Lib.hid (rows_keep X5.out hf (ps_lt (by omega) (by omega)) (Nat.le_refl _))
  have Y6 := Lib.hid hr
  clear hf h hr
  have sx := (cells_of S6.out).1 7 _ rfl
  have sf := (cells_of S6.out).2
  go_upto_region 6 with fail
  have hf : Fr (fun q => q = w.heap.size + 1) w6 (w6.setCell ⟨w.heap.size + 1, 7, none⟩ (.slice A3 l.length c3)) := (Fr.refl _ _).setCell _ _ (.inl rfl)
  have hs := blk_set S6.out 7 (.slice A3 l.length c3)
  have S7 := Lib.hid (show (w6.setCell ⟨w.heap.size + 1, 7, none⟩ (.slice A3 l.length c3)).heap[w.heap.size + 1]? = some (.cells #[(.int .u8 5), (.string ⟨#[]⟩), (.string ⟨#[]⟩), (.bool false), (.bool false), (.slice (some ⟨g, 0, none⟩) 1 1), (.slice none 0 0), (.slice A3 l.length c3), (.slice none 0 0)] 54 (0, 0)) from hs)
  have H7 := Lib.hid (H6.out.away hf (by omega) (by omega) (fun q hq e => by have e : q = w.heap.size + 1 := e; have := HOK.out q hq; omega))
  have R7 := Lib.hid (blk_fr R6.out hf (by omega))
  have F7 := Lib.hid (ps_new F6.out hf (by omega))
  have X7 := Lib.hid (rows_keep X6.out hf (fun k hk => by have hk : k = w.heap.size + 1 := hk; omega) (Nat.le_refl _))
  have Y7 := Lib.hid (rows_keep Y6.out hf (fun k hk => by have hk : k = w.heap.size + 1 := hk; omega) (Nat.le_refl _))
  generalize w6.setCell ⟨w.heap.size + 1, 7, none⟩ (.slice A3 l.length c3) = w7 at *
  clear sx sf hf hs
  go_wp2_with fail
  refine (eword_any ok ts A c be bp w7 (j) n' ⟨#[101, 108, 115, 101]⟩ H7.out hj).mono ?_
  rintro e w8 ⟨rfl, hf, h⟩
  rw [show tkK ts 2 ⟨#[101, 108, 115, 101]⟩ (j) = false from T2.out]
  rw [eyeI_f (show tkK ts 2 ⟨#[101, 108, 115, 101]⟩ (j) = false from T2.out)] at h
  have H8 := Lib.hid h
  have R8 := Lib.hid (blk_fr R7.out hf (ps_far hbe hbp (by omega)))
  have S8 := Lib.hid (blk_fr S7.out hf (ps_far hbe hbp (by omega)))
  have F8 := Lib.hid (F7.out.trans hf)
  have X8 := Lib.hid (rows_keep X7.out hf (ps_lt (by omega) (by omega)) (Nat.le_refl _))
  have Y8 := Lib.hid (rows_keep Y7.out hf (ps_lt (by omega) (by omega)) (Nat.le_refl _))
  clear hf h
  have l0 := (cells_of S8.out).1 0 _ rfl
  have r0 := (cells_of R8.out).1 0 _ rfl
  have l1 := (cells_of S8.out).1 1 _ rfl
  have r1 := (cells_of R8.out).1 1 _ rfl
  have l2 := (cells_of S8.out).1 2 _ rfl
  have r2 := (cells_of R8.out).1 2 _ rfl
  have l3 := (cells_of S8.out).1 3 _ rfl
  have r3 := (cells_of R8.out).1 3 _ rfl
  have l4 := (cells_of S8.out).1 4 _ rfl
  have r4 := (cells_of R8.out).1 4 _ rfl
  have l5 := (cells_of S8.out).1 5 _ rfl
  have r5 := (cells_of R8.out).1 5 _ rfl
  have l6 := (cells_of S8.out).1 6 _ rfl
  have r6 := (cells_of R8.out).1 6 _ rfl
  have l7 := (cells_of S8.out).1 7 _ rfl
  have r7 := (cells_of R8.out).1 7 _ rfl
  have l8 := (cells_of S8.out).1 8 _ rfl
  have r8 := (cells_of R8.out).1 8 _ rfl
  have rf := (cells_of R8.out).2
  go_wp2_with fail
  have HZ := Lib.hid (blk_put9 R8.out (.int .u8 5) (.string ⟨#[]⟩) (.string ⟨#[]⟩) (.bool false) (.bool false) (.slice (some ⟨g, 0, none⟩) 1 1) (.slice none 0 0) (.slice A3 l.length c3) (.slice none 0 0))
  have HFZ := Lib.hid (fr_put9 (g := w.heap.size) (w := w8) (S := fun q => q = w.heap.size) rfl (.int .u8 5) (.string ⟨#[]⟩) (.string ⟨#[]⟩) (.bool false) (.bool false) (.slice (some ⟨g, 0, none⟩) 1 1) (.slice none 0 0) (.slice A3 l.length c3) (.slice none 0 0))
  generalize (((((((((w8.setCell ⟨w.heap.size, 0, none⟩ (.int .u8 5)).setCell ⟨w.heap.size, 1, none⟩ (.string ⟨#[]⟩)).setCell ⟨w.heap.size, 2, none⟩ (.string ⟨#[]⟩)).setCell ⟨w.heap.size, 3, none⟩ (.bool false)).setCell ⟨w.heap.size, 4, none⟩ (.bool false)).setCell ⟨w.heap.size, 5, none⟩ (.slice (some ⟨g, 0, none⟩) 1 1)).setCell ⟨w.heap.size, 6, none⟩ (.slice none 0 0)).setCell ⟨w.heap.size, 7, none⟩ (.slice A3 l.length c3)).setCell ⟨w.heap.size, 8, none⟩ (.slice none 0 0)) = wz at *
  clear l0 l1 l2 l3 l4 l5 l6 l7 l8 r0 r1 r2 r3 r4 r5 r6 r7 r8 rf
  have XZ := Lib.hid (rows_keep X8.out HFZ.out (fun k hk => by have hk : k = w.heap.size := hk; omega) (lo0 := w.heap.size) (by omega))
  have YZ := Lib.hid (rows_keep Y8.out HFZ.out (fun k hk => by have hk : k = w.heap.size := hk; omega) (lo0 := w.heap.size) (by omega))
  have f0 := (cells_of HZ.out).1 0 _ rfl
  have f1 := (cells_of HZ.out).1 1 _ rfl
  have f2 := (cells_of HZ.out).1 2 _ rfl
  have f3 := (cells_of HZ.out).1 3 _ rfl
  have f4 := (cells_of HZ.out).1 4 _ rfl
  have f5 := (cells_of HZ.out).1 5 _ rfl
  have f6 := (cells_of HZ.out).1 6 _ rfl
  have f7 := (cells_of HZ.out).1 7 _ rfl
  have f8 := (cells_of HZ.out).1 8 _ rfl
  refine bodyPost_ret (v := .tuple #[stV (.mk 5 nob nob false false [y] [] l []) (some ⟨g, 0, none⟩) none A3 none 1 0 c3 0, .bool true]) (by simp [results, Tryz.results104, go_sem, f0, f1, f2, f3, f4, f5, f6, f7, f8, stV, St.kind, St.name, St.frm, St.sec, St.mt, St.ex, St.args, St.body, St.els, nob]) rfl ⟨_, _, _, _, _, _, _, _, rfl, ps_new F8.out HFZ.out (Nat.le_refl _), H8.out.away HFZ.out (by omega) (by omega) (fun q hq e => by have e : q = w.heap.size := e; have := HOK.out q hq; omega), ?_⟩
  exact ⟨⟨Nat.le_refl 1, (by decide : 1 * 64 ≤ reach), XZ.out⟩, ⟨Nat.zero_le _, (by decide : 0 * 16 ≤ reach), trivial⟩, ⟨hc3, (by show l.length * 144 ≤ reach; unfold reach; omega), YZ.out⟩, ⟨Nat.zero_le _, (by decide : 0 * 144 ≤ reach), trivial⟩⟩

set_option maxRecDepth 100000 in
set_option maxHeartbeats 4000000 in
theorem blocks_for (ok : Nat → Prop) (ts : List Tk) (A : Option Addr) (c be bp f : Nat) (BK : BlkC ok ts A c be bp f) (w : World) (i n deep : Nat) (h : PsAt ok ts A c be bp w i n) (hok : ∀ q, ok q → q < w.heap.size) (hi : i < ts.length) (hd : deep ≤ 40)
   (y : Ex) (k1 : Nat) (l : List St) (n' j : Nat) (nm : ByteArray) (t1 : tkK ts 2 wIf i = false) (t2 : tkK ts 2 wWhile i = false) (t3 : tkK ts 2 wFor i = true) (hi1 : i + 1 < ts.length) (hnm : nmT ts[i + 1] = true) (hnq : ts[i + 1].text = nm) (hi2 : i + 1 + 1 < ts.length) (t4 : tkK ts 4 gLt (i + 1 + 1) = true) (he : exprP ts (i + 1 + 1 + 1) = some (y, k1)) (hb : blP ts f (deep + 1) n k1 = some (l, n', j)) :
   Calls Tryz.prog 104 #[.pointer (some ⟨bp, 0, none⟩), .int .i64 deep] w fun e w' => ∃ A1 A2 A3 A4 c1 c2 c3 c4, e = .returned (.tuple #[stV (.mk 7 nm nob false false [y] [] l []) A1 A2 A3 A4 c1 c2 c3 c4, .bool true]) ∧ Fr (PS be bp) w w' ∧ PsAt ok ts A c be bp w' j n' ∧ StRd (New w.heap.size w') w' (.mk 7 nm nob false false [y] [] l []) A1 A2 A3 A4 c1 c2 c3 c4 := by
  have hbe := blk_lt h.eye.blk
  have hbp := blk_lt h.blk
  obtain ⟨W1, HW1⟩ : ∃ W1, W1 = (w.alloc (.cells #[.int .u8 0, .string ⟨#[]⟩, .string ⟨#[]⟩, .bool false, .bool false, .slice none 0 0, .slice none 0 0, .slice none 0 0, .slice none 0 0] 54)).alloc (.cells #[.int .u8 0, .string ⟨#[]⟩, .string ⟨#[]⟩, .bool false, .bool false, .slice none 0 0, .slice none 0 0, .slice none 0 0, .slice none 0 0] 54) := ⟨_, rfl⟩
  have hf1 : Fr Non w W1 := by rw [HW1]; exact ((fr_refl w).alloc _).alloc _
  have R1 := Lib.hid (show W1.heap[w.heap.size]? = some (.cells #[.int .u8 0, .string ⟨#[]⟩, .string ⟨#[]⟩, .bool false, .bool false, .slice none 0 0, .slice none 0 0, .slice none 0 0, .slice none 0 0] 54 (0, 0)) by rw [HW1]; exact blk_old (blk_new _ _ _))
  have S1 := Lib.hid (show W1.heap[w.heap.size + 1]? = some (.cells #[.int .u8 0, .string ⟨#[]⟩, .string ⟨#[]⟩, .bool false, .bool false, .slice none 0 0, .slice none 0 0, .slice none 0 0, .slice none 0 0] 54 (0, 0)) by rw [HW1]; exact blk_new' (by simp) _ _)
  have H1 := Lib.hid (h.stay hf1); clear h
  have F1 := Lib.hid (show Fr (PS be bp) w W1 from hf1.non); clear hf1
  have HOK := Lib.hid hok; clear hok
  have T1 := Lib.hid t1; have T2 := Lib.hid t2; have T3 := Lib.hid t3; have T4 := Lib.hid t4; have HE := Lib.hid he; have HBL := Lib.hid hb; have HKD := Lib.hid (exprP_kids he)
  have HNM := Lib.hid hnm; have HNQ := Lib.hid hnq
  clear t1 t2 t3 t4 he hb hnm hnq
  go_enter Tryz.func104, Tryz.ntmps104
  go_upto_region 2 with fail
  rw [← HW1]; clear HW1
  go_wp2_with fail
  refine (eword_any ok ts A c be bp W1 (i) n ⟨#[105, 102]⟩ H1.out hi).mono ?_
  rintro e w2 ⟨rfl, hf, h⟩
  rw [show tkK ts 2 ⟨#[105, 102]⟩ (i) = false from T1.out]
  rw [eyeI_f (show tkK ts 2 ⟨#[105, 102]⟩ (i) = false from T1.out)] at h
  have H2 := Lib.hid h
  have R2 := Lib.hid (blk_fr R1.out hf (ps_far hbe hbp (by omega)))
  have S2 := Lib.hid (blk_fr S1.out hf (ps_far hbe hbp (by omega)))
  have F2 := Lib.hid (F1.out.trans hf)
  clear hf h
  go_wp2_with fail
  refine (eword_any ok ts A c be bp w2 (i) n ⟨#[119, 104, 105, 108, 101]⟩ H2.out hi).mono ?_
  rintro e w3 ⟨rfl, hf, h⟩
  rw [show tkK ts 2 ⟨#[119, 104, 105, 108, 101]⟩ (i) = false from T2.out]
  rw [eyeI_f (show tkK ts 2 ⟨#[119, 104, 105, 108, 101]⟩ (i) = false from T2.out)] at h
  have H3 := Lib.hid h
  have R3 := Lib.hid (blk_fr R2.out hf (ps_far hbe hbp (by omega)))
  have S3 := Lib.hid (blk_fr S2.out hf (ps_far hbe hbp (by omega)))
  have F3 := Lib.hid (F2.out.trans hf)
  clear hf h
  go_wp2_with fail
  refine (eword_any ok ts A c be bp w3 (i) n ⟨#[102, 111, 114]⟩ H3.out hi).mono ?_
  rintro e w4 ⟨rfl, hf, h⟩
  rw [show tkK ts 2 ⟨#[102, 111, 114]⟩ (i) = true from T3.out]
  rw [eyeI_t (show tkK ts 2 ⟨#[102, 111, 114]⟩ (i) = true from T3.out)] at h
  have H4 := Lib.hid h
  have R4 := Lib.hid (blk_fr R3.out hf (ps_far hbe hbp (by omega)))
  have S4 := Lib.hid (blk_fr S3.out hf (ps_far hbe hbp (by omega)))
  have F4 := Lib.hid (F3.out.trans hf)
  clear hf h
  have sx := (cells_of S4.out).1 0 _ rfl
  have sf := (cells_of S4.out).2
  go_upto_region 16 with fail
  have hf : Fr (fun q => q = w.heap.size + 1) w4 (w4.setCell ⟨w.heap.size + 1, 0, none⟩ (.int .u8 7)) := (Fr.refl _ _).setCell _ _ (.inl rfl)
  have hs := blk_set S4.out 0 (.int .u8 7)
  have S5 := Lib.hid (show (w4.setCell ⟨w.heap.size + 1, 0, none⟩ (.int .u8 7)).heap[w.heap.size + 1]? = some (.cells #[(.int .u8 7), (.string ⟨#[]⟩), (.string ⟨#[]⟩), (.bool false), (.bool false), (.slice none 0 0), (.slice none 0 0), (.slice none 0 0), (.slice none 0 0)] 54 (0, 0)) from hs)
  have H5 := Lib.hid (H4.out.away hf (by omega) (by omega) (fun q hq e => by have e : q = w.heap.size + 1 := e; have := HOK.out q hq; omega))
  have R5 := Lib.hid (blk_fr R4.out hf (by omega))
  have F5 := Lib.hid (ps_new F4.out hf (by omega))
  generalize w4.setCell ⟨w.heap.size + 1, 0, none⟩ (.int .u8 7) = w5 at *
  clear sx sf hf hs
  have p0 := (cells_of H5.out.blk).1 0 _ rfl
  go_wp2_with fail
  refine (ename_any ok ts A c be w5 (i + 1) H5.out.eye hi1 HNM.out).mono ?_
  rintro e w6 ⟨rfl, hf1, h⟩
  have H6 := Lib.hid (H5.out.moved hf1 h)
  have hf := eye_ps (bp := bp) hf1
  have R6 := Lib.hid (blk_fr R5.out hf (ps_far hbe hbp (by omega)))
  have S6 := Lib.hid (blk_fr S5.out hf (ps_far hbe hbp (by omega)))
  have F6 := Lib.hid (F5.out.trans hf)
  clear hf hf1 h p0
  rw [HNQ.out]
  have sx := (cells_of S6.out).1 1 _ rfl
  have sf := (cells_of S6.out).2
  go_upto_region 17 with fail
  have hf : Fr (fun q => q = w.heap.size + 1) w6 (w6.setCell ⟨w.heap.size + 1, 1, none⟩ (.string nm)) := (Fr.refl _ _).setCell _ _ (.inl rfl)
  have hs := blk_set S6.out 1 (.string nm)
  have S7 := Lib.hid (show (w6.setCell ⟨w.heap.size + 1, 1, none⟩ (.string nm)).heap[w.heap.size + 1]? = some (.cells #[(.int .u8 7), (.string nm), (.string ⟨#[]⟩), (.bool false), (.bool false), (.slice none 0 0), (.slice none 0 0), (.slice none 0 0), (.slice none 0 0)] 54 (0, 0)) from hs)
  have H7 := Lib.hid (H6.out.away hf (by omega) (by omega) (fun q hq e => by have e : q = w.heap.size + 1 := e; have := HOK.out q hq; omega))
  have R7 := Lib.hid (blk_fr R6.out hf (by omega))
  have F7 := Lib.hid (ps_new F6.out hf (by omega))
  generalize w6.setCell ⟨w.heap.size + 1, 1, none⟩ (.string nm) = w7 at *
  clear sx sf hf hs
  have p0 := (cells_of H7.out.blk).1 0 _ rfl
  go_wp2_with fail
  refine (need_any ok ts A c be w7 (i + 1 + 1) ⟨#[60]⟩ H7.out.eye hi2 T4.out).mono ?_
  rintro e w8 ⟨rfl, hf1, h⟩
  have H8 := Lib.hid (H7.out.moved hf1 h)
  have hf := eye_ps (bp := bp) hf1
  have R8 := Lib.hid (blk_fr R7.out hf (ps_far hbe hbp (by omega)))
  have S8 := Lib.hid (blk_fr S7.out hf (ps_far hbe hbp (by omega)))
  have F8 := Lib.hid (F7.out.trans hf)
  clear hf hf1 h p0
  go_wp2_with fail
  refine (eexprs_any ok ts A c be bp w8 (i + 1 + 1 + 1) n y k1 H8.out HE.out (fun q hq => by have := HOK.out q hq; have := F8.out.size; omega)).mono ?_
  rintro e w9 ⟨g, rfl, hf, h, hr⟩
  have H9 := Lib.hid h
  have y8 := blk_lt S8.out
  have z8 : w.heap.size + 1 < w8.heap.size := by omega
  have R9 := Lib.hid (blk_fr R8.out hf (ps_far hbe hbp (by omega)))
  have S9 := Lib.hid (blk_fr S8.out hf (ps_far hbe hbp (by omega)))
  have F9 := Lib.hid (F8.out.trans hf)
  have X9 := Lib.hid hr
  clear hf h hr
  have sx := (cells_of S9.out).1 5 _ rfl
  have sf := (cells_of S9.out).2
  go_upto_region 19 with fail
  have hf : Fr (fun q => q = w.heap.size + 1) w9 (w9.setCell ⟨w.heap.size + 1, 5, none⟩ (.slice (some ⟨g, 0, none⟩) 1 1)) := (Fr.refl _ _).setCell _ _ (.inl rfl)
  have hs := blk_set S9.out 5 (.slice (some ⟨g, 0, none⟩) 1 1)
  have S10 := Lib.hid (show (w9.setCell ⟨w.heap.size + 1, 5, none⟩ (.slice (some ⟨g, 0, none⟩) 1 1)).heap[w.heap.size + 1]? = some (.cells #[(.int .u8 7), (.string nm), (.string ⟨#[]⟩), (.bool false), (.bool false), (.slice (some ⟨g, 0, none⟩) 1 1), (.slice none 0 0), (.slice none 0 0), (.slice none 0 0)] 54 (0, 0)) from hs)
  have H10 := Lib.hid (H9.out.away hf (by omega) (by omega) (fun q hq e => by have e : q = w.heap.size + 1 := e; have := HOK.out q hq; omega))
  have R10 := Lib.hid (blk_fr R9.out hf (by omega))
  have F10 := Lib.hid (ps_new F9.out hf (by omega))
  have X10 := Lib.hid (rows_keep X9.out hf (fun k hk => by have hk : k = w.heap.size + 1 := hk; omega) (Nat.le_refl _))
  generalize w9.setCell ⟨w.heap.size + 1, 5, none⟩ (.slice (some ⟨g, 0, none⟩) 1 1) = w10 at *
  clear sx sf hf hs
  go_wp2_with fail
  rw [show ((deep : Int) + 1) = ((deep + 1 : Nat) : Int) by omega]
  refine (BK (deep + 1) n k1 l n' j w10 HBL.out (by omega) H10.out (fun q hq => by have := HOK.out q hq; have := F10.out.size; omega)).mono ?_
  rintro e w11 ⟨A3, c3, rfl, hc3, hl4, hf, h, hr⟩
  have H11 := Lib.hid h
  have y10 := blk_lt S10.out
  have z10 : w.heap.size + 1 < w10.heap.size := by omega
  have R11 := Lib.hid (blk_fr R10.out hf (ps_far hbe hbp (by omega)))
  have S11 := Lib.hid (blk_fr S10.out hf (ps_far hbe hbp (by omega)))
  have F11 := Lib.hid (F10.out.trans hf)
  have X11 := Lib.hid (rows_keep X10.out hf (ps_lt (by omega) (by omega)) (Nat.le_refl _))
  have Y11 := Lib.hid hr
  clear hf h hr
  have sx := (cells_of S11.out).1 7 _ rfl
  have sf := (cells_of S11.out).2
  go_upto_region 20 with fail
  have hf : Fr (fun q => q = w.heap.size + 1) w11 (w11.setCell ⟨w.heap.size + 1, 7, none⟩ (.slice A3 l.length c3)) := (Fr.refl _ _).setCell _ _ (.inl rfl)
  have hs := blk_set S11.out 7 (.slice A3 l.length c3)
  have S12 := Lib.hid (show (w11.setCell ⟨w.heap.size + 1, 7, none⟩ (.slice A3 l.length c3)).heap[w.heap.size + 1]? = some (.cells #[(.int .u8 7), (.string nm), (.string ⟨#[]⟩), (.bool false), (.bool false), (.slice (some ⟨g, 0, none⟩) 1 1), (.slice none 0 0), (.slice A3 l.length c3), (.slice none 0 0)] 54 (0, 0)) from hs)
  have H12 := Lib.hid (H11.out.away hf (by omega) (by omega) (fun q hq e => by have e : q = w.heap.size + 1 := e; have := HOK.out q hq; omega))
  have R12 := Lib.hid (blk_fr R11.out hf (by omega))
  have F12 := Lib.hid (ps_new F11.out hf (by omega))
  have X12 := Lib.hid (rows_keep X11.out hf (fun k hk => by have hk : k = w.heap.size + 1 := hk; omega) (Nat.le_refl _))
  have Y12 := Lib.hid (rows_keep Y11.out hf (fun k hk => by have hk : k = w.heap.size + 1 := hk; omega) (Nat.le_refl _))
  generalize w11.setCell ⟨w.heap.size + 1, 7, none⟩ (.slice A3 l.length c3) = w12 at *
  clear sx sf hf hs
  have l0 := (cells_of S12.out).1 0 _ rfl
  have r0 := (cells_of R12.out).1 0 _ rfl
  have l1 := (cells_of S12.out).1 1 _ rfl
  have r1 := (cells_of R12.out).1 1 _ rfl
  have l2 := (cells_of S12.out).1 2 _ rfl
  have r2 := (cells_of R12.out).1 2 _ rfl
  have l3 := (cells_of S12.out).1 3 _ rfl
  have r3 := (cells_of R12.out).1 3 _ rfl
  have l4 := (cells_of S12.out).1 4 _ rfl
  have r4 := (cells_of R12.out).1 4 _ rfl
  have l5 := (cells_of S12.out).1 5 _ rfl
  have r5 := (cells_of R12.out).1 5 _ rfl
  have l6 := (cells_of S12.out).1 6 _ rfl
  have r6 := (cells_of R12.out).1 6 _ rfl
  have l7 := (cells_of S12.out).1 7 _ rfl
  have r7 := (cells_of R12.out).1 7 _ rfl
  have l8 := (cells_of S12.out).1 8 _ rfl
  have r8 := (cells_of R12.out).1 8 _ rfl
  have rf := (cells_of R12.out).2
  go_wp2_with fail
  have HZ := Lib.hid (blk_put9 R12.out (.int .u8 7) (.string nm) (.string ⟨#[]⟩) (.bool false) (.bool false) (.slice (some ⟨g, 0, none⟩) 1 1) (.slice none 0 0) (.slice A3 l.length c3) (.slice none 0 0))
  have HFZ := Lib.hid (fr_put9 (g := w.heap.size) (w := w12) (S := fun q => q = w.heap.size) rfl (.int .u8 7) (.string nm) (.string ⟨#[]⟩) (.bool false) (.bool false) (.slice (some ⟨g, 0, none⟩) 1 1) (.slice none 0 0) (.slice A3 l.length c3) (.slice none 0 0))
  generalize (((((((((w12.setCell ⟨w.heap.size, 0, none⟩ (.int .u8 7)).setCell ⟨w.heap.size, 1, none⟩ (.string nm)).setCell ⟨w.heap.size, 2, none⟩ (.string ⟨#[]⟩)).setCell ⟨w.heap.size, 3, none⟩ (.bool false)).setCell ⟨w.heap.size, 4, none⟩ (.bool false)).setCell ⟨w.heap.size, 5, none⟩ (.slice (some ⟨g, 0, none⟩) 1 1)).setCell ⟨w.heap.size, 6, none⟩ (.slice none 0 0)).setCell ⟨w.heap.size, 7, none⟩ (.slice A3 l.length c3)).setCell ⟨w.heap.size, 8, none⟩ (.slice none 0 0)) = wz at *
  clear l0 l1 l2 l3 l4 l5 l6 l7 l8 r0 r1 r2 r3 r4 r5 r6 r7 r8 rf
  have XZ := Lib.hid (rows_keep X12.out HFZ.out (fun k hk => by have hk : k = w.heap.size := hk; omega) (lo0 := w.heap.size) (by omega))
  have YZ := Lib.hid (rows_keep Y12.out HFZ.out (fun k hk => by have hk : k = w.heap.size := hk; omega) (lo0 := w.heap.size) (by omega))
  have f0 := (cells_of HZ.out).1 0 _ rfl
  have f1 := (cells_of HZ.out).1 1 _ rfl
  have f2 := (cells_of HZ.out).1 2 _ rfl
  have f3 := (cells_of HZ.out).1 3 _ rfl
  have f4 := (cells_of HZ.out).1 4 _ rfl
  have f5 := (cells_of HZ.out).1 5 _ rfl
  have f6 := (cells_of HZ.out).1 6 _ rfl
  have f7 := (cells_of HZ.out).1 7 _ rfl
  have f8 := (cells_of HZ.out).1 8 _ rfl
  refine bodyPost_ret (v := .tuple #[stV (.mk 7 nm nob false false [y] [] l []) (some ⟨g, 0, none⟩) none A3 none 1 0 c3 0, .bool true]) (by simp [results, Tryz.results104, go_sem, f0, f1, f2, f3, f4, f5, f6, f7, f8, stV, St.kind, St.name, St.frm, St.sec, St.mt, St.ex, St.args, St.body, St.els, nob]) rfl ⟨_, _, _, _, _, _, _, _, rfl, ps_new F12.out HFZ.out (Nat.le_refl _), H12.out.away HFZ.out (by omega) (by omega) (fun q hq e => by have e : q = w.heap.size := e; have := HOK.out q hq; omega), ?_⟩
  exact ⟨⟨Nat.le_refl 1, (by decide : 1 * 64 ≤ reach), XZ.out⟩, ⟨Nat.zero_le _, (by decide : 0 * 16 ≤ reach), trivial⟩, ⟨hc3, (by show l.length * 144 ≤ reach; unfold reach; omega), YZ.out⟩, ⟨Nat.zero_le _, (by decide : 0 * 144 ≤ reach), trivial⟩⟩
end Go.Proofs.YtfncbemligfloaaGreatDoor
/- Contracts of the reference's parser: statements and blocks. -/
namespace Go.Proofs.YtfncbemligfloaaGreatDoor
open Go.RowKit
set_option linter.unusedVariables false
set_option linter.unusedSimpArgs false
theorem StRd.keep {lo : Nat} {w w' : World} {s : St} {A1 A2 A3 A4 : Option Addr} {c1 c2 c3 c4 : Nat} (h : StRd (New lo w) w s A1 A2 A3 A4 c1 c2 c3 c4) (hf : Fr Non w w') : StRd (New lo w') w' s A1 A2 A3 A4 c1 c2 c3 c4 :=
  ⟨⟨h.ex.1, h.ex.2.1, rows_keep h.ex.2.2 hf (fun _ h => h.elim) (Nat.le_refl _)⟩, ⟨h.args.1, h.args.2.1, rows_keep h.args.2.2 hf (fun _ h => h.elim) (Nat.le_refl _)⟩, ⟨h.body.1, h.body.2.1, rows_keep h.body.2.2 hf (fun _ h => h.elim) (Nat.le_refl _)⟩, ⟨h.els.1, h.els.2.1, rows_keep h.els.2.2 hf (fun _ h => h.elim) (Nat.le_refl _)⟩⟩
theorem StRd.keepS {lo lo0 : Nat} {w w' : World} {s : St} {A1 A2 A3 A4 : Option Addr} {c1 c2 c3 c4 : Nat} {S : Nat → Prop} (h : StRd (New lo w) w s A1 A2 A3 A4 c1 c2 c3 c4) (hf : Fr S w w') (hs : ∀ k, S k → k < lo) (hl : lo0 ≤ lo) : StRd (New lo0 w') w' s A1 A2 A3 A4 c1 c2 c3 c4 :=
  ⟨⟨h.ex.1, h.ex.2.1, rows_keep h.ex.2.2 hf hs hl⟩, ⟨h.args.1, h.args.2.1, rows_keep h.args.2.2 hf hs hl⟩, ⟨h.body.1, h.body.2.1, rows_keep h.body.2.2 hf hs hl⟩, ⟨h.els.1, h.els.2.1, rows_keep h.els.2.2 hf hs hl⟩⟩
theorem PsAt.inc {ok : Nat → Prop} {ts : List Tk} {A : Option Addr} {c be bp : Nat} {w : World} {i n : Nat} (h : PsAt ok ts A c be bp w i n) :
    PsAt ok ts A c be bp (w.setCell ⟨bp, 1, none⟩ (.int .i64 ((n : Int) + 1))) i (n + 1) ∧ Fr (PS be bp) w (w.setCell ⟨bp, 1, none⟩ (.int .i64 ((n : Int) + 1))) := by
  have hf : Fr (fun k => k = bp) w (w.setCell ⟨bp, 1, none⟩ (.int .i64 ((n : Int) + 1))) := (Fr.refl _ _).setCell _ _ (.inl rfl)
  exact ⟨⟨h.eye.fr hf h.ne (fun q hq => h.okp q hq), by have := blk_set h.blk 1 (.int .i64 ((n : Int) + 1)); exact this, h.ne, h.okp⟩, hf.mono fun _ _ e => .inr e⟩

set_option maxRecDepth 100000 in
set_option maxHeartbeats 4000000 in
theorem pstmt_of (ok : Nat → Prop) (ts : List Tk) (A : Option Addr) (c be bp f : Nat) (BK : BlkC ok ts A c be bp f) : StmC ok ts A c be bp (f + 1) := by
  intro deep n i x n' j w hx h hok
  rw [stP] at hx
  split at hx
  case isFalse => cases hx
  case isTrue hc =>
  obtain ⟨hd, hn, hi⟩ := hc
  have hbe := blk_lt h.eye.blk
  have hbp := blk_lt h.blk
  obtain ⟨W1, HW1⟩ : ∃ W1, W1 = w.alloc (.cells #[.int .u8 0, .string ⟨#[]⟩, .string ⟨#[]⟩, .bool false, .bool false, .slice none 0 0, .slice none 0 0, .slice none 0 0, .slice none 0 0] 54) := ⟨_, rfl⟩
  have hf1 : Fr Non w W1 := by rw [HW1]; exact (fr_refl w).alloc _
  have R1 := Lib.hid (show W1.heap[w.heap.size]? = some (.cells #[.int .u8 0, .string ⟨#[]⟩, .string ⟨#[]⟩, .bool false, .bool false, .slice none 0 0, .slice none 0 0, .slice none 0 0, .slice none 0 0] 54 (0, 0)) by rw [HW1]; exact blk_new _ _ _)
  have H1 := Lib.hid (h.stay hf1); clear h
  have F1 := Lib.hid (show Fr (PS be bp) w W1 from hf1.non); clear hf1
  have HOK := Lib.hid hok; clear hok
  have HX := Lib.hid hx; clear hx
  have hdd : decide ((40 : Int) < (deep : Int)) = false := decide_eq_false (by omega)
  have hnn : ((n : Int) == 400) = false := by rw [beq_eq_false_iff_ne]; omega
  have p1 := (cells_of H1.out.blk).1 1 _ rfl
  have pf := (cells_of H1.out.blk).2
  go_enter Tryz.func96, Tryz.ntmps96
  go_upto_region 1 with fail
  rw [← HW1]; clear HW1
  go_upto_region 6 with fail
  have hinc := H1.out.inc
  have H2 := Lib.hid hinc.1
  have R2 := Lib.hid (blk_fr R1.out hinc.2 (ps_far hbe hbp (by omega)))
  have F2 := Lib.hid (F1.out.trans hinc.2)
  generalize W1.setCell ⟨bp, 1, none⟩ (.int .i64 ((n : Int) + 1)) = w2 at *
  clear hinc p1 pf
  have hz2 : w.heap.size < w2.heap.size := blk_lt R2.out
  have HOK2 := Lib.hid (show ∀ q, ok q → q < w2.heap.size from fun q hq => by have := HOK.out q hq; omega)
  cases t1 : tkK ts 2 wIf i with
  | true =>
    have hx := HX.out
    rw [t1, if_pos rfl] at hx
    cases he : exprP ts (i + 1) with
    | none => rw [he] at hx; cases hx
    | some r =>
    obtain ⟨y, k1⟩ := r
    rw [he, Option.bind_some] at hx
    cases hb : blP ts f (deep + 1) (n + 1) k1 with
    | none => simp only [hb] at hx; cases hx
    | some r2 =>
    obtain ⟨l, n2, j2⟩ := r2
    simp only [hb, Option.bind_some] at hx
    split at hx
    case isFalse => cases hx
    case isTrue hq =>
    obtain ⟨hj, t2⟩ := hq
    simp only [Option.some.injEq, Prod.mk.injEq] at hx
    obtain ⟨rfl, rfl, rfl⟩ := hx
    have HC := Lib.hid (blocks_if ok ts A c be bp f BK w2 i (n + 1) deep H2.out HOK2.out hi hd y k1 l n2 j2 t1 he hb hj t2)
    clear t1 he hb t2 HX
    go_wp2_with fail
    refine (HC.out).mono ?_
    rintro e w3 ⟨A1, A2, A3, A4, c1, c2, c3, c4, rfl, hf, h, hr⟩
    have H3 := Lib.hid h
    have R3 := Lib.hid (blk_fr R2.out hf (ps_far hbe hbp (by omega)))
    have F3 := Lib.hid (F2.out.trans hf)
    have X3 := Lib.hid hr
    have hz3 := hf.size
    clear hf h hr
    obtain ⟨W4, HW4⟩ : ∃ W4, W4 = w3.alloc (.cells #[(.int .u8 5), (.string ⟨#[]⟩), (.string ⟨#[]⟩), (.bool false), (.bool false), (.slice A1 1 c1), (.slice A2 0 c2), (.slice A3 l.length c3), (.slice A4 0 c4)] 54) := ⟨_, rfl⟩
    have hf : Fr Non w3 W4 := by rw [HW4]; exact (fr_refl _).alloc _
    have S4 := Lib.hid (show W4.heap[w3.heap.size]? = some (.cells #[(.int .u8 5), (.string ⟨#[]⟩), (.string ⟨#[]⟩), (.bool false), (.bool false), (.slice A1 1 c1), (.slice A2 0 c2), (.slice A3 l.length c3), (.slice A4 0 c4)] 54 (0, 0)) by rw [HW4]; exact blk_new _ _ _)
    have H4 := Lib.hid (H3.out.stay hf)
    have R4 := Lib.hid (blk_fr R3.out hf (non _))
    have F4 := Lib.hid (F3.out.trans hf.non)
    have X4 := Lib.hid (show StRd (New w2.heap.size W4) W4 (.mk 5 nob nob false false [y] [] l []) A1 A2 A3 A4 c1 c2 c3 c4 from X3.out.keep hf)
    have hz4 := hf.size
    clear hf
    rw [show stV (.mk 5 nob nob false false [y] [] l []) A1 A2 A3 A4 c1 c2 c3 c4 = .agg #[(.int .u8 5), (.string ⟨#[]⟩), (.string ⟨#[]⟩), (.bool false), (.bool false), (.slice A1 1 c1), (.slice A2 0 c2), (.slice A3 l.length c3), (.slice A4 0 c4)] from rfl]
    go_upto_region 7 with fail
    rw [← HW4]; clear HW4
    have l0 := (cells_of S4.out).1 0 _ rfl
    have r0 := (cells_of R4.out).1 0 _ rfl
    have l1 := (cells_of S4.out).1 1 _ rfl
    have r1 := (cells_of R4.out).1 1 _ rfl
    have l2 := (cells_of S4.out).1 2 _ rfl
    have r2 := (cells_of R4.out).1 2 _ rfl
    have l3 := (cells_of S4.out).1 3 _ rfl
    have r3 := (cells_of R4.out).1 3 _ rfl
    have l4 := (cells_of S4.out).1 4 _ rfl
    have r4 := (cells_of R4.out).1 4 _ rfl
    have l5 := (cells_of S4.out).1 5 _ rfl
    have r5 := (cells_of R4.out).1 5 _ rfl
    have l6 := (cells_of S4.out).1 6 _ rfl
    have r6 := (cells_of R4.out).1 6 _ rfl
    have l7 := (cells_of S4.out).1 7 _ rfl
    have r7 := (cells_of R4.out).1 7 _ rfl
    have l8 := (cells_of S4.out).1 8 _ rfl
    have r8 := (cells_of R4.out).1 8 _ rfl
    have rf := (cells_of R4.out).2
    go_wp2_with fail
    clear l0 l1 l2 l3 l4 l5 l6 l7 l8 r0 r1 r2 r3 r4 r5 r6 r7 r8 rf
    have HZ := Lib.hid (blk_put9 R4.out (.int .u8 5) (.string ⟨#[]⟩) (.string ⟨#[]⟩) (.bool false) (.bool false) (.slice A1 1 c1) (.slice A2 0 c2) (.slice A3 l.length c3) (.slice A4 0 c4))
    have HFZ := Lib.hid (fr_put9 (g := w.heap.size) (w := W4) (S := fun q => q = w.heap.size) rfl (.int .u8 5) (.string ⟨#[]⟩) (.string ⟨#[]⟩) (.bool false) (.bool false) (.slice A1 1 c1) (.slice A2 0 c2) (.slice A3 l.length c3) (.slice A4 0 c4))
    generalize (((((((((W4.setCell ⟨w.heap.size, 0, none⟩ (.int .u8 5)).setCell ⟨w.heap.size, 1, none⟩ (.string ⟨#[]⟩)).setCell ⟨w.heap.size, 2, none⟩ (.string ⟨#[]⟩)).setCell ⟨w.heap.size, 3, none⟩ (.bool false)).setCell ⟨w.heap.size, 4, none⟩ (.bool false)).setCell ⟨w.heap.size, 5, none⟩ (.slice A1 1 c1)).setCell ⟨w.heap.size, 6, none⟩ (.slice A2 0 c2)).setCell ⟨w.heap.size, 7, none⟩ (.slice A3 l.length c3)).setCell ⟨w.heap.size, 8, none⟩ (.slice A4 0 c4)) = wz at *
    have f0 := (cells_of HZ.out).1 0 _ rfl
    have f1 := (cells_of HZ.out).1 1 _ rfl
    have f2 := (cells_of HZ.out).1 2 _ rfl
    have f3 := (cells_of HZ.out).1 3 _ rfl
    have f4 := (cells_of HZ.out).1 4 _ rfl
    have f5 := (cells_of HZ.out).1 5 _ rfl
    have f6 := (cells_of HZ.out).1 6 _ rfl
    have f7 := (cells_of HZ.out).1 7 _ rfl
    have f8 := (cells_of HZ.out).1 8 _ rfl
    refine bodyPost_ret (v := stV (.mk 5 nob nob false false [y] [] l []) A1 A2 A3 A4 c1 c2 c3 c4) (by simp [results, Tryz.results96, go_sem, f0, f1, f2, f3, f4, f5, f6, f7, f8, stV, St.kind, St.name, St.frm, St.sec, St.mt, St.ex, St.args, St.body, St.els, nob]) rfl ⟨A1, A2, A3, A4, c1, c2, c3, c4, rfl, ps_new F4.out HFZ.out (Nat.le_refl _), H4.out.away HFZ.out (by omega) (by omega) (fun q hq e => by have e : q = w.heap.size := e; have := HOK.out q hq; omega), X4.out.keepS HFZ.out (fun k hk => by have hk : k = w.heap.size := hk; omega) (by omega)⟩
  | false =>
  cases t2 : tkK ts 2 wWhile i with
  | true => have hx := HX.out; rw [t1, t2] at hx; cases hx
  | false =>
  cases t3 : tkK ts 2 wFor i with
  | true =>
    have hx := HX.out
    rw [t1, t2, t3, if_neg Bool.false_ne_true, if_neg Bool.false_ne_true, if_pos rfl] at hx
    split at hx
    case isFalse => cases hx
    case isTrue hq =>
    obtain ⟨hi1, hnm, hi2, t4⟩ := hq
    cases he : exprP ts (i + 3) with
    | none => rw [he] at hx; cases hx
    | some r =>
    obtain ⟨y, k1⟩ := r
    rw [he, Option.bind_some] at hx
    cases hb : blP ts f (deep + 1) (n + 1) k1 with
    | none => simp only [hb] at hx; cases hx
    | some r2 =>
    obtain ⟨l, n2, j2⟩ := r2
    simp only [hb, Option.map_some, Option.some.injEq, Prod.mk.injEq] at hx
    obtain ⟨rfl, rfl, rfl⟩ := hx
    have HNQ := Lib.hid (show (ts.getD (i + 1) Tk.zero).text = ts[i + 1].text by rw [getD_at hi1])
    rw [getD_at hi1] at hnm
    have HC := Lib.hid (blocks_for ok ts A c be bp f BK w2 i (n + 1) deep H2.out HOK2.out hi hd y k1 l n2 j2 ts[i + 1].text t1 t2 t3 hi1 hnm rfl hi2 t4 he hb)
    generalize ts[i + 1].text = nm at *
    clear t1 t2 t3 t4 he hb hnm HX
    go_wp2_with fail
    refine (HC.out).mono ?_
    rintro e w3 ⟨A1, A2, A3, A4, c1, c2, c3, c4, rfl, hf, h, hr⟩
    have H3 := Lib.hid h
    have R3 := Lib.hid (blk_fr R2.out hf (ps_far hbe hbp (by omega)))
    have F3 := Lib.hid (F2.out.trans hf)
    have X3 := Lib.hid hr
    have hz3 := hf.size
    clear hf h hr
    obtain ⟨W4, HW4⟩ : ∃ W4, W4 = w3.alloc (.cells #[(.int .u8 7), (.string nm), (.string ⟨#[]⟩), (.bool false), (.bool false), (.slice A1 1 c1), (.slice A2 0 c2), (.slice A3 l.length c3), (.slice A4 0 c4)] 54) := ⟨_, rfl⟩
    have hf : Fr Non w3 W4 := by rw [HW4]; exact (fr_refl _).alloc _
    have S4 := Lib.hid (show W4.heap[w3.heap.size]? = some (.cells #[(.int .u8 7), (.string nm), (.string ⟨#[]⟩), (.bool false), (.bool false), (.slice A1 1 c1), (.slice A2 0 c2), (.slice A3 l.length c3), (.slice A4 0 c4)] 54 (0, 0)) by rw [HW4]; exact blk_new _ _ _)
    have H4 := Lib.hid (H3.out.stay hf)
    have R4 := Lib.hid (blk_fr R3.out hf (non _))
    have F4 := Lib.hid (F3.out.trans hf.non)
    have X4 := Lib.hid (show StRd (New w2.heap.size W4) W4 (.mk 7 nm nob false false [y] [] l []) A1 A2 A3 A4 c1 c2 c3 c4 from X3.out.keep hf)
    have hz4 := hf.size
    clear hf
    rw [show stV (.mk 7 nm nob false false [y] [] l []) A1 A2 A3 A4 c1 c2 c3 c4 = .agg #[(.int .u8 7), (.string nm), (.string ⟨#[]⟩), (.bool false), (.bool false), (.slice A1 1 c1), (.slice A2 0 c2), (.slice A3 l.length c3), (.slice A4 0 c4)] from rfl]
    go_upto_region 7 with fail
    rw [← HW4]; clear HW4
    have l0 := (cells_of S4.out).1 0 _ rfl
    have r0 := (cells_of R4.out).1 0 _ rfl
    have l1 := (cells_of S4.out).1 1 _ rfl
    have r1 := (cells_of R4.out).1 1 _ rfl
    have l2 := (cells_of S4.out).1 2 _ rfl
    have r2 := (cells_of R4.out).1 2 _ rfl
    have l3 := (cells_of S4.out).1 3 _ rfl
    have r3 := (cells_of R4.out).1 3 _ rfl
    have l4 := (cells_of S4.out).1 4 _ rfl
    have r4 := (cells_of R4.out).1 4 _ rfl
    have l5 := (cells_of S4.out).1 5 _ rfl
    have r5 := (cells_of R4.out).1 5 _ rfl
    have l6 := (cells_of S4.out).1 6 _ rfl
    have r6 := (cells_of R4.out).1 6 _ rfl
    have l7 := (cells_of S4.out).1 7 _ rfl
    have r7 := (cells_of R4.out).1 7 _ rfl
    have l8 := (cells_of S4.out).1 8 _ rfl
    have r8 := (cells_of R4.out).1 8 _ rfl
    have rf := (cells_of R4.out).2
    go_wp2_with fail
    clear l0 l1 l2 l3 l4 l5 l6 l7 l8 r0 r1 r2 r3 r4 r5 r6 r7 r8 rf
    have HZ := Lib.hid (blk_put9 R4.out (.int .u8 7) (.string nm) (.string ⟨#[]⟩) (.bool false) (.bool false) (.slice A1 1 c1) (.slice A2 0 c2) (.slice A3 l.length c3) (.slice A4 0 c4))
    have HFZ := Lib.hid (fr_put9 (g := w.heap.size) (w := W4) (S := fun q => q = w.heap.size) rfl (.int .u8 7) (.string nm) (.string ⟨#[]⟩) (.bool false) (.bool false) (.slice A1 1 c1) (.slice A2 0 c2) (.slice A3 l.length c3) (.slice A4 0 c4))
    generalize (((((((((W4.setCell ⟨w.heap.size, 0, none⟩ (.int .u8 7)).setCell ⟨w.heap.size, 1, none⟩ (.string nm)).setCell ⟨w.heap.size, 2, none⟩ (.string ⟨#[]⟩)).setCell ⟨w.heap.size, 3, none⟩ (.bool false)).setCell ⟨w.heap.size, 4, none⟩ (.bool false)).setCell ⟨w.heap.size, 5, none⟩ (.slice A1 1 c1)).setCell ⟨w.heap.size, 6, none⟩ (.slice A2 0 c2)).setCell ⟨w.heap.size, 7, none⟩ (.slice A3 l.length c3)).setCell ⟨w.heap.size, 8, none⟩ (.slice A4 0 c4)) = wz at *
    have f0 := (cells_of HZ.out).1 0 _ rfl
    have f1 := (cells_of HZ.out).1 1 _ rfl
    have f2 := (cells_of HZ.out).1 2 _ rfl
    have f3 := (cells_of HZ.out).1 3 _ rfl
    have f4 := (cells_of HZ.out).1 4 _ rfl
    have f5 := (cells_of HZ.out).1 5 _ rfl
    have f6 := (cells_of HZ.out).1 6 _ rfl
    have f7 := (cells_of HZ.out).1 7 _ rfl
    have f8 := (cells_of HZ.out).1 8 _ rfl
    rw [HNQ.out]
    refine bodyPost_ret (v := stV (.mk 7 nm nob false false [y] [] l []) A1 A2 A3 A4 c1 c2 c3 c4) (by simp [results, Tryz.results96, go_sem, f0, f1, f2, f3, f4, f5, f6, f7, f8, stV, St.kind, St.name, St.frm, St.sec, St.mt, St.ex, St.args, St.body, St.els, nob]) rfl ⟨A1, A2, A3, A4, c1, c2, c3, c4, rfl, ps_new F4.out HFZ.out (Nat.le_refl _), H4.out.away HFZ.out (by omega) (by omega) (fun q hq e => by have e : q = w.heap.size := e; have := HOK.out q hq; omega), X4.out.keepS HFZ.out (fun k hk => by have hk : k = w.heap.size := hk; omega) (by omega)⟩
  | false =>
  cases t4 : tkK ts 2 wView i with
  | true => have hx := HX.out; rw [t1, t2, t3, t4] at hx; cases hx
  | false =>
  cases t5 : tkK ts 2 wEdit i with
  | true => have hx := HX.out; rw [t1, t2, t3, t4, t5] at hx; cases hx
  | false =>
  have HC := Lib.hid (blocks_none ok ts A c be bp w2 i (n + 1) deep H2.out HOK2.out hi t1 t2 t3 t4 t5)
  have hx := HX.out
  rw [t1, t2, t3, t4, t5, if_neg Bool.false_ne_true, if_neg Bool.false_ne_true, if_neg Bool.false_ne_true, Bool.false_or, if_neg Bool.false_ne_true] at hx
  have HX2 := Lib.hid hx
  clear hx HX t1 t2 t3 t4 t5
  go_wp2_with fail
  refine HC.out.mono ?_
  rintro e w3 ⟨rfl, hf, h⟩
  have H3 := Lib.hid h
  have R3 := Lib.hid (blk_fr R2.out hf (ps_far hbe hbp (by omega)))
  have F3 := Lib.hid (F2.out.trans hf)
  have hz3 := hf.size
  clear hf h
  obtain ⟨W4, HW4⟩ : ∃ W4, W4 = w3.alloc (.cells #[.int .u8 0, .string ⟨#[]⟩, .string ⟨#[]⟩, .bool false, .bool false, .slice none 0 0, .slice none 0 0, .slice none 0 0, .slice none 0 0] 54) := ⟨_, rfl⟩
  have hf : Fr Non w3 W4 := by rw [HW4]; exact (fr_refl _).alloc _
  have S4 := Lib.hid (show W4.heap[w3.heap.size]? = some (.cells #[.int .u8 0, .string ⟨#[]⟩, .string ⟨#[]⟩, .bool false, .bool false, .slice none 0 0, .slice none 0 0, .slice none 0 0, .slice none 0 0] 54 (0, 0)) by rw [HW4]; exact blk_new _ _ _)
  have H4 := Lib.hid (H3.out.stay hf)
  have R4 := Lib.hid (blk_fr R3.out hf (non _))
  have F4 := Lib.hid (F3.out.trans hf.non)
  have hz4 := hf.size
  clear hf
  go_upto_region 7 with fail
  rw [← HW4]; clear HW4
  go_wp2_with fail
  refine (pfine_any ok ts A c be bp W4 i (n + 1) H4.out).mono ?_
  rintro e wq ⟨rfl, rfl⟩
  cases t6 : tkK ts 2 wLet i with
  | true =>
    have hx := HX2.out
    rw [t6, if_pos rfl] at hx
    split at hx
    case isFalse => cases hx
    case isTrue hq =>
    obtain ⟨hi1, t7, hnm, hi2, t8⟩ := hq
    cases he : exprP ts (i + 3) with
    | none => rw [he] at hx; cases hx
    | some r =>
    obtain ⟨y, k1⟩ := r
    rw [he, Option.bind_some] at hx
    split at hx
    case isFalse => cases hx
    case isTrue hq2 =>
    obtain ⟨hk1, t9⟩ := hq2
    simp only [Option.some.injEq, Prod.mk.injEq] at hx
    obtain ⟨rfl, rfl, rfl⟩ := hx
    have HNQ := Lib.hid (show (ts.getD (i + 1) Tk.zero).text = ts[i + 1].text by rw [getD_at hi1])
    rw [getD_at hi1] at hnm
    have HNM := Lib.hid hnm
    have T6 := Lib.hid t6; have T7 := Lib.hid t7; have T8 := Lib.hid t8; have T9 := Lib.hid t9
    have HE := Lib.hid he
    clear t6 t7 t8 t9 he hnm HX2
    go_wp2_with fail
    refine (eword_any ok ts A c be bp W4 (i) (n + 1) ⟨#[108, 101, 116]⟩ H4.out hi).mono ?_
    rintro e w5 ⟨rfl, hf, h⟩
    rw [show tkK ts 2 ⟨#[108, 101, 116]⟩ (i) = true from T6.out]
    rw [eyeI_t (show tkK ts 2 ⟨#[108, 101, 116]⟩ (i) = true from T6.out)] at h
    have H5 := Lib.hid h
    have R5 := Lib.hid (blk_fr R4.out hf (ps_far hbe hbp (by omega)))
    have S5 := Lib.hid (blk_fr S4.out hf (ps_far hbe hbp (by omega)))
    have F5 := Lib.hid (F4.out.trans hf)
    clear hf h
    have sx := (cells_of S5.out).1 0 _ rfl
    have sf := (cells_of S5.out).2
    go_upto_region 12 with fail
    have hf : Fr (fun q => q = w3.heap.size) w5 (w5.setCell ⟨w3.heap.size, 0, none⟩ (.int .u8 1)) := (Fr.refl _ _).setCell _ _ (.inl rfl)
    have hs := blk_set S5.out 0 (.int .u8 1)
    have S6 := Lib.hid (show (w5.setCell ⟨w3.heap.size, 0, none⟩ (.int .u8 1)).heap[w3.heap.size]? = some (.cells #[(.int .u8 1), (.string ⟨#[]⟩), (.string ⟨#[]⟩), (.bool false), (.bool false), (.slice none 0 0), (.slice none 0 0), (.slice none 0 0), (.slice none 0 0)] 54 (0, 0)) from hs)
    have H6 := Lib.hid (H5.out.away hf (by omega) (by omega) (fun q hq e => by have e : q = w3.heap.size := e; have := HOK.out q hq; omega))
    have R6 := Lib.hid (blk_fr R5.out hf (by omega))
    have F6 := Lib.hid (ps_new F5.out hf (by omega))
    generalize w5.setCell ⟨w3.heap.size, 0, none⟩ (.int .u8 1) = w6 at *
    clear sx sf hf hs
    go_wp2_with fail
    refine (eword_any ok ts A c be bp w6 (i + 1) (n + 1) ⟨#[115, 101, 99, 114, 101, 116]⟩ H6.out hi1).mono ?_
    rintro e w7 ⟨rfl, hf, h⟩
    rw [show tkK ts 2 ⟨#[115, 101, 99, 114, 101, 116]⟩ (i + 1) = false from T7.out]
    rw [eyeI_f (show tkK ts 2 ⟨#[115, 101, 99, 114, 101, 116]⟩ (i + 1) = false from T7.out)] at h
    have H7 := Lib.hid h
    have R7 := Lib.hid (blk_fr R6.out hf (ps_far hbe hbp (by omega)))
    have S7 := Lib.hid (blk_fr S6.out hf (ps_far hbe hbp (by omega)))
    have F7 := Lib.hid (F6.out.trans hf)
    clear hf h
    have sx := (cells_of S7.out).1 3 _ rfl
    have sf := (cells_of S7.out).2
    go_upto_region 13 with fail
    have hf : Fr (fun q => q = w3.heap.size) w7 (w7.setCell ⟨w3.heap.size, 3, none⟩ (.bool false)) := (Fr.refl _ _).setCell _ _ (.inl rfl)
    have hs := blk_set S7.out 3 (.bool false)
    have S8 := Lib.hid (show (w7.setCell ⟨w3.heap.size, 3, none⟩ (.bool false)).heap[w3.heap.size]? = some (.cells #[(.int .u8 1), (.string ⟨#[]⟩), (.string ⟨#[]⟩), (.bool false), (.bool false), (.slice none 0 0), (.slice none 0 0), (.slice none 0 0), (.slice none 0 0)] 54 (0, 0)) from hs)
    have H8 := Lib.hid (H7.out.away hf (by omega) (by omega) (fun q hq e => by have e : q = w3.heap.size := e; have := HOK.out q hq; omega))
    have R8 := Lib.hid (blk_fr R7.out hf (by omega))
    have F8 := Lib.hid (ps_new F7.out hf (by omega))
    generalize w7.setCell ⟨w3.heap.size, 3, none⟩ (.bool false) = w8 at *
    clear sx sf hf hs
    have p0 := (cells_of H8.out.blk).1 0 _ rfl
    go_wp2_with fail
    refine (ename_any ok ts A c be w8 (i + 1) H8.out.eye hi1 HNM.out).mono ?_
    rintro e w9 ⟨rfl, hf1, h⟩
    have H9 := Lib.hid (H8.out.moved hf1 h)
    have hf := eye_ps (bp := bp) hf1
    have R9 := Lib.hid (blk_fr R8.out hf (ps_far hbe hbp (by omega)))
    have S9 := Lib.hid (blk_fr S8.out hf (ps_far hbe hbp (by omega)))
    have F9 := Lib.hid (F8.out.trans hf)
    clear hf hf1 h p0
    generalize ts[i + 1].text = nm at *
    have sx := (cells_of S9.out).1 1 _ rfl
    have sf := (cells_of S9.out).2
    go_upto_region 14 with fail
    have hf : Fr (fun q => q = w3.heap.size) w9 (w9.setCell ⟨w3.heap.size, 1, none⟩ (.string nm)) := (Fr.refl _ _).setCell _ _ (.inl rfl)
    have hs := blk_set S9.out 1 (.string nm)
    have S10 := Lib.hid (show (w9.setCell ⟨w3.heap.size, 1, none⟩ (.string nm)).heap[w3.heap.size]? = some (.cells #[(.int .u8 1), (.string nm), (.string ⟨#[]⟩), (.bool false), (.bool false), (.slice none 0 0), (.slice none 0 0), (.slice none 0 0), (.slice none 0 0)] 54 (0, 0)) from hs)
    have H10 := Lib.hid (H9.out.away hf (by omega) (by omega) (fun q hq e => by have e : q = w3.heap.size := e; have := HOK.out q hq; omega))
    have R10 := Lib.hid (blk_fr R9.out hf (by omega))
    have F10 := Lib.hid (ps_new F9.out hf (by omega))
    generalize w9.setCell ⟨w3.heap.size, 1, none⟩ (.string nm) = w10 at *
    clear sx sf hf hs
    have p0 := (cells_of H10.out.blk).1 0 _ rfl
    go_wp2_with fail
    refine (need_any ok ts A c be w10 (i + 1 + 1) ⟨#[61]⟩ H10.out.eye hi2 T8.out).mono ?_
    rintro e w11 ⟨rfl, hf1, h⟩
    have H11 := Lib.hid (H10.out.moved hf1 h)
    have hf := eye_ps (bp := bp) hf1
    have R11 := Lib.hid (blk_fr R10.out hf (ps_far hbe hbp (by omega)))
    have S11 := Lib.hid (blk_fr S10.out hf (ps_far hbe hbp (by omega)))
    have F11 := Lib.hid (F10.out.trans hf)
    clear hf hf1 h p0
    go_wp2_with fail
    refine (eexprs_any ok ts A c be bp w11 (i + 1 + 1 + 1) (n + 1) y k1 H11.out HE.out (fun q hq => by have := HOK.out q hq; have := F11.out.size; omega)).mono ?_
    rintro e w12 ⟨g, rfl, hf, h, hr⟩
    have H12 := Lib.hid h
    have y11 := blk_lt S11.out
    have z11 : w.heap.size + 1 < w11.heap.size := by omega
    have R12 := Lib.hid (blk_fr R11.out hf (ps_far hbe hbp (by omega)))
    have S12 := Lib.hid (blk_fr S11.out hf (ps_far hbe hbp (by omega)))
    have F12 := Lib.hid (F11.out.trans hf)
    have X12 := Lib.hid hr
    clear hf h hr
    have sx := (cells_of S12.out).1 5 _ rfl
    have sf := (cells_of S12.out).2
    go_upto_region 37 with fail
    have hf : Fr (fun q => q = w3.heap.size) w12 (w12.setCell ⟨w3.heap.size, 5, none⟩ (.slice (some ⟨g, 0, none⟩) 1 1)) := (Fr.refl _ _).setCell _ _ (.inl rfl)
    have hs := blk_set S12.out 5 (.slice (some ⟨g, 0, none⟩) 1 1)
    have S13 := Lib.hid (show (w12.setCell ⟨w3.heap.size, 5, none⟩ (.slice (some ⟨g, 0, none⟩) 1 1)).heap[w3.heap.size]? = some (.cells #[(.int .u8 1), (.string nm), (.string ⟨#[]⟩), (.bool false), (.bool false), (.slice (some ⟨g, 0, none⟩) 1 1), (.slice none 0 0), (.slice none 0 0), (.slice none 0 0)] 54 (0, 0)) from hs)
    have H13 := Lib.hid (H12.out.away hf (by omega) (by omega) (fun q hq e => by have e : q = w3.heap.size := e; have := HOK.out q hq; omega))
    have R13 := Lib.hid (blk_fr R12.out hf (by omega))
    have F13 := Lib.hid (ps_new F12.out hf (by omega))
    have X13 := Lib.hid (rows_keep X12.out hf (fun k hk => by have hk : k = w3.heap.size := hk; omega) (Nat.le_refl _))
    generalize w12.setCell ⟨w3.heap.size, 5, none⟩ (.slice (some ⟨g, 0, none⟩) 1 1) = w13 at *
    clear sx sf hf hs
    have p0 := (cells_of H13.out.blk).1 0 _ rfl
    go_wp2_with fail
    refine (need_any ok ts A c be w13 k1 ⟨#[59]⟩ H13.out.eye hk1 T9.out).mono ?_
    rintro e w14 ⟨rfl, hf1, h⟩
    have H14 := Lib.hid (H13.out.moved hf1 h)
    have hf := eye_ps (bp := bp) hf1
    have R14 := Lib.hid (blk_fr R13.out hf (ps_far hbe hbp (by omega)))
    have S14 := Lib.hid (blk_fr S13.out hf (ps_far hbe hbp (by omega)))
    have F14 := Lib.hid (F13.out.trans hf)
    have X14 := Lib.hid (rows_keep X13.out hf (ps_lt (by omega) (by omega)) (Nat.le_refl _))
    clear hf hf1 h p0
    have l0 := (cells_of S14.out).1 0 _ rfl
    have r0 := (cells_of R14.out).1 0 _ rfl
    have l1 := (cells_of S14.out).1 1 _ rfl
    have r1 := (cells_of R14.out).1 1 _ rfl
    have l2 := (cells_of S14.out).1 2 _ rfl
    have r2 := (cells_of R14.out).1 2 _ rfl
    have l3 := (cells_of S14.out).1 3 _ rfl
    have r3 := (cells_of R14.out).1 3 _ rfl
    have l4 := (cells_of S14.out).1 4 _ rfl
    have r4 := (cells_of R14.out).1 4 _ rfl
    have l5 := (cells_of S14.out).1 5 _ rfl
    have r5 := (cells_of R14.out).1 5 _ rfl
    have l6 := (cells_of S14.out).1 6 _ rfl
    have r6 := (cells_of R14.out).1 6 _ rfl
    have l7 := (cells_of S14.out).1 7 _ rfl
    have r7 := (cells_of R14.out).1 7 _ rfl
    have l8 := (cells_of S14.out).1 8 _ rfl
    have r8 := (cells_of R14.out).1 8 _ rfl
    have rf := (cells_of R14.out).2
    go_wp2_with fail
    have HZ := Lib.hid (blk_put9 R14.out (.int .u8 1) (.string nm) (.string ⟨#[]⟩) (.bool false) (.bool false) (.slice (some ⟨g, 0, none⟩) 1 1) (.slice none 0 0) (.slice none 0 0) (.slice none 0 0))
    have HFZ := Lib.hid (fr_put9 (g := w.heap.size) (w := w14) (S := fun q => q = w.heap.size) rfl (.int .u8 1) (.string nm) (.string ⟨#[]⟩) (.bool false) (.bool false) (.slice (some ⟨g, 0, none⟩) 1 1) (.slice none 0 0) (.slice none 0 0) (.slice none 0 0))
    generalize (((((((((w14.setCell ⟨w.heap.size, 0, none⟩ (.int .u8 1)).setCell ⟨w.heap.size, 1, none⟩ (.string nm)).setCell ⟨w.heap.size, 2, none⟩ (.string ⟨#[]⟩)).setCell ⟨w.heap.size, 3, none⟩ (.bool false)).setCell ⟨w.heap.size, 4, none⟩ (.bool false)).setCell ⟨w.heap.size, 5, none⟩ (.slice (some ⟨g, 0, none⟩) 1 1)).setCell ⟨w.heap.size, 6, none⟩ (.slice none 0 0)).setCell ⟨w.heap.size, 7, none⟩ (.slice none 0 0)).setCell ⟨w.heap.size, 8, none⟩ (.slice none 0 0)) = wz at *
    clear l0 l1 l2 l3 l4 l5 l6 l7 l8 r0 r1 r2 r3 r4 r5 r6 r7 r8 rf
    have XZ := Lib.hid (rows_keep X14.out HFZ.out (fun k hk => by have hk : k = w.heap.size := hk; omega) (lo0 := w.heap.size) (by omega))
    have f0 := (cells_of HZ.out).1 0 _ rfl
    have f1 := (cells_of HZ.out).1 1 _ rfl
    have f2 := (cells_of HZ.out).1 2 _ rfl
    have f3 := (cells_of HZ.out).1 3 _ rfl
    have f4 := (cells_of HZ.out).1 4 _ rfl
    have f5 := (cells_of HZ.out).1 5 _ rfl
    have f6 := (cells_of HZ.out).1 6 _ rfl
    have f7 := (cells_of HZ.out).1 7 _ rfl
    have f8 := (cells_of HZ.out).1 8 _ rfl
    rw [HNQ.out]
    refine bodyPost_ret (v := stV (.mk 1 nm nob false false [y] [] [] []) (some ⟨g, 0, none⟩) none none none 1 0 0 0) (by simp [results, Tryz.results96, go_sem, f0, f1, f2, f3, f4, f5, f6, f7, f8, stV, St.kind, St.name, St.frm, St.sec, St.mt, St.ex, St.args, St.body, St.els, nob]) rfl ⟨_, _, _, _, _, _, _, _, rfl, ps_new F14.out HFZ.out (Nat.le_refl _), H14.out.away HFZ.out (by omega) (by omega) (fun q hq e => by have e : q = w.heap.size := e; have := HOK.out q hq; omega), ?_⟩
    exact ⟨⟨Nat.le_refl 1, (by decide : 1 * 64 ≤ reach), XZ.out⟩, ⟨Nat.zero_le _, (by decide : 0 * 16 ≤ reach), trivial⟩, ⟨Nat.zero_le _, (by decide : 0 * 144 ≤ reach), trivial⟩, ⟨Nat.zero_le _, (by decide : 0 * 144 ≤ reach), trivial⟩⟩
  | false =>
    have hx := HX2.out
    rw [t6, if_neg Bool.false_ne_true] at hx
    split at hx
    case isTrue => cases hx
    case isFalse hq =>
    simp only [Bool.or_eq_true, not_or, Bool.not_eq_true] at hq
    obtain ⟨⟨⟨⟨t7, t8⟩, t9⟩, t10⟩, t11⟩ := hq
    cases hb : bareP ts i with
    | none => rw [hb] at hx; cases hx
    | some r =>
    obtain ⟨x2, j2⟩ := r
    simp only [hb, Option.map_some, Option.some.injEq, Prod.mk.injEq] at hx
    obtain ⟨rfl, rfl, rfl⟩ := hx
    have T6 := Lib.hid t6; have T7 := Lib.hid t7; have T8 := Lib.hid t8; have T9 := Lib.hid t9; have T10 := Lib.hid t10; have T11 := Lib.hid t11
    have HB := Lib.hid hb
    clear t6 t7 t8 t9 t10 t11 hb HX2
    go_wp2_with fail
    refine (eword_any ok ts A c be bp W4 (i) (n + 1) ⟨#[108, 101, 116]⟩ H4.out hi).mono ?_
    rintro e w5 ⟨rfl, hf, h⟩
    rw [show tkK ts 2 ⟨#[108, 101, 116]⟩ (i) = false from T6.out]
    rw [eyeI_f (show tkK ts 2 ⟨#[108, 101, 116]⟩ (i) = false from T6.out)] at h
    have H5 := Lib.hid h
    have R5 := Lib.hid (blk_fr R4.out hf (ps_far hbe hbp (by omega)))
    have S5 := Lib.hid (blk_fr S4.out hf (ps_far hbe hbp (by omega)))
    have F5 := Lib.hid (F4.out.trans hf)
    clear hf h
    go_wp2_with fail
    refine (eword_any ok ts A c be bp w5 (i) (n + 1) ⟨#[98, 117, 102]⟩ H5.out hi).mono ?_
    rintro e w6 ⟨rfl, hf, h⟩
    rw [show tkK ts 2 ⟨#[98, 117, 102]⟩ (i) = false from T7.out]
    rw [eyeI_f (show tkK ts 2 ⟨#[98, 117, 102]⟩ (i) = false from T7.out)] at h
    have H6 := Lib.hid h
    have R6 := Lib.hid (blk_fr R5.out hf (ps_far hbe hbp (by omega)))
    have S6 := Lib.hid (blk_fr S5.out hf (ps_far hbe hbp (by omega)))
    have F6 := Lib.hid (F5.out.trans hf)
    clear hf h
    go_wp2_with fail
    refine (eword_any ok ts A c be bp w6 (i) (n + 1) ⟨#[109, 111, 118, 101]⟩ H6.out hi).mono ?_
    rintro e w7 ⟨rfl, hf, h⟩
    rw [show tkK ts 2 ⟨#[109, 111, 118, 101]⟩ (i) = false from T8.out]
    rw [eyeI_f (show tkK ts 2 ⟨#[109, 111, 118, 101]⟩ (i) = false from T8.out)] at h
    have H7 := Lib.hid h
    have R7 := Lib.hid (blk_fr R6.out hf (ps_far hbe hbp (by omega)))
    have S7 := Lib.hid (blk_fr S6.out hf (ps_far hbe hbp (by omega)))
    have F7 := Lib.hid (F6.out.trans hf)
    clear hf h
    go_wp2_with fail
    refine (eword_any ok ts A c be bp w7 (i) (n + 1) ⟨#[111, 112, 101, 110]⟩ H7.out hi).mono ?_
    rintro e w8 ⟨rfl, hf, h⟩
    rw [show tkK ts 2 ⟨#[111, 112, 101, 110]⟩ (i) = false from T9.out]
    rw [eyeI_f (show tkK ts 2 ⟨#[111, 112, 101, 110]⟩ (i) = false from T9.out)] at h
    have H8 := Lib.hid h
    have R8 := Lib.hid (blk_fr R7.out hf (ps_far hbe hbp (by omega)))
    have S8 := Lib.hid (blk_fr S7.out hf (ps_far hbe hbp (by omega)))
    have F8 := Lib.hid (F7.out.trans hf)
    clear hf h
    go_wp2_with fail
    refine (eword_any ok ts A c be bp w8 (i) (n + 1) ⟨#[115, 101, 97, 108]⟩ H8.out hi).mono ?_
    rintro e w9 ⟨rfl, hf, h⟩
    rw [show tkK ts 2 ⟨#[115, 101, 97, 108]⟩ (i) = false from T10.out]
    rw [eyeI_f (show tkK ts 2 ⟨#[115, 101, 97, 108]⟩ (i) = false from T10.out)] at h
    have H9 := Lib.hid h
    have R9 := Lib.hid (blk_fr R8.out hf (ps_far hbe hbp (by omega)))
    have S9 := Lib.hid (blk_fr S8.out hf (ps_far hbe hbp (by omega)))
    have F9 := Lib.hid (F8.out.trans hf)
    clear hf h
    go_wp2_with fail
    refine (eword_any ok ts A c be bp w9 (i) (n + 1) ⟨#[99, 97, 108, 108]⟩ H9.out hi).mono ?_
    rintro e w10 ⟨rfl, hf, h⟩
    rw [show tkK ts 2 ⟨#[99, 97, 108, 108]⟩ (i) = false from T11.out]
    rw [eyeI_f (show tkK ts 2 ⟨#[99, 97, 108, 108]⟩ (i) = false from T11.out)] at h
    have H10 := Lib.hid h
    have R10 := Lib.hid (blk_fr R9.out hf (ps_far hbe hbp (by omega)))
    have S10 := Lib.hid (blk_fr S9.out hf (ps_far hbe hbp (by omega)))
    have F10 := Lib.hid (F9.out.trans hf)
    clear hf h
    go_wp2_with fail
    have HCB := Lib.hid (pbare_any ok ts A c be bp w10 i (n + 1) x2 j2 H10.out HB.out (fun q hq => by have := HOK.out q hq; have := F10.out.size; omega))
    have hz9 := F10.out.size
    refine HCB.out.mono ?_
    rintro e w20 ⟨A1, A2, A3, A4, c1, c2, c3, c4, rfl, hf, h, hr⟩
    have hzz : w.heap.size < w10.heap.size := blk_lt R10.out
    have H20 := Lib.hid h
    have R20 := Lib.hid (blk_fr R10.out hf (ps_far hbe hbp (by omega)))
    have F20 := Lib.hid (F10.out.trans hf)
    have X20 := Lib.hid hr
    clear hf h hr
    obtain ⟨xk, xn, xf, xs, xm, xe, xa, xb, xl⟩ := x2
    rw [show stV (.mk xk xn xf xs xm xe xa xb xl) A1 A2 A3 A4 c1 c2 c3 c4 = .agg #[vu8 xk, .string xn, .string xf, .bool xs, .bool xm, .slice A1 xe.length c1, .slice A2 xa.length c2, .slice A3 xb.length c3, .slice A4 xl.length c4] from rfl]
    have r0 := (cells_of R20.out).1 0 _ rfl
    have r1 := (cells_of R20.out).1 1 _ rfl
    have r2 := (cells_of R20.out).1 2 _ rfl
    have r3 := (cells_of R20.out).1 3 _ rfl
    have r4 := (cells_of R20.out).1 4 _ rfl
    have r5 := (cells_of R20.out).1 5 _ rfl
    have r6 := (cells_of R20.out).1 6 _ rfl
    have r7 := (cells_of R20.out).1 7 _ rfl
    have r8 := (cells_of R20.out).1 8 _ rfl
    have rf := (cells_of R20.out).2
    go_wp2_with fail
    clear r0 r1 r2 r3 r4 r5 r6 r7 r8 rf
    have HZ := Lib.hid (blk_put9 R20.out (.int .u8 xk.toNat) (.string xn) (.string xf) (.bool xs) (.bool xm) (.slice A1 xe.length c1) (.slice A2 xa.length c2) (.slice A3 xb.length c3) (.slice A4 xl.length c4))
    have HFZ := Lib.hid (fr_put9 (g := w.heap.size) (w := w20) (S := fun q => q = w.heap.size) rfl (.int .u8 xk.toNat) (.string xn) (.string xf) (.bool xs) (.bool xm) (.slice A1 xe.length c1) (.slice A2 xa.length c2) (.slice A3 xb.length c3) (.slice A4 xl.length c4))
    generalize (((((((((w20.setCell ⟨w.heap.size, 0, none⟩ (.int .u8 xk.toNat)).setCell ⟨w.heap.size, 1, none⟩ (.string xn)).setCell ⟨w.heap.size, 2, none⟩ (.string xf)).setCell ⟨w.heap.size, 3, none⟩ (.bool xs)).setCell ⟨w.heap.size, 4, none⟩ (.bool xm)).setCell ⟨w.heap.size, 5, none⟩ (.slice A1 xe.length c1)).setCell ⟨w.heap.size, 6, none⟩ (.slice A2 xa.length c2)).setCell ⟨w.heap.size, 7, none⟩ (.slice A3 xb.length c3)).setCell ⟨w.heap.size, 8, none⟩ (.slice A4 xl.length c4)) = wz at *
    have f0 := (cells_of HZ.out).1 0 _ rfl
    have f1 := (cells_of HZ.out).1 1 _ rfl
    have f2 := (cells_of HZ.out).1 2 _ rfl
    have f3 := (cells_of HZ.out).1 3 _ rfl
    have f4 := (cells_of HZ.out).1 4 _ rfl
    have f5 := (cells_of HZ.out).1 5 _ rfl
    have f6 := (cells_of HZ.out).1 6 _ rfl
    have f7 := (cells_of HZ.out).1 7 _ rfl
    have f8 := (cells_of HZ.out).1 8 _ rfl
    refine bodyPost_ret (v := stV (.mk xk xn xf xs xm xe xa xb xl) A1 A2 A3 A4 c1 c2 c3 c4) (by simp [results, Tryz.results96, go_sem, f0, f1, f2, f3, f4, f5, f6, f7, f8, stV, St.kind, St.name, St.frm, St.sec, St.mt, St.ex, St.args, St.body, St.els, nob]) rfl ⟨A1, A2, A3, A4, c1, c2, c3, c4, rfl, ps_new F20.out HFZ.out (Nat.le_refl _), H20.out.away HFZ.out (by omega) (by omega) (fun q hq e => by have e : q = w.heap.size := e; have := HOK.out q hq; omega), X20.out.keepS HFZ.out (fun k hk => by have hk : k = w.heap.size := hk; omega) (by omega)⟩
end Go.Proofs.YtfncbemligfloaaGreatDoor
/- Contracts of the reference's parser: blocks; all statements. -/
namespace Go.Proofs.YtfncbemligfloaaGreatDoor
open Go.RowKit
set_option linter.unusedVariables false
set_option linter.unusedSimpArgs false
def sliceLen : Value → Nat
  | .slice _ n _ => n
  | _ => 0
theorem StRd.ok {ok ok' : Nat → Prop} {w w' : World} {s : St} {A1 A2 A3 A4 : Option Addr} {c1 c2 c3 c4 : Nat} (h : StRd ok w s A1 A2 A3 A4 c1 c2 c3 c4) (hf : Fr Non w w') (hk : ∀ k, ok k → ok' k) : StRd ok' w' s A1 A2 A3 A4 c1 c2 c3 c4 :=
  ⟨⟨h.ex.1, h.ex.2.1, h.ex.2.2.fr hf (fun _ _ => non _) hk⟩, ⟨h.args.1, h.args.2.1, h.args.2.2.fr hf (fun _ _ => non _) hk⟩, ⟨h.body.1, h.body.2.1, h.body.2.2.fr hf (fun _ _ => non _) hk⟩, ⟨h.els.1, h.els.2.1, h.els.2.2.fr hf (fun _ _ => non _) hk⟩⟩

set_option maxRecDepth 100000 in
set_option maxHeartbeats 4000000 in
theorem pblock_of (ok : Nat → Prop) (ts : List Tk) (A : Option Addr) (c be bp f : Nat) (ST : ∀ f', f' ≤ f → StmC ok ts A c be bp f') : BlkC ok ts A c be bp (f + 1) := by
  intro deep n i l n' j w hx hdeep h hok
  rw [blP] at hx
  split at hx
  case isFalse => cases hx
  case isTrue hc =>
  obtain ⟨hi, t1⟩ := hc
  have hbe := blk_lt h.eye.blk
  have hbp := blk_lt h.blk
  have HX := Lib.hid hx; clear hx
  have T1 := Lib.hid t1; clear t1
  have p0 := (cells_of h.blk).1 0 _ rfl
  have H := Lib.hid h; clear h
  have HOK := Lib.hid hok; clear hok
  go_enter Tryz.func82, Tryz.ntmps82
  go_wp2_with fail
  refine (need_any ok ts A c be w i ⟨#[123]⟩ H.out.eye hi T1.out).mono ?_
  rintro e w2 ⟨rfl, hf1, h⟩
  have H2 := Lib.hid (H.out.moved hf1 h)
  have F2 := Lib.hid (eye_ps (bp := bp) hf1); clear hf1 h p0
  go_wp2_with fail
  go_loopw [5] (fun v wr => ∃ (l1 : List St) (n1 i1 f1 : Nat), blQ ts f1 deep l1 n1 i1 = some (l, n', j) ∧ f1 ≤ f ∧ l1.length ≤ 401 ∧ PsAt ok ts A c be bp wr i1 n1 ∧ Own w.heap.size 54 9 wr v (St.ds l1) ∧ Fr (PS be bp) w wr) (fun v _ => 402 - sliceLen v)
  case atStart => exact ⟨[], n, i + 1, f, HX.out, Nat.le_refl _, by simp, H2.out, Own.nil _ _ _ _, F2.out⟩
  case round =>
    obtain ⟨l1, n1, i1, f1, hq, hf1, hl1, hps, hown, hfr⟩ := hrel
    obtain ⟨A0, c0, rfl, hc0⟩ := hown.slice
    have hn : (St.ds l1).length = l1.length := by rw [St.ds_eq, List.length_map]
    rw [hn] at hc0 hown ⊢
    have HN := Lib.hid hn; clear hn
    have HO := Lib.hid hown; clear hown
    have HP := Lib.hid hps; clear hps
    have HF := Lib.hid hfr; clear hfr
    cases f1 with
    | zero => rw [blQ] at hq; cases hq
    | succ f1 =>
    rw [blQ] at hq
    split at hq
    case isFalse => cases hq
    case isTrue hc2 =>
    obtain ⟨hi1, hl400⟩ := hc2
    have p0 := (cells_of HP.out.blk).1 0 _ rfl
    cases tk : tkK ts 4 gKet i1 with
    | true =>
      rw [tk, if_pos rfl] at hq
      simp only [Option.some.injEq, Prod.mk.injEq] at hq
      obtain ⟨rfl, rfl, rfl⟩ := hq
      have TK := Lib.hid tk; clear tk
      go_wp2_with fail
      refine (pfine_any ok ts A c be bp wr i1 n1 HP.out).mono ?_
      rintro e wq ⟨rfl, rfl⟩
      go_wp2_with fail
      refine (esign_any ok ts A c be wr i1 ⟨#[125]⟩ HP.out.eye hi1).mono ?_
      rintro e w4 ⟨rfl, hf4, h4⟩
      rw [show tkK ts 4 ⟨#[125]⟩ i1 = true from TK.out]
      rw [eyeI_t (show tkK ts 4 ⟨#[125]⟩ i1 = true from TK.out)] at h4
      have H4 := Lib.hid (HP.out.moved hf4 h4)
      have F4 := Lib.hid (HF.out.trans (eye_ps (bp := bp) hf4))
      have HRW := Lib.hid ((HO.out.fr hf4 (fun k hk e => by have e : k = be := e; omega)).rows)
      clear hf4 h4
      go_wp2_with fail
      go_ret
      exact ⟨A0, c0, rfl, hc0, hl400, F4.out, H4.out, HRW.out⟩
    | false =>
      rw [tk, if_neg Bool.false_ne_true] at hq
      have TK := Lib.hid tk; clear tk
      cases hs : stP ts f1 deep n1 i1 with
      | none => rw [hs] at hq; cases hq
      | some r =>
      obtain ⟨x, n2, i2⟩ := r
      rw [hs, Option.bind_some] at hq
      have HQ := Lib.hid hq; clear hq
      have HS := Lib.hid hs; clear hs
      go_wp2_with fail
      refine (pfine_any ok ts A c be bp wr i1 n1 HP.out).mono ?_
      rintro e wq ⟨rfl, rfl⟩
      go_wp2_with fail
      refine (esign_any ok ts A c be wr i1 ⟨#[125]⟩ HP.out.eye hi1).mono ?_
      rintro e w4 ⟨rfl, hf4, h4⟩
      rw [show tkK ts 4 ⟨#[125]⟩ i1 = false from TK.out]
      rw [eyeI_f (show tkK ts 4 ⟨#[125]⟩ i1 = false from TK.out)] at h4
      have H4 := Lib.hid (HP.out.moved hf4 h4)
      have F4 := Lib.hid (HF.out.trans (eye_ps (bp := bp) hf4))
      have O4 := Lib.hid (HO.out.fr hf4 (fun k hk e => by have e : k = be := e; omega))
      clear hf4 h4 p0
      have hz4 := F4.out.size
      go_wp2_with fail
      refine (ST f1 (by omega) deep n1 i1 x n2 i2 w4 HS.out H4.out (fun q hq => by have := HOK.out q hq; omega)).mono ?_
      rintro e w5 ⟨A1, A2, A3, A4, c1, c2, c3, c4, rfl, hf, h, hr⟩
      have H5 := Lib.hid h
      have F5 := Lib.hid (F4.out.trans hf)
      have O5 := Lib.hid (O4.out.fr hf (fun k hk => ps_far hbe hbp hk))
      have X5 := Lib.hid hr
      have hz5 := hf.size
      have HV := Lib.hid O4.out.lt
      clear hf h hr
      have HXQ := Lib.hid (show St.ds (l1 ++ [x]) = St.ds l1 ++ [x.d] by rw [St.ds_eq, St.ds_eq, List.map_append]; rfl)
      rw [show stV x A1 A2 A3 A4 c1 c2 c3 c4 = .agg #[vu8 x.kind, .string x.name, .string x.frm, .bool x.sec, .bool x.mt, .slice A1 x.ex.length c1, .slice A2 x.args.length c2, .slice A3 x.body.length c3, .slice A4 x.els.length c4] from rfl]
      go_wp2_with (at_builtin; refine app_st rfl _ _ rfl w.heap.size (.slice A0 l1.length c0) (St.ds l1) rfl ?o ⟨w5.heap.size, 0, none⟩ 1 1 rfl [x.d] [vu8 x.kind, .string x.name, .string x.frm, .bool x.sec, .bool x.mt, .slice A1 x.ex.length c1, .slice A2 x.args.length c2, .slice A3 x.body.length c3, .slice A4 x.els.length c4] ?ch rfl ?nc (one_st _ _ _ _ _ _ _ _ _ _ _ _ _ _ _ _ _) ?b1 ?b2 ?b3 ?k)
      case o => exact O5.out.fr ((fr_refl w5).alloc _) (fun _ _ => non _)
      case nc => exact new_cells' rfl
      case ch =>
        have hok5 := X5.out.ok (ok' := okOwn w.heap.size (w5.alloc (.cells #[vu8 x.kind, .string x.name, .string x.frm, .bool x.sec, .bool x.mt, .slice A1 x.ex.length c1, .slice A2 x.args.length c2, .slice A3 x.body.length c3, .slice A4 x.els.length c4] 54)) (.slice A0 l1.length c0)) ((fr_refl w5).alloc (.cells #[vu8 x.kind, .string x.name, .string x.frm, .bool x.sec, .bool x.mt, .slice A1 x.ex.length c1, .slice A2 x.args.length c2, .slice A3 x.body.length c3, .slice A4 x.els.length c4] 54)) (fun k hk => ⟨by have := hk.1; omega, by have := hk.2; simp; omega, fun e => by have := (HV.out k e).2; have := hk.1; omega⟩)
        exact chunk_st x hok5.ex.1 hok5.ex.2.1 hok5.ex.2.2 hok5.args.1 hok5.args.2.1 hok5.args.2.2 hok5.body.1 hok5.body.2.1 hok5.body.2.2 hok5.els.1 hok5.els.2.1 hok5.els.2.2
      case b1 => rw [HN.out]; unfold maxLen; omega
      case b2 => rw [HN.out]; omega
      case b3 => simp; omega
      case k =>
      intro v' w' hown' hfr'
      have hf' : Fr (PS be bp) w w' := (F5.out.alloc _).then hfr' (fun k hk ht => by have := ht.1; omega)
      have HF' := Lib.hid hf'
      have H' := Lib.hid ((H5.out.stay ((fr_refl w5).alloc _)).away hfr' (fun ht => by have := ht.1; omega) (fun ht => by have := ht.1; omega) (fun q hq ht => by have := ht.1; have := HOK.out q hq; omega))
      rw [← HXQ.out] at hown'
      obtain ⟨A6, c6, rfl, _⟩ := hown'.slice
      have hn6 : (St.ds (l1 ++ [x])).length = l1.length + 1 := by rw [St.ds_eq, List.length_map, List.length_append]; rfl
      rw [hn6] at hown' ⊢
      have HO' := Lib.hid hown'
      clear hown' hfr' hf' hn6
      go_wp2_with fail
      go_roundw
      case rel => exact ⟨l1 ++ [x], n2, i2, f1, HQ.out, by omega, by simp; omega, H'.out, HO'.out, HF'.out⟩
      case measure => simp [sliceLen]; omega
theorem pstmt_any (ok : Nat → Prop) (ts : List Tk) (A : Option Addr) (c be bp : Nat) : ∀ f, (∀ f', f' ≤ f → StmC ok ts A c be bp f') ∧ (∀ f', f' ≤ f → BlkC ok ts A c be bp f')
  | 0 => by
    refine ⟨fun f' h => ?_, fun f' h => ?_⟩
    · obtain rfl : f' = 0 := by omega
      intro deep n i x n' j w hx
      rw [stP] at hx; cases hx
    · obtain rfl : f' = 0 := by omega
      intro deep n i x n' j w hx
      rw [blP] at hx; cases hx
  | f + 1 => by
    have ih := pstmt_any ok ts A c be bp f
    refine ⟨fun f' h => ?_, fun f' h => ?_⟩
    · rcases Nat.lt_or_eq_of_le h with h | rfl
      · exact ih.1 f' (by omega)
      · exact pstmt_of ok ts A c be bp f (ih.2 f (Nat.le_refl _))
    · rcases Nat.lt_or_eq_of_le h with h | rfl
      · exact ih.2 f' (by omega)
      · exact pblock_of ok ts A c be bp f ih.1
end Go.Proofs.YtfncbemligfloaaGreatDoor
/- Contracts of the reference's parser: a param that is a number. -/
namespace Go.Proofs.YtfncbemligfloaaGreatDoor
open Go.RowKit
set_option linter.unusedVariables false
set_option linter.unusedSimpArgs false

set_option maxRecDepth 100000 in
set_option maxHeartbeats 4000000 in
theorem pparam_any (ok : Nat → Prop) (ts : List Tk) (A : Option Addr) (c be bp : Nat) (w : World) (i n : Nat) (nm : ByteArray) (h : PsAt ok ts A c be bp w i n) (hok : ∀ q, ok q → q < w.heap.size) (hi : i < ts.length) (t1 : tkK ts 2 wNum i = true) (hi1 : i + 1 < ts.length) (hnm : nmT ts[i + 1] = true) (hnq : ts[i + 1].text = nm) :
   Calls Tryz.prog 81 #[.pointer (some ⟨bp, 0, none⟩)] w fun e w' => e = .returned (.agg #[.string nm, .bool false, .bool false, .bool false]) ∧ Fr (PS be bp) w w' ∧ PsAt ok ts A c be bp w' (i + 1 + 1) n := by
  have hbe := blk_lt h.eye.blk
  have hbp := blk_lt h.blk
  obtain ⟨W1, HW1⟩ : ∃ W1, W1 = (w.alloc (.cells #[.string ⟨#[]⟩, .bool false, .bool false, .bool false] 50)).alloc (.cells #[.string ⟨#[]⟩, .bool false, .bool false, .bool false] 50) := ⟨_, rfl⟩
  have hf1 : Fr Non w W1 := by rw [HW1]; exact ((fr_refl w).alloc _).alloc _
  have R1 := Lib.hid (show W1.heap[w.heap.size]? = some (.cells #[.string ⟨#[]⟩, .bool false, .bool false, .bool false] 50 (0, 0)) by rw [HW1]; exact blk_old (blk_new _ _ _))
  have S1 := Lib.hid (show W1.heap[w.heap.size + 1]? = some (.cells #[.string ⟨#[]⟩, .bool false, .bool false, .bool false] 50 (0, 0)) by rw [HW1]; exact blk_new' (by simp) _ _)
  have H1 := Lib.hid (h.stay hf1); clear h
  have F1 := Lib.hid (show Fr (PS be bp) w W1 from hf1.non); clear hf1
  have HOK := Lib.hid hok; clear hok
  have T1 := Lib.hid t1; have HNM := Lib.hid hnm; have HNQ := Lib.hid hnq
  clear t1 hnm hnq
  go_enter Tryz.func81, Tryz.ntmps81
  go_upto_region 3 with fail
  rw [← HW1]; clear HW1
  go_wp2_with fail
  refine (eword_any ok ts A c be bp W1 i n ⟨#[110, 117, 109]⟩ H1.out hi).mono ?_
  rintro e w2 ⟨rfl, hf, h⟩
  rw [show tkK ts 2 ⟨#[110, 117, 109]⟩ i = true from T1.out]
  rw [eyeI_t (show tkK ts 2 ⟨#[110, 117, 109]⟩ i = true from T1.out)] at h
  have H2 := Lib.hid h
  have R2 := Lib.hid (blk_fr R1.out hf (ps_far hbe hbp (by omega)))
  have S2 := Lib.hid (blk_fr S1.out hf (ps_far hbe hbp (by omega)))
  have F2 := Lib.hid (F1.out.trans hf)
  clear hf h
  have p0 := (cells_of H2.out.blk).1 0 _ rfl
  go_wp2_with fail
  refine (ename_any ok ts A c be w2 (i + 1) H2.out.eye hi1 HNM.out).mono ?_
  rintro e w3 ⟨rfl, hf1, h⟩
  rw [HNQ.out]
  have H3 := Lib.hid (H2.out.moved hf1 h)
  have hf := eye_ps (bp := bp) hf1
  have R3 := Lib.hid (blk_fr R2.out hf (ps_far hbe hbp (by omega)))
  have S3 := Lib.hid (blk_fr S2.out hf (ps_far hbe hbp (by omega)))
  have F3 := Lib.hid (F2.out.trans hf)
  clear hf hf1 h p0
  have sx := (cells_of S3.out).1 0 _ rfl
  have sf := (cells_of S3.out).2
  go_upto_region 14 with fail
  have hf : Fr (fun q => q = w.heap.size + 1) w3 (w3.setCell ⟨w.heap.size + 1, 0, none⟩ (.string nm)) := (Fr.refl _ _).setCell _ _ (.inl rfl)
  have hs := blk_set S3.out 0 (.string nm)
  have S4 := Lib.hid (show (w3.setCell ⟨w.heap.size + 1, 0, none⟩ (.string nm)).heap[w.heap.size + 1]? = some (.cells #[.string nm, .bool false, .bool false, .bool false] 50 (0, 0)) from hs)
  have H4 := Lib.hid (H3.out.away hf (by omega) (by omega) (fun q hq e => by have e : q = w.heap.size + 1 := e; have := HOK.out q hq; omega))
  have R4 := Lib.hid (blk_fr R3.out hf (by omega))
  have F4 := Lib.hid (ps_new F3.out hf (by omega))
  generalize w3.setCell ⟨w.heap.size + 1, 0, none⟩ (.string nm) = w4 at *
  clear sx sf hf hs
  have l0 := (cells_of S4.out).1 0 _ rfl
  have l1 := (cells_of S4.out).1 1 _ rfl
  have l2 := (cells_of S4.out).1 2 _ rfl
  have l3 := (cells_of S4.out).1 3 _ rfl
  have r0 := (cells_of R4.out).1 0 _ rfl
  have r1 := (cells_of R4.out).1 1 _ rfl
  have r2 := (cells_of R4.out).1 2 _ rfl
  have r3 := (cells_of R4.out).1 3 _ rfl
  have rf := (cells_of R4.out).2
  go_wp2_with fail
  have HZ := Lib.hid (blk_put4 R4.out (.string nm) (.bool false) (.bool false) (.bool false))
  have HFZ := Lib.hid (show Fr (fun q => q = w.heap.size) w4 ((((w4.setCell ⟨w.heap.size, 0, none⟩ (.string nm)).setCell ⟨w.heap.size, 1, none⟩ (.bool false)).setCell ⟨w.heap.size, 2, none⟩ (.bool false)).setCell ⟨w.heap.size, 3, none⟩ (.bool false)) from ((((Fr.refl (fun q => q = w.heap.size) w4).setCell ⟨w.heap.size, 0, none⟩ _ (.inl rfl)).setCell ⟨w.heap.size, 1, none⟩ _ (.inl rfl)).setCell ⟨w.heap.size, 2, none⟩ _ (.inl rfl)).setCell ⟨w.heap.size, 3, none⟩ _ (.inl rfl))
  generalize (((w4.setCell ⟨w.heap.size, 0, none⟩ (.string nm)).setCell ⟨w.heap.size, 1, none⟩ (.bool false)).setCell ⟨w.heap.size, 2, none⟩ (.bool false)).setCell ⟨w.heap.size, 3, none⟩ (.bool false) = wz at *
  have f0 := (cells_of HZ.out).1 0 _ rfl
  have f1 := (cells_of HZ.out).1 1 _ rfl
  have f2 := (cells_of HZ.out).1 2 _ rfl
  have f3 := (cells_of HZ.out).1 3 _ rfl
  refine bodyPost_ret (v := .agg #[.string nm, .bool false, .bool false, .bool false]) (by simp [results, Tryz.results81, go_sem, f0, f1, f2, f3]) rfl ⟨rfl, ps_new F4.out HFZ.out (Nat.le_refl _), H4.out.away HFZ.out (by omega) (by omega) (fun q hq e => by have e : q = w.heap.size := e; have := HOK.out q hq; omega)⟩
end Go.Proofs.YtfncbemligfloaaGreatDoor
