/- Contracts and laws, file 2: RefA, RefB, RefC, RefD, RefF, RefH, RefI, RefJ, Gen -/
import Derived.Test.YtfncbemligfloaaGreatDoorMg01
import Derived.Deep.DeepCutAuto
/- Contracts of the reference's small functions: letters, words, names, expressions (may, same). -/
namespace Go.Proofs.YtfncbemligfloaaGreatDoor
open Go.RowKit
set_option linter.unusedVariables false
set_option linter.unusedSimpArgs false

def letterM (c : UInt8) : Bool := (97 ≤ c.toNat && c.toNat ≤ 122) || c.toNat == 95
def digitM (c : UInt8) : Bool := 48 ≤ c.toNat && c.toNat ≤ 57
def wordsM : List ByteArray := [⟨#[108, 101, 116]⟩, ⟨#[115, 101, 99, 114, 101, 116]⟩, ⟨#[98, 117, 102]⟩, ⟨#[105, 102]⟩, ⟨#[101, 108, 115, 101]⟩, ⟨#[119, 104, 105, 108, 101]⟩, ⟨#[102, 111, 114]⟩,
  ⟨#[118, 105, 101, 119]⟩, ⟨#[101, 100, 105, 116]⟩, ⟨#[109, 111, 118, 101]⟩, ⟨#[111, 112, 101, 110]⟩, ⟨#[99, 97, 108, 108]⟩, ⟨#[115, 101, 97, 108]⟩, ⟨#[102, 110]⟩, ⟨#[114, 101, 116, 117, 114, 110]⟩, ⟨#[110, 117, 109]⟩]
def inM (l : List ByteArray) (s : ByteArray) : Bool := l.any fun x => sq x s
def wordM (s : ByteArray) : Bool := inM wordsM s
def partM (c : UInt8) : Bool := letterM c || digitM c
def namedM (s : ByteArray) : Bool := !emp s && decide (s.size ≤ 16) && letterM (s.data.getD 0 0) && !wordM s && s.data.toList.all partM

theorem letter_any (c : UInt8) (w : World) : Calls Tryz.prog 28 #[vu8 c] w fun e w' => e = .returned (.bool (letterM c)) ∧ w = w' := by
  have hc := c.toNat_lt
  go_enter Tryz.func28, Tryz.ntmps28
  go_wp2_with fail
  all_goals
    go_ret
    refine ⟨ret_bool ?_, rfl⟩
    rw [Bool.eq_iff_iff]; simp [letterM]; try omega
theorem digit_any (c : UInt8) (w : World) : Calls Tryz.prog 30 #[vu8 c] w fun e w' => e = .returned (.bool (digitM c)) ∧ w = w' := by
  have hc := c.toNat_lt
  go_enter Tryz.func30, Tryz.ntmps30
  go_wp2_with fail
  all_goals
    go_ret
    refine ⟨ret_bool ?_, rfl⟩
    rw [Bool.eq_iff_iff]; simp [digitM]; try omega
theorem in_any (ok : Nat → Prop) (A : Option Addr) (c : Nat) (l : List ByteArray) (s : ByteArray) (w : World) (h : RdRows ok w 1 A 0 (l.map strD)) (hc : l.length ≤ 140737488355328) :
    Calls Tryz.prog 48 #[.slice A l.length c, .string s] w fun e w' => e = .returned (.bool (inM l s)) ∧ w = w' := by
  go_enter Tryz.func48, Tryz.ntmps48
  go_wp2_with fail
  go_loop [5] (fun i => ∃ k : Nat, i = .int .i64 k ∧ k ≤ l.length ∧ ∀ j, j < k → ∀ hj : j < l.length, sq l[j] s = false) (fun i => l.length - (intOf i).toNat)
  case atStart => exact ⟨0, rfl, by omega, fun j hj => by omega⟩
  case round =>
    obtain ⟨k, rfl, hk, hno⟩ := hrel
    have HN := Lib.hid hno; clear hno
    by_cases hlt : k < l.length
    · obtain ⟨b, o, rfl, hb, h0⟩ := at_str h k hlt
      have H := Lib.hid h; clear h
      cases hq : sq l[k] s with
      | true =>
        have hq' := hq; rw [← tosq] at hq'
        have HQ := Lib.hid hq; clear hq
        go_wp2_with fail
        go_ret
        exact ⟨ret_bool (any_true_of k hlt HQ.out).symm, rfl⟩
      | false =>
        have hq' := hq; rw [← tosq] at hq'
        have HQ := Lib.hid hq; clear hq
        go_wp2_with fail
        go_round
        case rel => exact ⟨k + 1, by go_num, by omega, till HN.out fun _ => HQ.out⟩
        case measure => simp [intOf]; omega
    · have H := Lib.hid h; clear h
      go_wp2_with fail
      go_ret
      exact ⟨ret_bool (any_false_of fun j hj => HN.out j (by omega) hj).symm, rfl⟩
theorem words_any (w : World) : Calls Tryz.prog 49 #[] w fun e w' => ∃ b c, e = .returned (.slice (some ⟨b, 0, none⟩) 16 c) ∧ Fr Non w w' ∧ RdRows (fun _ => True) w' 1 (some ⟨b, 0, none⟩) 0 (wordsM.map strD) := by
  go_enter Tryz.func49, Tryz.ntmps49
  go_wp2_with fail
  go_ret
  exact ⟨w.heap.size, 16, rfl, (Fr.refl _ _).alloc _, rd_strs _ _ _ rfl⟩
theorem word_any (s : ByteArray) (w : World) : Calls Tryz.prog 29 #[.string s] w fun e w' => e = .returned (.bool (wordM s)) ∧ Fr Non w w' := by
  go_enter Tryz.func29, Tryz.ntmps29
  go_wp2_with fail
  refine (words_any _).mono ?_
  rintro e w1 ⟨b, c, rfl, hf, hr⟩
  have H := Lib.hid hr; clear hr
  go_wp2_with fail
  refine (in_any (fun _ => True) _ c wordsM s _ H.out (by simp [wordsM])).mono ?_
  rintro e w2 ⟨rfl, rfl⟩
  go_wp2_with fail
  go_ret
  exact ⟨rfl, hf⟩

theorem named_any (s : ByteArray) (w : World) : Calls Tryz.prog 14 #[.string s] w fun e w' => e = .returned (.bool (namedM s)) ∧ Fr Non w w' := by
  cases he : emp s with
  | true =>
    have he' := he; rw [← toemp] at he'
    go_enter Tryz.func14, Tryz.ntmps14
    go_wp2_with fail
    go_ret
    exact ⟨ret_bool (by simp [namedM, he]), fr_refl _⟩
  | false =>
    have he' := he; rw [← toemp] at he'
    have hp : 0 < s.size := by
      rcases Nat.eq_zero_or_pos s.size with h | h
      · simp [emp, h] at he
      · exact h
    have hd : s.data.getD 0 0 = s[0] := by have hp' : 0 < s.data.size := hp; rw [Array.getD, dif_pos hp']; rfl
    by_cases h16 : s.size ≤ 16
    · have h16' : decide ((16 : Int) < (s.size : Int)) = false := by simp; omega
      cases hl : letterM s[0] with
      | false =>
        have HF := Lib.hid (show namedM s = false by simp [namedM, hd, hl]); clear hd
        have H1 := Lib.hid he; clear he
        go_enter Tryz.func14, Tryz.ntmps14
        go_wp2_with fail
        refine (letter_any _ _).mono ?_
        rintro e w1 ⟨rfl, rfl⟩
        go_wp2_with fail
        go_ret
        exact ⟨ret_bool HF.out.symm, fr_refl _⟩
      | true =>
        cases hw : wordM s with
        | true =>
          have HF := Lib.hid (show namedM s = false by simp [namedM, hw]); clear hd
          have H1 := Lib.hid he; clear he
          go_enter Tryz.func14, Tryz.ntmps14
          go_wp2_with fail
          refine (letter_any _ _).mono ?_
          rintro e w1 ⟨rfl, rfl⟩
          go_wp2_with fail
          refine (word_any _ _).mono ?_
          rintro e w1 ⟨rfl, hf⟩
          go_wp2_with fail
          go_ret
          exact ⟨ret_bool HF.out.symm, hf⟩
        | false =>
          have HF := Lib.hid (show namedM s = s.data.toList.all partM by simp [namedM, he, h16, hd, hl, hw]); clear hd
          have H1 := Lib.hid he; clear he
          go_enter Tryz.func14, Tryz.ntmps14
          go_wp2_with fail
          refine (letter_any _ _).mono ?_
          rintro e w1 ⟨rfl, rfl⟩
          go_wp2_with fail
          refine (word_any _ _).mono ?_
          rintro e w1 ⟨rfl, hf⟩
          go_wp2_with fail
          go_loop [3] (fun i => ∃ k : Nat, i = .int .i64 k ∧ k ≤ s.size ∧ ∀ j, j < k → ∀ hj : j < s.data.toList.length, partM s.data.toList[j] = true) (fun i => s.size - (intOf i).toNat)
          case atStart => exact ⟨0, rfl, by omega, fun j hj => by omega⟩
          case round =>
            obtain ⟨k, rfl, hk, hno⟩ := hrel
            have HN := Lib.hid hno; clear hno
            by_cases hlt : k < s.size
            · have hlt' : k < s.data.size := hlt
              have hsk : s.data.toList[k]'(by simpa using hlt') = s[k] := rfl
              have HS := Lib.hid hsk; clear hsk
              cases hlk : letterM s[k] with
              | true =>
                go_wp2_with fail
                refine (letter_any _ _).mono ?_
                rintro e w1 ⟨rfl, rfl⟩
                go_wp2_with fail
                go_round
                case rel => exact ⟨k + 1, by go_num, by omega, till HN.out fun _ => by rw [HS.out]; simp [partM, hlk]⟩
                case measure => simp [intOf]; omega
              | false =>
                cases hdk : digitM s[k] with
                | true =>
                  go_wp2_with fail
                  refine (letter_any _ _).mono ?_
                  rintro e w1 ⟨rfl, rfl⟩
                  go_wp2_with fail
                  refine (digit_any _ _).mono ?_
                  rintro e w1 ⟨rfl, rfl⟩
                  go_wp2_with fail
                  go_round
                  case rel => exact ⟨k + 1, by go_num, by omega, till HN.out fun _ => by rw [HS.out]; simp [partM, hdk]⟩
                  case measure => simp [intOf]; omega
                | false =>
                  go_wp2_with fail
                  refine (letter_any _ _).mono ?_
                  rintro e w1 ⟨rfl, rfl⟩
                  go_wp2_with fail
                  refine (digit_any _ _).mono ?_
                  rintro e w1 ⟨rfl, rfl⟩
                  go_wp2_with fail
                  go_ret
                  exact ⟨ret_bool (by rw [HF.out]; exact (all_false_of k (by simpa using hlt') (by rw [HS.out]; simp [partM, hlk, hdk])).symm), hf⟩
            · go_wp2_with fail
              go_ret
              exact ⟨ret_bool (by rw [HF.out]; exact (all_true_of fun j hj => HN.out j (by have : s.data.size = s.size := rfl; simp at hj; omega) hj).symm), hf⟩
    · have HF := Lib.hid (show namedM s = false by simp [namedM, h16])
      have H1 := Lib.hid he; clear he
      go_enter Tryz.func14, Tryz.ntmps14
      go_wp2_with fail
      go_ret
      exact ⟨ret_bool HF.out.symm, fr_refl _⟩
def signsM : List ByteArray := [⟨#[]⟩, ⟨#[43]⟩, ⟨#[45]⟩, ⟨#[60, 60]⟩, ⟨#[60, 36]⟩, ⟨#[60]⟩, ⟨#[94]⟩, ⟨#[62, 62]⟩, ⟨#[62, 62, 62]⟩, ⟨#[124]⟩, ⟨#[38]⟩, ⟨#[42]⟩, ⟨#[42, 94]⟩, ⟨#[47]⟩, ⟨#[37]⟩]
def signM (op : UInt8) : ByteArray := signsM.getD op.toNat ⟨#[]⟩
theorem sign_any (op : UInt8) (w : World) : Calls Tryz.prog 102 #[vu8 op] w fun e w' => e = .returned (.string (signM op)) ∧ Fr Non w w' := by
  have hc := op.toNat_lt
  by_cases h : op.toNat < 15
  · have hx : ∀ h', (signsM.map Value.string)[op.toNat]'h' = .string (signM op) := by 
      intro h'; rw [List.getElem_map, signM, List.getD_eq_getElem?_getD, List.getElem?_eq_getElem (by simpa using h')]; rfl
    have HX := Lib.hid hx; clear hx
    go_enter Tryz.func102, Tryz.ntmps102
    go_wp2_with fail
    go_ret
    exact ⟨congrArg Ending.returned (HX.out _), (fr_refl _).alloc _⟩
  · have hx : signM op = ⟨#[]⟩ := by rw [signM, List.getD_eq_getElem?_getD, List.getElem?_eq_none (by simp [signsM]; omega)]; rfl
    have HX := Lib.hid hx; clear hx
    go_enter Tryz.func102, Tryz.ntmps102
    go_wp2_with fail
    go_ret
    exact ⟨by rw [HX.out]; rfl, (fr_refl _).alloc _⟩

def shapeM (e : Ex) : Bool :=
  if e.kind.toNat = 1 then emp e.name && e.op.toNat == 0 && e.kids.length == 0
  else if e.kind.toNat = 2 ∨ e.kind.toNat = 4 then e.num.toNat == 0 && namedM e.name && e.op.toNat == 0 && e.kids.length == 0
  else if e.kind.toNat = 3 then e.num.toNat == 0 && emp e.name && !emp (signM e.op) && e.kids.length == 2
  else if e.kind.toNat = 5 then e.num.toNat == 0 && namedM e.name && e.op.toNat == 0 && e.kids.length == 1
  else false
theorem shape_any (k : UInt8) (n : UInt64) (s : ByteArray) (o : UInt8) (l : List Ex) (A : Option Addr) (c : Nat) (w : World) :
   Calls Tryz.prog 93 #[.agg #[vu8 k, vu64 n, .string s, vu8 o, .slice A l.length c]] w fun e w' => e = .returned (.bool (shapeM (.mk k n s o l))) ∧ Fr Non w w' := by
  go_enter Tryz.func93, Tryz.ntmps93
  go_wp2_with fail
  refine (named_any _ _).mono ?_
  rintro e w1 ⟨rfl, hf⟩
  have g0 := box_cells hf (non _) 0 _ rfl
  have g1 := box_cells hf (non _) 1 _ rfl
  have g2 := box_cells hf (non _) 2 _ rfl
  have g3 := box_cells hf (non _) 3 _ rfl
  have g4 := box_cells hf (non _) 4 _ rfl
  have HF := Lib.hid (box_fr hf)
  go_wp2_with fail
  all_goals try (refine (sign_any _ _).mono ?_; rintro e w2 ⟨rfl, hf2⟩; have g4' := hf2.cell' g4 (non _); go_wp2_with fail)
  all_goals go_ret
  all_goals (refine ⟨ret_bool ?_, ?_⟩; rotate_left; first | exact HF.out | exact HF.out.trans hf2)
  all_goals clear hf g0 g1 g2 g3 g4
  all_goals rw [Bool.eq_iff_iff]
  all_goals simp_all [shapeM, Ex.kind, Ex.op, Ex.name, Ex.num, Ex.kids, ← toemp, i0, i1, i2, i3, i4, i5]

end Go.Proofs.YtfncbemligfloaaGreatDoor
/- Contracts of the reference's expressions: may, same, copy. -/
namespace Go.Proofs.YtfncbemligfloaaGreatDoor
open Go.RowKit
set_option linter.unusedVariables false
set_option linter.unusedSimpArgs false

mutual
def Ex.may : Ex → Nat → Bool
  | .mk k n s o l, deep => decide (deep ≤ 40) && shapeM (.mk k n s o l) && Ex.mays l (deep + 1)
def Ex.mays : List Ex → Nat → Bool
  | [], _ => true
  | e :: l, deep => Ex.may e deep && Ex.mays l deep
end
theorem mays_all : ∀ (l : List Ex) (d : Nat), Ex.mays l d = l.all (Ex.may · d)
  | [], _ => rfl
  | e :: l, d => by simp [Ex.mays, mays_all l d]
mutual
def Ex.size : Ex → Nat
  | .mk _ _ _ _ l => 1 + Ex.sizes l
def Ex.sizes : List Ex → Nat
  | [] => 0
  | e :: l => e.size + Ex.sizes l
end
theorem size_le : ∀ (l : List Ex) (k : Nat) (h : k < l.length), l[k].size ≤ Ex.sizes l
  | e :: l, 0, _ => by simp [Ex.sizes]
  | e :: l, k + 1, h => by have := size_le l k (by simpa using h); simp [Ex.sizes]; omega

theorem ex_eta (e : Ex) : Ex.mk e.kind e.num e.name e.op e.kids = e := by cases e; rfl
abbrev exV (k : UInt8) (n : UInt64) (s : ByteArray) (o : UInt8) (A : Option Addr) (len c : Nat) : Value := .agg #[vu8 k, vu64 n, .string s, vu8 o, .slice A len c]

theorem may_any (N : Nat) : ∀ (k : UInt8) (n : UInt64) (s : ByteArray) (o : UInt8) (l : List Ex) (ok : Nat → Prop) (A : Option Addr) (c deep : Nat) (w : World), Ex.size (.mk k n s o l) ≤ N → RdRows ok w 5 A 0 (Ex.ds l) → l.length ≤ c → l.length * 64 ≤ reach → deep ≤ 1000 →
   Calls Tryz.prog 75 #[exV k n s o A l.length c, .int .i64 deep] w fun e w' => e = .returned (.bool (Ex.may (.mk k n s o l) deep)) ∧ Fr Non w w' := by
  induction N with
  | zero => intro k n s o l ok A c deep w h; simp [Ex.size] at h
  | succ N ih =>
    intro k n s o l ok A c deep w hN hr hlc hc hd
    have hlen : l.length ≤ 140737488355328 := by unfold reach at hc; omega
    have hN' : Ex.sizes l ≤ N := by simp [Ex.size] at hN; omega
    clear hN
    by_cases h40 : deep ≤ 40
    · have h40' : decide ((40 : Int) < (deep : Int)) = false := by simp; omega
      cases hs : shapeM (.mk k n s o l) with
      | false =>
        have HF := Lib.hid (show Ex.may (.mk k n s o l) deep = false by simp [Ex.may, hs])
        have HS := Lib.hid hs; clear hs
        go_enter Tryz.func75, Tryz.ntmps75
        go_wp2_with fail
        refine (shape_any _ _ _ _ _ _ _ _).mono ?_
        rintro e w1 ⟨rfl, hf⟩
        rw [HS.out]
        go_wp2_with fail
        go_ret
        exact ⟨ret_bool HF.out.symm, box_fr hf⟩
      | true =>
        have HF := Lib.hid (show Ex.may (.mk k n s o l) deep = l.all (Ex.may · (deep + 1)) by simp [Ex.may, hs, h40, mays_all])
        have HS := Lib.hid hs; clear hs
        go_enter Tryz.func75, Tryz.ntmps75
        go_wp2_with fail
        refine (shape_any _ _ _ _ _ _ _ _).mono ?_
        rintro e w1 ⟨rfl, hf⟩
        rw [HS.out]
        have g4 := box_cells hf (non _) 4 _ rfl
        have hr1 := hr.fr (box_fr hf) (fun _ _ => non _) (fun _ h => h)
        have HB := Lib.hid (box_fr hf); clear hf
        have HR := Lib.hid hr1; clear hr hr1
        have IH := Lib.hid ih; clear ih
        go_wp2_with fail
        go_loopw [5] (fun i wr => ∃ j : Nat, i = .int .i64 j ∧ j ≤ l.length ∧ Fr Non w1 wr ∧ ∀ q, q < j → ∀ hq : q < l.length, Ex.may l[q] (deep + 1) = true) (fun i _ => l.length - (intOf i).toNat)
        case atStart => exact ⟨0, rfl, by omega, fr_refl _, fun j hj => by omega⟩
        case round =>
          obtain ⟨j, rfl, hj, hfr, hno⟩ := hrel
          have HN := Lib.hid hno; clear hno
          have g4' := hfr.cell' g4 (non _)
          by_cases hlt : j < l.length
          · have hr2 := HR.out.fr hfr (fun _ _ => non _) (fun _ h => h)
            obtain ⟨b, o', A', c', rfl, hb, e0, e1, e2, e3, e4, p1, p2, p3⟩ := at_ex hr2 j hlt
            have P3 := Lib.hid p3; clear p3 hr2
            have HQ := Lib.hid (size_le l j hlt)
            go_wp2_with fail
            refine (IH.out _ _ _ _ _ ok A' c' (deep + 1) _ (by rw [ex_eta]; have := HQ.out; omega) P3.out p1 p2 (by omega)).mono ?_
            rintro e w2 ⟨rfl, hf2⟩
            rw [ex_eta]
            generalize hm : Ex.may l[j] (deep + 1) = m
            cases m with
            | true =>
              have HM := Lib.hid hm; clear hm
              go_wp2_with fail
              go_roundw
              case rel => exact ⟨j + 1, by go_num, by omega, hfr.trans hf2, till HN.out fun _ => HM.out⟩
              case measure => simp [intOf]; omega
            | false =>
              have HM := Lib.hid hm; clear hm
              go_wp2_with fail
              go_ret
              exact ⟨ret_bool (by rw [HF.out]; exact (all_false_of j hlt HM.out).symm), (HB.out.trans hfr).trans hf2⟩
          · go_wp2_with fail
            go_ret
            exact ⟨ret_bool (by rw [HF.out]; exact (all_true_of fun q hq => HN.out q (by omega) hq).symm), HB.out.trans hfr⟩
    · go_enter Tryz.func75, Tryz.ntmps75
      go_wp2_with fail
      go_ret
      exact ⟨ret_bool (by simp [Ex.may, h40]), (fr_refl _).alloc _⟩
theorem mayE_any (k : UInt8) (n : UInt64) (s : ByteArray) (o : UInt8) (l : List Ex) (ok : Nat → Prop) (A : Option Addr) (c : Nat) (w : World) (hr : RdRows ok w 5 A 0 (Ex.ds l)) (h1 : l.length ≤ c) (h2 : l.length * 64 ≤ reach) :
   Calls Tryz.prog 53 #[exV k n s o A l.length c] w fun e w' => e = .returned (.bool (Ex.may (.mk k n s o l) 1)) ∧ Fr Non w w' := by
  have HR := Lib.hid (hr.fr ((fr_refl w).alloc (.cells #[vu8 k, vu64 n, .string s, vu8 o, .slice A l.length c] 46)) (fun _ _ => non _) (fun _ h => h)); clear hr
  go_enter Tryz.func53, Tryz.ntmps53
  go_wp2_with fail
  refine (may_any (Ex.size (.mk k n s o l)) _ _ _ _ _ ok A c 1 _ (Nat.le_refl _) HR.out h1 h2 (by omega)).mono ?_
  rintro e w2 ⟨rfl, hf⟩
  go_wp2_with fail
  go_ret
  exact ⟨rfl, box_fr hf⟩

end Go.Proofs.YtfncbemligfloaaGreatDoor
/- Contracts of the reference's copies. -/
namespace Go.Proofs.YtfncbemligfloaaGreatDoor
open Go.RowKit
set_option linter.unusedVariables false
set_option linter.unusedSimpArgs false

set_option maxHeartbeats 1000000 in
theorem copyE_any (N : Nat) : ∀ (k : UInt8) (n : UInt64) (s : ByteArray) (o : UInt8) (l : List Ex) (ok : Nat → Prop) (A : Option Addr) (c : Nat) (w : World), Ex.size (.mk k n s o l) ≤ N →
    RdRows ok w 5 A 0 (Ex.ds l) → l.length ≤ c → l.length * 64 ≤ reach →
   Calls Tryz.prog 47 #[exV k n s o A l.length c] w fun e w' => ∃ A' c', e = .returned (exV k n s o A' l.length c') ∧ Fr Non w w' ∧ l.length ≤ c' ∧ RdRows (New w.heap.size w') w' 5 A' 0 (Ex.ds l) := by
  induction N with
  | zero => intro k n s o l ok A c w h; simp [Ex.size] at h
  | succ N ih =>
    intro k n s o l ok A c w hN hr hlc hc
    have hlen : l.length ≤ 140737488355328 := by unfold reach at hc; omega
    have hN' : Ex.sizes l ≤ N := by simp [Ex.size] at hN; omega
    clear hN
    have IH := Lib.hid ih; clear ih
    have HR := Lib.hid hr; clear hr
    go_enter Tryz.func47, Tryz.ntmps47
    go_wp2_with fail
    obtain ⟨W1, HW1⟩ : ∃ W1, W1 = (w.alloc (.cells #[vu8 k, vu64 n, .string s, vu8 o, .slice A l.length c] 46)).alloc (.cells #[.int .u8 0, .int .u64 0, .string ⟨#[]⟩, .int .u8 0, .slice none 0 0] 46) := ⟨_, rfl⟩
    go_loopw [3, 4] (fun v i wr => ∃ j : Nat, i = .int .i64 j ∧ j ≤ l.length ∧ Fr Non W1 wr ∧ Own (w.heap.size + 2) 46 5 wr v (Ex.ds (l.take j))) (fun _ i _ => l.length - (intOf i).toNat)
    case atStart => exact ⟨0, rfl, by omega, HW1 ▸ fr_refl _, Own.nil _ _ _ _⟩
    case round =>
      obtain ⟨j, rfl, hj, hfr, hown⟩ := hrel
      have hz : w.heap.size + 2 ≤ wr.heap.size := by have := hfr.size; rw [HW1] at this; simpa using this
      have hb1 : wr.heap[w.heap.size]? = some (.cells #[vu8 k, vu64 n, .string s, vu8 o, .slice A l.length c] 46 (0, 0)) := blk_fr (by rw [HW1]; exact blk_old (blk_new _ _ _)) hfr (non _)
      have hb2 : wr.heap[w.heap.size + 1]? = some (.cells #[.int .u8 0, .int .u64 0, .string ⟨#[]⟩, .int .u8 0, .slice none 0 0] 46 (0, 0)) := blk_fr (by rw [HW1]; exact blk_new' (by simp) _ _) hfr (non _)
      have g4 := (cells_of hb1).1 4 _ rfl
      have hf0 : Fr Non w W1 := by rw [HW1]; exact ((fr_refl w).alloc _).alloc _
      have hW1 : w.heap.size + 2 ≤ W1.heap.size := by rw [HW1]; simp
      have hW2 : W1.heap.size ≤ w.heap.size + 2 := by rw [HW1]; simp
      clear HW1
      obtain ⟨A3, c3, rfl, hc3⟩ := hown.slice
      have hn : (Ex.ds (l.take j)).length = j := by simp; omega
      rw [hn] at hc3 hown ⊢
      have HN := Lib.hid hn; clear hn
      by_cases hlt : j < l.length
      · obtain ⟨b, o1, A1, c1, rfl, hb, e0, e1, e2, e3, e4, p1, p2, p3⟩ := at_ex (HR.out.fr (hf0.trans hfr) (fun _ _ => non _) (fun _ h => h)) j hlt
        have P3 := Lib.hid p3; clear p3
        have HQ := Lib.hid (size_le l j hlt)
        have HO := Lib.hid hown; clear hown
        have HF := Lib.hid hfr; clear hfr
        have HF0 := Lib.hid hf0; clear hf0
        have HB1 := Lib.hid hb1; clear hb1
        have HB2 := Lib.hid hb2; clear hb2
        go_wp2_with fail
        refine (IH.out _ _ _ _ _ ok A1 c1 _ (by rw [ex_eta]; have := HQ.out; omega) P3.out p1 p2).mono ?_
        rintro e w2 ⟨A2, c2, rfl, hf2, hc2, hr2⟩
        have HR2 := Lib.hid hr2; clear hr2
        have HF2 := Lib.hid hf2; clear hf2
        go_wp2_with (at_builtin; refine app_ex rfl _ _ rfl (w.heap.size + 2) (.slice A3 j c3) (Ex.ds (l.take j)) rfl ?o ⟨w2.heap.size, 0, none⟩ 1 1 rfl [l[j].d] _ ?ch rfl (new_cells _ _ _) (one_ex _ _ _ _ _ _ _) ?b1 ?b2 ?b3 ?k)
        case o => exact HO.out.fr (HF2.out.alloc _) (fun _ _ => non _)
        case ch => exact chunk_ex l[j] hc2 p2 (HR2.out.fr ((fr_refl w2).alloc _) (fun _ _ => non _) (new_own HO.out.lt (by omega) (by simp)))
        case b1 => rw [HN.out]; exact (room64 (by omega)).1
        case b2 => rw [HN.out]; exact (room64 (by omega)).2
        case b3 => have := HF2.out.size; simp; omega
        case k =>
          intro v' w' hown' hfr'
          have HO' := Lib.hid hown'; clear hown'
          have HF' := Lib.hid hfr'; clear hfr'
          go_wp2_with fail
          go_roundw
          case rel => exact ⟨j + 1, by go_num, by omega, ((HF.out.trans HF2.out).alloc _).then HF'.out (fun k hk ht => by have := ht.1; omega), by rw [take_snoc _ _ hlt, Ex.ds_eq, List.map_append, ← Ex.ds_eq]; exact HO'.out⟩
          case measure => simp [intOf]; omega
      · have HO := Lib.hid hown; clear hown
        have HF := Lib.hid hfr; clear hfr
        have HF0 := Lib.hid hf0; clear hf0
        have g0 := (cells_of hb1).1 0 _ rfl
        have g1 := (cells_of hb1).1 1 _ rfl
        have g2 := (cells_of hb1).1 2 _ rfl
        have g3 := (cells_of hb1).1 3 _ rfl
        have gf := (cells_of hb1).2 4
        have k0 := (cells_of hb2).1 0 _ rfl
        have k1 := (cells_of hb2).1 1 _ rfl
        have k2 := (cells_of hb2).1 2 _ rfl
        have k3 := (cells_of hb2).1 3 _ rfl
        have k4 := (cells_of hb2).1 4 _ rfl
        have kf := (cells_of hb2).2
        clear hb1 hb2
        go_wp2_with fail
        refine bodyPost_ret (v := exV k n s o A3 j c3) ?_ rfl ?_
        · simp [results, Tryz.results47, go_sem, k0, k1, k2, k3, k4]
        · obtain rfl : j = l.length := by omega
          refine ⟨A3, c3, rfl, ?_, hc3, ?_⟩
          · repeat (first | with_reducible exact HF0.out.trans HF.out | (with_reducible refine Fr.setCell ?_ _ _ ?_; rotate_left; exact .inr (by simp)))
          · have h3 := HO.out.rows
            rw [List.take_length] at h3
            refine h3.fr (S := fun k => k < w.heap.size + 2) ?_ (fun b hb => by have := hb.1; omega) (fun b hb => ⟨by have := hb.1; omega, by simp; exact hb.2⟩)
            repeat (first | with_reducible exact Fr.refl _ _ | (with_reducible refine Fr.setCell ?_ _ _ ?_; rotate_left; exact .inl (by simp)))

/-- The copy of an expression as a value. -/
theorem copyX_any (e : Ex) (ok : Nat → Prop) (A : Option Addr) (c : Nat) (w : World) (hr : RdRows ok w 5 A 0 (Ex.ds e.kids)) (h1 : e.kids.length ≤ c) (h2 : e.kids.length * 64 ≤ reach) :
   Calls Tryz.prog 47 #[exV e.kind e.num e.name e.op A e.kids.length c] w fun r w' => ∃ A' c', r = .returned (exV e.kind e.num e.name e.op A' e.kids.length c') ∧ Fr Non w w' ∧ e.kids.length ≤ c' ∧ RdRows (New w.heap.size w') w' 5 A' 0 (Ex.ds e.kids) :=
  copyE_any e.size _ _ _ _ _ ok A c w (by rw [ex_eta]; exact Nat.le_refl _) hr h1 h2

set_option maxHeartbeats 1000000 in
theorem copyExprs_any (l : List Ex) (ok : Nat → Prop) (A : Option Addr) (c : Nat) (w : World) (hr : RdRows ok w 5 A 0 (Ex.ds l)) (hlc : l.length ≤ c) (hc : l.length * 64 ≤ reach) :
   Calls Tryz.prog 27 #[.slice A l.length c] w fun r w' => ∃ A' c', r = .returned (.slice A' l.length c') ∧ Fr Non w w' ∧ l.length ≤ c' ∧ RdRows (New w.heap.size w') w' 5 A' 0 (Ex.ds l) := by
  have hlen : l.length ≤ 140737488355328 := by unfold reach at hc; omega
  have HR := Lib.hid hr; clear hr
  go_enter Tryz.func27, Tryz.ntmps27
  go_wp2_with fail
  go_loopw [3, 4] (fun v i wr => ∃ j : Nat, i = .int .i64 j ∧ j ≤ l.length ∧ Fr Non w wr ∧ Own w.heap.size 46 5 wr v (Ex.ds (l.take j))) (fun _ i _ => l.length - (intOf i).toNat)
  case atStart => exact ⟨0, rfl, by omega, fr_refl _, Own.nil _ _ _ _⟩
  case round =>
    obtain ⟨j, rfl, hj, hfr, hown⟩ := hrel
    have hz : w.heap.size ≤ wr.heap.size := hfr.size
    obtain ⟨A3, c3, rfl, hc3⟩ := hown.slice
    have hn : (Ex.ds (l.take j)).length = j := by simp; omega
    rw [hn] at hc3 hown ⊢
    have HN := Lib.hid hn; clear hn
    by_cases hlt : j < l.length
    · obtain ⟨b, o1, A1, c1, rfl, hb, e0, e1, e2, e3, e4, p1, p2, p3⟩ := at_ex (HR.out.fr hfr (fun _ _ => non _) (fun _ h => h)) j hlt
      have P3 := Lib.hid p3; clear p3
      have HO := Lib.hid hown; clear hown
      have HF := Lib.hid hfr; clear hfr
      go_wp2_with fail
      refine (copyX_any l[j] ok A1 c1 _ P3.out p1 p2).mono ?_
      rintro e w2 ⟨A2, c2, rfl, hf2, hc2, hr2⟩
      have HR2 := Lib.hid hr2; clear hr2
      have HF2 := Lib.hid hf2; clear hf2
      go_wp2_with (at_builtin; refine app_ex rfl _ _ rfl w.heap.size (.slice A3 j c3) (Ex.ds (l.take j)) rfl ?o ⟨w2.heap.size, 0, none⟩ 1 1 rfl [l[j].d] _ ?ch rfl (new_cells _ _ _) (one_ex _ _ _ _ _ _ _) ?b1 ?b2 ?b3 ?k)
      case o => exact HO.out.fr (HF2.out.alloc _) (fun _ _ => non _)
      case ch => exact chunk_ex l[j] hc2 p2 (HR2.out.fr ((fr_refl w2).alloc _) (fun _ _ => non _) (new_own HO.out.lt (by omega) (by simp)))
      case b1 => rw [HN.out]; exact (room64 (by omega)).1
      case b2 => rw [HN.out]; exact (room64 (by omega)).2
      case b3 => have := HF2.out.size; simp; omega
      case k =>
        intro v' w' hown' hfr'
        have HO' := Lib.hid hown'; clear hown'
        have HF' := Lib.hid hfr'; clear hfr'
        go_wp2_with fail
        go_roundw
        case rel => exact ⟨j + 1, by go_num, by omega, ((HF.out.trans HF2.out).alloc _).then HF'.out (fun k hk ht => by have := ht.1; omega), by rw [take_snoc _ _ hlt, Ex.ds_eq, List.map_append, ← Ex.ds_eq]; exact HO'.out⟩
        case measure => simp [intOf]; omega
    · have HO := Lib.hid hown; clear hown
      have HF := Lib.hid hfr; clear hfr
      go_wp2_with fail
      go_ret
      obtain rfl : j = l.length := by omega
      have h3 := HO.out.rows
      rw [List.take_length] at h3
      exact ⟨A3, c3, rfl, HF.out, hc3, h3⟩
end Go.Proofs.YtfncbemligfloaaGreatDoor
/- Contracts of the reference's copies of statements and programs. -/
namespace Go.Proofs.YtfncbemligfloaaGreatDoor
open Go.RowKit
set_option linter.unusedVariables false
set_option linter.unusedSimpArgs false

mutual
def St.size : St → Nat
  | .mk _ _ _ _ _ _ _ body els => 1 + St.sizes body + St.sizes els
def St.sizes : List St → Nat
  | [] => 0
  | s :: l => s.size + St.sizes l
end
theorem St.size_eq (s : St) : s.size = 1 + St.sizes s.body + St.sizes s.els := by cases s; rfl
theorem ssize_le : ∀ (l : List St) (k : Nat) (h : k < l.length), l[k].size ≤ St.sizes l
  | e :: l, 0, _ => by simp [St.sizes]
  | e :: l, k + 1, h => by have := ssize_le l k (by simpa using h); simp [St.sizes]; omega

set_option maxHeartbeats 2000000 in
theorem copySts_any (N : Nat) : ∀ (l : List St) (ok : Nat → Prop) (A : Option Addr) (c : Nat) (w : World), St.sizes l ≤ N → (∀ k, ok k → k < w.heap.size) → RdRows ok w 9 A 0 (St.ds l) → l.length ≤ c → l.length * 144 ≤ reach →
   Calls Tryz.prog 13 #[.slice A l.length c] w fun r w' => ∃ A' c', r = .returned (.slice A' l.length c') ∧ Fr Non w w' ∧ l.length ≤ c' ∧ RdRows (New w.heap.size w') w' 9 A' 0 (St.ds l) := by
  induction N with
  | zero =>
    intro l ok A c w hN hok hr hlc hc
    obtain rfl : l = [] := by cases l with | nil => rfl | cons s l => cases s; simp [St.sizes, St.size] at hN
    go_enter Tryz.func13, Tryz.ntmps13
    go_wp2_with fail
    refine wp_loop_rounds 1 ?_
    rw [rounds_succ]
    go_wp2_with fail
    go_ret
    exact ⟨none, 0, rfl, fr_refl _, Nat.le_refl _, trivial⟩
  | succ N ih =>
  intro l ok A c w hN hok hr hlc hc
  have hlen : l.length ≤ 140737488355328 := by unfold reach at hc; omega
  have HR := Lib.hid hr; clear hr
  have HK := Lib.hid hok; clear hok
  have IH := Lib.hid ih; clear ih
  go_enter Tryz.func13, Tryz.ntmps13
  go_wp2_with fail
  go_loopw [3, 4] (fun v i wr => ∃ j : Nat, i = .int .i64 j ∧ j ≤ l.length ∧ Fr Non w wr ∧ Own w.heap.size 54 9 wr v (St.ds (l.take j))) (fun _ i _ => l.length - (intOf i).toNat)
  case atStart => exact ⟨0, rfl, by omega, fr_refl _, Own.nil _ _ _ _⟩
  case round =>
    obtain ⟨j, rfl, hj, hfr, hown⟩ := hrel
    have hz : w.heap.size ≤ wr.heap.size := hfr.size
    obtain ⟨A0, c0, rfl, hc0⟩ := hown.slice
    have hn : (St.ds (l.take j)).length = j := by simp; omega
    rw [hn] at hc0 hown ⊢
    have HN := Lib.hid hn; clear hn
    by_cases hlt : j < l.length
    · have hokr : ∀ k, ok k → k < wr.heap.size := fun k h => Nat.lt_of_lt_of_le (HK.out k h) hz
      have HKR := Lib.hid hokr; clear hokr
      obtain ⟨b, o1, A1, c1, A2, c2, A3, c3, A4, c4, rfl, hb, e0, e1, e2, e3, e4, e5, e6, e7, e8, ⟨p1, q1, r1⟩, ⟨p2, q2, r2⟩, ⟨p3, q3, r3⟩, ⟨p4, q4, r4⟩⟩ := at_st (HR.out.fr hfr (fun _ _ => non _) (fun _ h => h)) j hlt
      have R1 := Lib.hid r1; clear r1
      have R2 := Lib.hid r2; clear r2
      have R3 := Lib.hid r3; clear r3
      have R4 := Lib.hid r4; clear r4
      have HQ := Lib.hid (ssize_le l j hlt)
      have HO := Lib.hid hown; clear hown
      have HF := Lib.hid hfr; clear hfr
      go_wp2_with fail
      refine (copyExprs_any l[j].ex ok A1 c1 _ (R1.out.fr ((fr_refl wr).alloc _) (fun _ _ => non _) (fun _ h => h)) p1 q1).mono ?_
      rintro e w2 ⟨A1', c1', rfl, hf2, hl1, hr1⟩
      have hb2 := blk_fr (blk_new _ _ _) hf2 (non _)
      have HR1 := Lib.hid hr1; clear hr1
      have HF2 := Lib.hid (box_fr hf2); clear hf2
      have g5 := (cells_of hb2).1 5 _ rfl
      have g6 := (cells_of hb2).1 6 _ rfl
      have gf := (cells_of hb2).2
      have HB2 := Lib.hid hb2; clear hb2
      go_wp2_with (at_builtin; refine appX_str rfl _ _ rfl ok w2.heap.size (.slice none 0 0) [] rfl (OwnX.nil _ _ _ _ _) ?okb A2 c2 (l[j].args.map strD) (by rw [List.length_map]; rfl) ?src (one_strs _) ?b1 ?b2 ?b3 ?k)
      case okb => intro k hk; have := HKR.out k hk; have := HF2.out.size; omega
      case src => exact R2.out.fr (HF2.out.setCell _ _ (.inr (Nat.le_refl _))) (fun _ _ => non _) (fun _ h => h)
      case b1 => have := (room16 q2).1; simp; omega
      case b2 => have := (room16 q2).2; simp; omega
      case b3 => simp
      case k =>
      intro v3 w3 hown3 hf3
      obtain ⟨A2', c2', rfl, hl2⟩ := hown3.slice
      have hn3 : (l[j].args.map strD).length = l[j].args.length := List.length_map _
      rw [hn3] at hown3 hl2 ⊢
      clear hn3
      have hr2 := hown3.rows_strs
      have hf3' : Fr Non (w2.setCell ⟨wr.heap.size, 5, none⟩ (.slice A1' l[j].ex.length c1')) w3 := hf3.mono fun k _ h => by cases h.2
      have hb3 := blk_fr (blk_set HB2.out 5 (.slice A1' l[j].ex.length c1')) hf3' (non _)
      have HR2 := Lib.hid hr2; clear hr2 hown3 hf3
      have HF3 := Lib.hid ((HF2.out.setCell ⟨wr.heap.size, 5, none⟩ (.slice A1' l[j].ex.length c1') (.inr (Nat.le_refl _))).trans hf3')
      have GF3 := Lib.hid hf3'; clear hf3'
      clear g5 g6 gf
      have g6 := (cells_of hb3).1 6 _ rfl
      have g7 := (cells_of hb3).1 7 _ rfl
      have gf := (cells_of hb3).2
      have HB3 := Lib.hid hb3; clear hb3
      go_wp2_with fail
      refine (IH.out l[j].body ok A3 c3 _ (by have := HQ.out; rw [St.size_eq] at this; omega) (fun k hk => by have := HKR.out k hk; have := HF3.out.size; simp; omega) (R3.out.fr (HF3.out.setCell _ _ (.inr (Nat.le_refl _))) (fun _ _ => non _) (fun _ h => h)) p3 q3).mono ?_
      rintro e w5 ⟨A3', c3', rfl, hf5, hl3, hr3⟩
      have hb5 := blk_fr (blk_set HB3.out 6 (.slice A2' l[j].args.length c2')) hf5 (non _)
      have HR3 := Lib.hid hr3; clear hr3
      have HF5 := Lib.hid ((HF3.out.setCell ⟨wr.heap.size, 6, none⟩ (.slice A2' l[j].args.length c2') (.inr (Nat.le_refl _))).trans hf5)
      have GF5 := Lib.hid hf5; clear hf5
      clear g6 g7 gf
      have g7 := (cells_of hb5).1 7 _ rfl
      have g8 := (cells_of hb5).1 8 _ rfl
      have gf := (cells_of hb5).2
      have HB5 := Lib.hid hb5; clear hb5
      go_wp2_with fail
      refine (IH.out l[j].els ok A4 c4 _ (by have := HQ.out; rw [St.size_eq] at this; omega) (fun k hk => by have := HKR.out k hk; have := HF5.out.size; simp; omega) (R4.out.fr (HF5.out.setCell _ _ (.inr (Nat.le_refl _))) (fun _ _ => non _) (fun _ h => h)) p4 q4).mono ?_
      rintro e w7 ⟨A4', c4', rfl, hf7, hl4, hr4⟩
      have hb7 := blk_fr (blk_set HB5.out 7 (.slice A3' l[j].body.length c3')) hf7 (non _)
      have HR4 := Lib.hid hr4; clear hr4
      have HF7 := Lib.hid ((HF5.out.setCell ⟨wr.heap.size, 7, none⟩ (.slice A3' l[j].body.length c3') (.inr (Nat.le_refl _))).trans hf7)
      have GF7 := Lib.hid hf7; clear hf7
      clear g7 g8 gf
      have g0 := (cells_of hb7).1 0 _ rfl
      have g1 := (cells_of hb7).1 1 _ rfl
      have g2 := (cells_of hb7).1 2 _ rfl
      have g3 := (cells_of hb7).1 3 _ rfl
      have g4 := (cells_of hb7).1 4 _ rfl
      have g5 := (cells_of hb7).1 5 _ rfl
      have g6 := (cells_of hb7).1 6 _ rfl
      have g7 := (cells_of hb7).1 7 _ rfl
      have g8 := (cells_of hb7).1 8 _ rfl
      have gf := (cells_of hb7).2
      have HB7 := Lib.hid hb7; clear hb7
      have S7 := Lib.hid (show Fr (fun k => k = wr.heap.size) w7 (w7.setCell ⟨wr.heap.size, 8, none⟩ (.slice A4' l[j].els.length c4')) from (Fr.refl _ _).setCell _ _ (.inl rfl))
      have S5 := Lib.hid ((((Fr.refl (fun k => k = wr.heap.size) w5).setCell ⟨wr.heap.size, 7, none⟩ (.slice A3' l[j].body.length c3') (.inl rfl)).trans GF7.out.non).trans S7.out)
      have S3 := Lib.hid ((((Fr.refl (fun k => k = wr.heap.size) w3).setCell ⟨wr.heap.size, 6, none⟩ (.slice A2' l[j].args.length c2') (.inl rfl)).trans GF5.out.non).trans S5.out)
      have S2 := Lib.hid ((((Fr.refl (fun k => k = wr.heap.size) w2).setCell ⟨wr.heap.size, 5, none⟩ (.slice A1' l[j].ex.length c1') (.inl rfl)).trans GF3.out.non).trans S3.out)
      go_wp2_with (at_builtin; refine app_st rfl _ _ rfl w.heap.size (.slice A0 j c0) (St.ds (l.take j)) rfl ?o ⟨w7.heap.size, 0, none⟩ 1 1 rfl [l[j].d] [vu8 l[j].kind, .string l[j].name, .string l[j].frm, .bool l[j].sec, .bool l[j].mt, .slice A1' l[j].ex.length c1', .slice A2' l[j].args.length c2', .slice A3' l[j].body.length c3', .slice A4' l[j].els.length c4'] ?ch rfl ?nc (one_st _ _ _ _ _ _ _ _ _ _ _ _ _ _ _ _ _) ?b1 ?b2 ?b3 ?k)
      case nc => exact new_cells' (by simp)
      case o => exact HO.out.fr ((HF7.out.setCell _ _ (.inr (Nat.le_refl _))).alloc _) (fun _ _ => non _)
      case ch => 
        have hv := HO.out.lt
        have sz3 := HF3.out.size
        have sz2 := HF2.out.size
        have sz5 := HF5.out.size
        have sz7 := HF7.out.size
        have lt2 := blk_lt HB2.out
        have lt3 := blk_lt HB3.out
        have lt5 := blk_lt HB5.out
        have lt7 := blk_lt HB7.out
        have z2 := S2.out.size
        have z3 := S3.out.size
        have z5 := S5.out.size
        rw [setCell_size] at z2 z3 z5
        refine chunk_st l[j] hl1 q1 (HR1.out.fr (S2.out.alloc _) ?_ ?_) hl2 q2 (HR2.out.fr (S3.out.alloc _) ?_ ?_) hl3 q3 (HR3.out.fr (S5.out.alloc _) ?_ ?_) hl4 q4 (HR4.out.fr (S7.out.alloc _) ?_ ?_)
        all_goals (intro k hk; have h1 := hk.1; have h2 := hk.2; try simp at h1; try simp at h2)
        all_goals first
          | (intro h; have h : k = wr.heap.size := h; omega)
          | (refine ⟨by omega, by simp; omega, fun e => ?_⟩; have := (hv k e).2; omega)
      case b1 => rw [HN.out]; exact (room144 (by omega)).1
      case b2 => rw [HN.out]; exact (room144 (by omega)).2
      case b3 => have := HF7.out.size; simp; omega
      case k =>
        intro v' w' hown' hfr'
        have HO' := Lib.hid hown'; clear hown'
        have HF' := Lib.hid hfr'; clear hfr'
        go_wp2_with fail
        go_roundw
        case rel => exact ⟨j + 1, by go_num, by omega, ((HF.out.trans ((HF7.out.setCell _ _ (.inr (Nat.le_refl _))))).alloc _).then HF'.out (fun k hk ht => by have := ht.1; omega), by rw [take_snoc _ _ hlt, St.ds_eq, List.map_append, ← St.ds_eq]; exact HO'.out⟩
        case measure => simp [intOf]; omega
    · have HO := Lib.hid hown; clear hown
      have HF := Lib.hid hfr; clear hfr
      go_wp2_with fail
      go_ret
      obtain rfl : j = l.length := by omega
      have h3 := HO.out.rows
      rw [List.take_length] at h3
      exact ⟨A0, c0, rfl, HF.out, hc0, h3⟩

set_option maxHeartbeats 2000000 in
theorem copyP_any (l : List Fu) (ok : Nat → Prop) (A : Option Addr) (c : Nat) (w : World) (hok : ∀ k, ok k → k < w.heap.size) (hr : RdRows ok w 5 A 0 (l.map Fu.d)) (hlc : l.length ≤ c) (hc : l.length * 96 ≤ reach) :
   Calls Tryz.prog 12 #[.agg #[.slice A l.length c]] w fun r w' => ∃ A' c', r = .returned (.agg #[.slice A' l.length c']) ∧ Fr Non w w' ∧ l.length ≤ c' ∧ RdRows (New w.heap.size w') w' 5 A' 0 (l.map Fu.d) := by
  have hlen : l.length ≤ 140737488355328 := by unfold reach at hc; omega
  have HR := Lib.hid hr; clear hr
  have HK := Lib.hid hok; clear hok
  go_enter Tryz.func12, Tryz.ntmps12
  go_wp2_with fail
  obtain ⟨W1, HW1⟩ : ∃ W1, W1 = ((w.alloc (.cells #[.slice A l.length c] 24)).alloc (.cells #[.slice none 0 0] 24)).alloc (.cells #[.slice none 0 0] 24) := ⟨_, rfl⟩
  have hb1 : W1.heap[w.heap.size]? = some (.cells #[.slice A l.length c] 24 (0, 0)) := by rw [HW1]; exact blk_old (blk_old (blk_new _ _ _))
  have hb2 : W1.heap[w.heap.size + 1]? = some (.cells #[.slice none 0 0] 24 (0, 0)) := by rw [HW1]; exact blk_old (blk_new' (by simp) _ _)
  have hb3 : W1.heap[w.heap.size + 2]? = some (.cells #[.slice none 0 0] 24 (0, 0)) := by rw [HW1]; exact blk_new' (by simp) _ _
  have hf0 : Fr Non w W1 := by rw [HW1]; exact (((fr_refl w).alloc _).alloc _).alloc _
  have hW1 : w.heap.size + 3 ≤ W1.heap.size := by rw [HW1]; simp
  have hW2 : W1.heap.size ≤ w.heap.size + 3 := by rw [HW1]; simp
  have HB1 := Lib.hid hb1; clear hb1
  have HB2 := Lib.hid hb2; clear hb2
  have HB3 := Lib.hid hb3; clear hb3
  have HF0 := Lib.hid hf0; clear hf0
  rw [← HW1]
  clear HW1
  go_loopw [4] (fun i wr => ∃ j : Nat, i = .int .i64 j ∧ j ≤ l.length ∧ Fr (fun k => k = w.heap.size + 2) W1 wr ∧ ∃ v, wr.heap[w.heap.size + 2]? = some (.cells #[v] 24 (0, 0)) ∧ Own (w.heap.size + 3) 36 5 wr v ((l.map Fu.d).take j)) (fun i _ => l.length - (intOf i).toNat)
  case atStart => exact ⟨0, rfl, by omega, Fr.refl _ _, _, HB3.out, Own.nil _ _ _ _⟩
  case round =>
    obtain ⟨j, rfl, hj, hfr, v, hbv, hown⟩ := hrel
    have hz : w.heap.size + 3 ≤ wr.heap.size := Nat.le_trans hW1 hfr.size
    obtain ⟨A0, c0, rfl, hc0⟩ := hown.slice
    have hn : ((l.map Fu.d).take j).length = j := by simp; omega
    rw [hn] at hc0 hown hbv
    have HN := Lib.hid hn; clear hn
    have hb1 := blk_fr HB1.out hfr (by intro h; have h : w.heap.size = w.heap.size + 2 := h; omega)
    have hb2 := blk_fr HB2.out hfr (by intro h; have h : w.heap.size + 1 = w.heap.size + 2 := h; omega)
    have a0 := (cells_of hb1).1 0 _ rfl
    have HBV := Lib.hid hbv; clear hbv
    have hfw : Fr Non w wr := HF0.out.then hfr (fun k hk h => by have h : k = w.heap.size + 2 := h; omega)
    by_cases hlt : j < l.length
    · have hokr : ∀ k, ok k → k < wr.heap.size := fun k h => by have := HK.out k h; omega
      have HKR := Lib.hid hokr; clear hokr
      obtain ⟨b, o1, A1, c1, A2, c2, A3, c3, rfl, hb, e0, e1, e2, e3, e4, ⟨p1, q1, r1⟩, ⟨p2, q2, r2⟩, ⟨p3, q3, r3⟩⟩ := at_fu (HR.out.fr hfw (fun _ _ => non _) (fun _ h => h)) j hlt
      have R1 := Lib.hid r1; clear r1
      have R2 := Lib.hid r2; clear r2
      have R3 := Lib.hid r3; clear r3
      have HO := Lib.hid hown; clear hown
      have HF := Lib.hid hfr; clear hfr
      have HFW := Lib.hid hfw; clear hfw
      have HB1' := Lib.hid hb1; clear hb1
      have HB2' := Lib.hid hb2; clear hb2
      go_wp2_with (at_builtin; refine appX_pa rfl _ _ rfl ok (wr.heap.size + 1) (.slice none 0 0) [] rfl (OwnX.nil _ _ _ _ _) ?okb A1 c1 (l[j].params.map Pa.d) (by rw [List.length_map]; rfl) ?src (one_pas _) ?b1 ?b2 ?b3 ?k)
      case okb => intro k hk; have := HKR.out k hk; omega
      case src => exact R1.out.fr ((fr_refl _).alloc _) (fun _ _ => non _) (fun _ h => h)
      case b1 => have := (room24 q1).1; simp; omega
      case b2 => have := (room24 q1).2; simp; omega
      case b3 => simp
      case k =>
      intro v3 w3 hown3 hf3
      obtain ⟨A1', c1', rfl, hl1⟩ := hown3.slice
      have hn3 : (l[j].params.map Pa.d).length = l[j].params.length := List.length_map _
      rw [hn3] at hown3 hl1 ⊢
      clear hn3
      have hr1 := hown3.rows_pas
      have hf3' : Fr Non (wr.alloc (.cells #[.string l[j].name, .slice A1 l[j].params.length c1, .slice A2 l[j].body.length c2, .bool l[j].sec, .slice A3 l[j].ret.length c3] 36)) w3 := hf3.mono fun k _ h => by cases h.2
      have hb3 := blk_fr (blk_new _ _ _) hf3' (non _)
      have HR1 := Lib.hid hr1; clear hr1 hown3 hf3
      have HF3 := Lib.hid (box_fr hf3'); clear hf3'
      have g1 := (cells_of hb3).1 1 _ rfl
      have g2 := (cells_of hb3).1 2 _ rfl
      have gf := (cells_of hb3).2
      have HB3 := Lib.hid hb3; clear hb3
      go_wp2_with fail
      refine (copySts_any (St.sizes l[j].body) l[j].body ok A2 c2 _ (Nat.le_refl _) (fun k hk => by have := HKR.out k hk; have := HF3.out.size; simp; omega) (R2.out.fr (HF3.out.setCell _ _ (.inr (Nat.le_refl _))) (fun _ _ => non _) (fun _ h => h)) p2 q2).mono ?_
      rintro e w5 ⟨A2', c2', rfl, hf5, hl2, hr2⟩
      have hb5 := blk_fr (blk_set HB3.out 1 (.slice A1' l[j].params.length c1')) hf5 (non _)
      have HR2 := Lib.hid hr2; clear hr2
      have HF5 := Lib.hid ((HF3.out.setCell ⟨wr.heap.size, 1, none⟩ (.slice A1' l[j].params.length c1') (.inr (Nat.le_refl _))).trans hf5)
      have GF5 := Lib.hid hf5; clear hf5
      clear g1 g2 gf
      have g2 := (cells_of hb5).1 2 _ rfl
      have g4 := (cells_of hb5).1 4 _ rfl
      have gf := (cells_of hb5).2
      have HB5 := Lib.hid hb5; clear hb5
      go_wp2_with fail
      refine (copyExprs_any l[j].ret ok A3 c3 _ (R3.out.fr (HF5.out.setCell _ _ (.inr (Nat.le_refl _))) (fun _ _ => non _) (fun _ h => h)) p3 q3).mono ?_
      rintro e w7 ⟨A3', c3', rfl, hf7, hl3, hr3⟩
      have hb7 := blk_fr (blk_set HB5.out 2 (.slice A2' l[j].body.length c2')) hf7 (non _)
      have HR3 := Lib.hid hr3; clear hr3
      have HF7 := Lib.hid ((HF5.out.setCell ⟨wr.heap.size, 2, none⟩ (.slice A2' l[j].body.length c2') (.inr (Nat.le_refl _))).trans hf7)
      have GF7 := Lib.hid hf7; clear hf7
      clear g2 g4 gf
      have g0 := (cells_of hb7).1 0 _ rfl
      have g1 := (cells_of hb7).1 1 _ rfl
      have g2 := (cells_of hb7).1 2 _ rfl
      have g3 := (cells_of hb7).1 3 _ rfl
      have g4 := (cells_of hb7).1 4 _ rfl
      have gf := (cells_of hb7).2
      have HB7 := Lib.hid hb7; clear hb7
      have hbv7 := blk_fr HBV.out HF7.out (non _)
      have v0 := (cells_of hbv7).1 0 _ rfl
      have HBV7 := Lib.hid hbv7; clear hbv7
      have S7 := Lib.hid (show Fr (fun k => k = wr.heap.size) w7 (w7.setCell ⟨wr.heap.size, 4, none⟩ (.slice A3' l[j].ret.length c3')) from (Fr.refl _ _).setCell _ _ (.inl rfl))
      have S5 := Lib.hid ((((Fr.refl (fun k => k = wr.heap.size) w5).setCell ⟨wr.heap.size, 2, none⟩ (.slice A2' l[j].body.length c2') (.inl rfl)).trans GF7.out.non).trans S7.out)
      have S3 := Lib.hid ((((Fr.refl (fun k => k = wr.heap.size) w3).setCell ⟨wr.heap.size, 1, none⟩ (.slice A1' l[j].params.length c1') (.inl rfl)).trans GF5.out.non).trans S5.out)
      go_wp2_with (at_builtin; refine app_fu rfl _ _ rfl (w.heap.size + 3) (.slice A0 j c0) ((l.map Fu.d).take j) rfl ?o ⟨w7.heap.size, 0, none⟩ 1 1 rfl [l[j].d] [.string l[j].name, .slice A1' l[j].params.length c1', .slice A2' l[j].body.length c2', .bool l[j].sec, .slice A3' l[j].ret.length c3'] ?ch rfl ?nc (one_fu _ _ _ _ _ _ _ _ _ _ _) ?b1 ?b2 ?b3 ?k)
      case nc => exact new_cells' (by simp)
      case o => exact HO.out.fr ((HF7.out.setCell _ _ (.inr (Nat.le_refl _))).alloc _) (fun _ _ => non _)
      case ch =>
        have hv := HO.out.lt
        have sz3 := HF3.out.size
        have sz5 := HF5.out.size
        have sz7 := HF7.out.size
        have lt3 := blk_lt HB3.out
        have lt5 := blk_lt HB5.out
        have lt7 := blk_lt HB7.out
        have z3 := S3.out.size
        have z5 := S5.out.size
        rw [setCell_size] at z3 z5
        refine chunk_fu l[j] hl1 q1 (HR1.out.fr (S3.out.alloc _) ?_ ?_) hl2 q2 (HR2.out.fr (S5.out.alloc _) ?_ ?_) hl3 q3 (HR3.out.fr (S7.out.alloc _) ?_ ?_)
        all_goals (intro k hk; have h1 := hk.1; have h2 := hk.2; try simp at h1; try simp at h2)
        all_goals first
          | (intro h; have h : k = wr.heap.size := h; omega)
          | (refine ⟨by omega, by simp; omega, fun e => ?_⟩; have := (hv k e).2; omega)
      case b1 => rw [HN.out]; exact (room96 (by omega)).1
      case b2 => rw [HN.out]; exact (room96 (by omega)).2
      case b3 => have := HF7.out.size; simp; omega
      case k =>
        intro v' w' hown' hfr'
        obtain ⟨L, hL⟩ : ∃ L, L = (l.map Fu.d).take j ++ [l[j].d] := ⟨_, rfl⟩
        have hLn : L.length = j + 1 := by rw [hL]; simp; omega
        rw [← hL] at hown'
        obtain ⟨A9, c9, rfl, hc9⟩ := hown'.slice
        rw [hLn] at hown' ⊢
        have HL := Lib.hid hL; clear hL hLn hc9
        have hbv' := blk_fr (blk_old (o' := .cells #[.string l[j].name, .slice A1' l[j].params.length c1', .slice A2' l[j].body.length c2', .bool l[j].sec, .slice A3' l[j].ret.length c3'] 36) (blk_fr HBV7.out S7.out (by intro h; have h : w.heap.size + 2 = wr.heap.size := h; omega))) hfr' (by intro h; have := h.1; omega)
        have HO' := Lib.hid hown'; clear hown'
        have HF' := Lib.hid hfr'; clear hfr'
        have v0' := (cells_of hbv').1 0 _ rfl
        have vf' := (cells_of hbv').2
        have HBV' := Lib.hid hbv'; clear hbv'
        go_wp2_with fail
        go_roundw
        case rel => 
          refine ⟨j + 1, by go_num, by omega, ?_, _, blk_set HBV'.out 0 _, ?_⟩
          · refine Fr.setCell ?_ _ _ (.inl rfl)
            exact (HF.out.trans ((HF7.out.setCell _ _ (.inr (Nat.le_refl _))).alloc _).non).then HF'.out (fun k hk ht => by have := ht.1; omega)
          · rw [show (l.map Fu.d).take (j + 1) = L by rw [HL.out, take_snoc _ _ (by simpa using hlt), List.getElem_map]]
            exact HO'.out.fr (S := fun k => k = w.heap.size + 2) ((Fr.refl _ _).setCell _ _ (.inl rfl)) (fun k hk h => by have h : k = w.heap.size + 2 := h; omega)
        case measure => simp [intOf]; omega
    · have HO := Lib.hid hown; clear hown
      have HF := Lib.hid hfr; clear hfr
      have HFW := Lib.hid hfw; clear hfw
      have v0 := (cells_of HBV.out).1 0 _ rfl
      have r0 := (cells_of hb2).1 0 _ rfl
      have rf := (cells_of hb2).2
      clear hb1 hb2
      go_wp2_with fail
      refine bodyPost_ret (v := .agg #[.slice A0 j c0]) ?_ rfl ?_
      · simp [results, Tryz.results12, go_sem, r0]
      · obtain rfl : j = l.length := by omega
        refine ⟨A0, c0, rfl, HFW.out.setCell _ _ (.inr (by simp)), hc0, ?_⟩
        have h3 := HO.out.rows
        rw [List.take_of_length_le (by simp)] at h3
        exact h3.fr (S := fun k => k = w.heap.size + 1) ((Fr.refl _ _).setCell _ _ (.inl rfl)) (fun b hb h => by have h : b = w.heap.size + 1 := h; have := hb.1; omega) (fun b hb => ⟨by have := hb.1; omega, by simp; exact hb.2⟩)
end Go.Proofs.YtfncbemligfloaaGreatDoor
/- Contracts of the reference's looks at programs: which statements, functions and programs may be. -/
namespace Go.Proofs.YtfncbemligfloaaGreatDoor
open Go.RowKit
set_option linter.unusedVariables false
set_option linter.unusedSimpArgs false

def nIs (k : UInt8) : Bool := decide (1 ≤ k.toNat ∧ k.toNat ≤ 12)
def nEx (k : UInt8) : Int := if k.toNat = 4 ∨ k.toNat = 8 then 2 else if k.toNat = 11 then -1 else if k.toNat = 1 ∨ k.toNat = 2 ∨ k.toNat = 3 ∨ k.toNat = 5 ∨ k.toNat = 6 ∨ k.toNat = 7 ∨ k.toNat = 10 then 1 else 0
def nName (k : UInt8) : Bool := decide (k.toNat = 1 ∨ k.toNat = 2 ∨ k.toNat = 3 ∨ k.toNat = 4 ∨ k.toNat = 7 ∨ k.toNat = 8 ∨ k.toNat = 9 ∨ k.toNat = 10)
def nFrom (k : UInt8) : Bool := decide (k.toNat = 8 ∨ k.toNat = 9 ∨ k.toNat = 11)
def nSec (k : UInt8) : Bool := decide (k.toNat = 1 ∨ k.toNat = 3)
def nMut (k : UInt8) : Bool := decide (k.toNat = 8)
def nBody (k : UInt8) : Bool := decide (5 ≤ k.toNat ∧ k.toNat ≤ 8)
def nElse (k : UInt8) : Bool := decide (k.toNat = 5)
def needV (k : UInt8) : Value := .agg #[.int .i64 (nEx k), .bool (nName k), .bool (nFrom k), .bool (nSec k), .bool (nMut k), .bool (nBody k), .bool (nElse k)]

theorem needV_at (k : UInt8) (n : Nat) (h : k.toNat = n) (hn : n < 256) : needV k = needV (UInt8.ofNat n) ∧ nIs k = nIs (UInt8.ofNat n) := by
  obtain rfl : k = UInt8.ofNat n := UInt8.toNat.inj (by rw [h]; simp; omega)
  exact ⟨rfl, rfl⟩
theorem needV_no (k : UInt8) (h : k.toNat = 0 ∨ 12 < k.toNat) : needV k = .agg #[.int .i64 0, .bool false, .bool false, .bool false, .bool false, .bool false, .bool false] ∧ nIs k = false := by
  unfold needV nEx nName nFrom nSec nMut nBody nElse nIs
  repeat rw [if_neg (by omega)]
  repeat rw [decide_eq_false (by omega)]
  exact ⟨rfl, rfl⟩

set_option maxHeartbeats 2000000 in
theorem needs_any (k : UInt8) (w : World) : Calls Tryz.prog 50 #[vu8 k] w fun e w' => e = .returned (.tuple #[needV k, .bool (nIs k)]) ∧ Fr Non w w' := by
  have hc := k.toNat_lt
  go_enter Tryz.func50, Tryz.ntmps50
  go_wp2_with fail
  all_goals simp only [beq_iff_eq, beq_eq_false_iff_ne, ne_eq] at *
  all_goals first
    | (have hk : k.toNat = 1 := by omega
       obtain ⟨h1, h2⟩ := needV_at k 1 hk (by omega)
       rw [h1, h2]
       refine bodyPost_ret (v := .tuple #[needV (UInt8.ofNat 1), .bool (nIs (UInt8.ofNat 1))]) (by simp [results, Tryz.results50, go_sem, needV, nEx, nName, nFrom, nSec, nMut, nBody, nElse, nIs]) rfl ⟨rfl, ?_⟩)
    | (have hk : k.toNat = 2 := by omega
       obtain ⟨h1, h2⟩ := needV_at k 2 hk (by omega)
       rw [h1, h2]
       refine bodyPost_ret (v := .tuple #[needV (UInt8.ofNat 2), .bool (nIs (UInt8.ofNat 2))]) (by simp [results, Tryz.results50, go_sem, needV, nEx, nName, nFrom, nSec, nMut, nBody, nElse, nIs]) rfl ⟨rfl, ?_⟩)
    | (have hk : k.toNat = 3 := by omega
       obtain ⟨h1, h2⟩ := needV_at k 3 hk (by omega)
       rw [h1, h2]
       refine bodyPost_ret (v := .tuple #[needV (UInt8.ofNat 3), .bool (nIs (UInt8.ofNat 3))]) (by simp [results, Tryz.results50, go_sem, needV, nEx, nName, nFrom, nSec, nMut, nBody, nElse, nIs]) rfl ⟨rfl, ?_⟩)
    | (have hk : k.toNat = 4 := by omega
       obtain ⟨h1, h2⟩ := needV_at k 4 hk (by omega)
       rw [h1, h2]
       refine bodyPost_ret (v := .tuple #[needV (UInt8.ofNat 4), .bool (nIs (UInt8.ofNat 4))]) (by simp [results, Tryz.results50, go_sem, needV, nEx, nName, nFrom, nSec, nMut, nBody, nElse, nIs]) rfl ⟨rfl, ?_⟩)
    | (have hk : k.toNat = 5 := by omega
       obtain ⟨h1, h2⟩ := needV_at k 5 hk (by omega)
       rw [h1, h2]
       refine bodyPost_ret (v := .tuple #[needV (UInt8.ofNat 5), .bool (nIs (UInt8.ofNat 5))]) (by simp [results, Tryz.results50, go_sem, needV, nEx, nName, nFrom, nSec, nMut, nBody, nElse, nIs]) rfl ⟨rfl, ?_⟩)
    | (have hk : k.toNat = 6 := by omega
       obtain ⟨h1, h2⟩ := needV_at k 6 hk (by omega)
       rw [h1, h2]
       refine bodyPost_ret (v := .tuple #[needV (UInt8.ofNat 6), .bool (nIs (UInt8.ofNat 6))]) (by simp [results, Tryz.results50, go_sem, needV, nEx, nName, nFrom, nSec, nMut, nBody, nElse, nIs]) rfl ⟨rfl, ?_⟩)
    | (have hk : k.toNat = 7 := by omega
       obtain ⟨h1, h2⟩ := needV_at k 7 hk (by omega)
       rw [h1, h2]
       refine bodyPost_ret (v := .tuple #[needV (UInt8.ofNat 7), .bool (nIs (UInt8.ofNat 7))]) (by simp [results, Tryz.results50, go_sem, needV, nEx, nName, nFrom, nSec, nMut, nBody, nElse, nIs]) rfl ⟨rfl, ?_⟩)
    | (have hk : k.toNat = 8 := by omega
       obtain ⟨h1, h2⟩ := needV_at k 8 hk (by omega)
       rw [h1, h2]
       refine bodyPost_ret (v := .tuple #[needV (UInt8.ofNat 8), .bool (nIs (UInt8.ofNat 8))]) (by simp [results, Tryz.results50, go_sem, needV, nEx, nName, nFrom, nSec, nMut, nBody, nElse, nIs]) rfl ⟨rfl, ?_⟩)
    | (have hk : k.toNat = 9 := by omega
       obtain ⟨h1, h2⟩ := needV_at k 9 hk (by omega)
       rw [h1, h2]
       refine bodyPost_ret (v := .tuple #[needV (UInt8.ofNat 9), .bool (nIs (UInt8.ofNat 9))]) (by simp [results, Tryz.results50, go_sem, needV, nEx, nName, nFrom, nSec, nMut, nBody, nElse, nIs]) rfl ⟨rfl, ?_⟩)
    | (have hk : k.toNat = 10 := by omega
       obtain ⟨h1, h2⟩ := needV_at k 10 hk (by omega)
       rw [h1, h2]
       refine bodyPost_ret (v := .tuple #[needV (UInt8.ofNat 10), .bool (nIs (UInt8.ofNat 10))]) (by simp [results, Tryz.results50, go_sem, needV, nEx, nName, nFrom, nSec, nMut, nBody, nElse, nIs]) rfl ⟨rfl, ?_⟩)
    | (have hk : k.toNat = 11 := by omega
       obtain ⟨h1, h2⟩ := needV_at k 11 hk (by omega)
       rw [h1, h2]
       refine bodyPost_ret (v := .tuple #[needV (UInt8.ofNat 11), .bool (nIs (UInt8.ofNat 11))]) (by simp [results, Tryz.results50, go_sem, needV, nEx, nName, nFrom, nSec, nMut, nBody, nElse, nIs]) rfl ⟨rfl, ?_⟩)
    | (have hk : k.toNat = 12 := by omega
       obtain ⟨h1, h2⟩ := needV_at k 12 hk (by omega)
       rw [h1, h2]
       refine bodyPost_ret (v := .tuple #[needV (UInt8.ofNat 12), .bool (nIs (UInt8.ofNat 12))]) (by simp [results, Tryz.results50, go_sem, needV, nEx, nName, nFrom, nSec, nMut, nBody, nElse, nIs]) rfl ⟨rfl, ?_⟩)
    | (obtain ⟨h1, h2⟩ := needV_no k (by omega)
       rw [h1, h2]
       refine bodyPost_ret (v := .tuple #[.agg #[.int .i64 0, .bool false, .bool false, .bool false, .bool false, .bool false, .bool false], .bool false]) (by simp [results, Tryz.results50, go_sem]) rfl ⟨rfl, ?_⟩)
  all_goals first | exact (fr_refl w).alloc _ | exact ((fr_refl w).alloc _).setCell _ _ (.inr (Nat.le_refl _))

def namedX (s : ByteArray) (b : Bool) : Bool := if b then namedM s else emp s
theorem namedX_any (s : ByteArray) (b : Bool) (w : World) : Calls Tryz.prog 51 #[.string s, .bool b] w fun e w' => e = .returned (.bool (namedX s b)) ∧ Fr Non w w' := by
  cases b with
  | true =>
    go_enter Tryz.func51, Tryz.ntmps51
    go_wp2_with fail
    refine (named_any _ _).mono ?_
    rintro e w1 ⟨rfl, hf⟩
    go_wp2_with fail
    go_ret
    exact ⟨rfl, hf⟩
  | false =>
    go_enter Tryz.func51, Tryz.ntmps51
    go_wp2_with fail
    go_ret
    exact ⟨ret_bool (by first | rfl | (rw [toemp]; rfl)), fr_refl _⟩

theorem names_any (l : List ByteArray) (ok : Nat → Prop) (A : Option Addr) (c : Nat) (w : World) (hr : RdRows ok w 1 A 0 (l.map strD)) (hc : l.length * 16 ≤ reach) :
   Calls Tryz.prog 52 #[.slice A l.length c] w fun e w' => e = .returned (.bool (l.all namedM)) ∧ Fr Non w w' := by
  have hlen : l.length ≤ 140737488355328 := by unfold reach at hc; omega
  have HR := Lib.hid hr; clear hr
  go_enter Tryz.func52, Tryz.ntmps52
  go_wp2_with fail
  go_loopw [3] (fun i wr => ∃ j : Nat, i = .int .i64 j ∧ j ≤ l.length ∧ Fr Non w wr ∧ ∀ q, q < j → ∀ hq : q < l.length, namedM l[q] = true) (fun i _ => l.length - (intOf i).toNat)
  case atStart => exact ⟨0, rfl, by omega, fr_refl _, fun j hj => by omega⟩
  case round =>
    obtain ⟨j, rfl, hj, hfr, hno⟩ := hrel
    have HN := Lib.hid hno; clear hno
    by_cases hlt : j < l.length
    · obtain ⟨b, o1, rfl, hb, e0⟩ := at_str (HR.out.fr hfr (fun _ _ => non _) (fun _ h => h)) j hlt
      go_wp2_with fail
      refine (named_any _ _).mono ?_
      rintro e w2 ⟨rfl, hf2⟩
      generalize hm : namedM l[j] = m
      have HM := Lib.hid hm; clear hm
      cases m with
      | true =>
        go_wp2_with fail
        go_roundw
        case rel => exact ⟨j + 1, by go_num, by omega, hfr.trans hf2, till HN.out fun _ => HM.out⟩
        case measure => simp [intOf]; omega
      | false =>
        go_wp2_with fail
        go_ret
        exact ⟨ret_bool (all_false_of j hlt HM.out).symm, hfr.trans hf2⟩
    · go_wp2_with fail
      go_ret
      exact ⟨ret_bool (all_true_of fun q hq => HN.out q (by omega) hq).symm, hfr⟩

def exM (e : Ex) : Bool := Ex.may e 1
theorem exM_any (e : Ex) (ok : Nat → Prop) (A : Option Addr) (c : Nat) (w : World) (hr : RdRows ok w 5 A 0 (Ex.ds e.kids)) (h1 : e.kids.length ≤ c) (h2 : e.kids.length * 64 ≤ reach) :
   Calls Tryz.prog 53 #[exV e.kind e.num e.name e.op A e.kids.length c] w fun r w' => r = .returned (.bool (exM e)) ∧ Fr Non w w' := by
  have := mayE_any e.kind e.num e.name e.op e.kids ok A c w hr h1 h2
  rw [ex_eta] at this
  exact this
theorem exprsM_any (l : List Ex) (n : Int) (ok : Nat → Prop) (A : Option Addr) (c : Nat) (w : World) (hr : RdRows ok w 5 A 0 (Ex.ds l)) (hc : l.length * 64 ≤ reach) :
   Calls Tryz.prog 32 #[.slice A l.length c, .int .i64 n] w fun e w' => e = .returned (.bool (l.all exM && ((l.length : Int) == n))) ∧ Fr Non w w' := by
  have hlen : l.length ≤ 140737488355328 := by unfold reach at hc; omega
  have HR := Lib.hid hr; clear hr
  go_enter Tryz.func32, Tryz.ntmps32
  go_wp2_with fail
  go_loopw [5] (fun i wr => ∃ j : Nat, i = .int .i64 j ∧ j ≤ l.length ∧ Fr Non w wr ∧ ∀ q, q < j → ∀ hq : q < l.length, exM l[q] = true) (fun i _ => l.length - (intOf i).toNat)
  case atStart => exact ⟨0, rfl, by omega, fr_refl _, fun j hj => by omega⟩
  case round =>
    obtain ⟨j, rfl, hj, hfr, hno⟩ := hrel
    have HN := Lib.hid hno; clear hno
    by_cases hlt : j < l.length
    · obtain ⟨b, o1, A1, c1, rfl, hb, e0, e1, e2, e3, e4, p1, p2, p3⟩ := at_ex (HR.out.fr hfr (fun _ _ => non _) (fun _ h => h)) j hlt
      have P3 := Lib.hid p3; clear p3
      go_wp2_with fail
      refine (exM_any l[j] ok A1 c1 _ P3.out p1 p2).mono ?_
      rintro e w2 ⟨rfl, hf2⟩
      generalize hm : exM l[j] = m
      have HM := Lib.hid hm; clear hm
      cases m with
      | true =>
        go_wp2_with fail
        go_roundw
        case rel => exact ⟨j + 1, by go_num, by omega, hfr.trans hf2, till HN.out fun _ => HM.out⟩
        case measure => simp [intOf]; omega
      | false =>
        go_wp2_with fail
        go_ret
        exact ⟨ret_bool (by rw [all_false_of j hlt HM.out]; rfl), hfr.trans hf2⟩
    · go_wp2_with fail
      go_ret
      exact ⟨ret_bool (by rw [all_true_of (l := l) fun q hq => HN.out q (by omega) hq]; rfl), hfr⟩
end Go.Proofs.YtfncbemligfloaaGreatDoor
/- The contract of the reference's look at one statement's form. -/
namespace Go.Proofs.YtfncbemligfloaaGreatDoor
open Go.RowKit
set_option linter.unusedVariables false
set_option linter.unusedSimpArgs false

def headM (k : UInt8) (f : ByteArray) (s m : Bool) (nb ne : Nat) : Bool := nIs k && (!s || nSec k) && (!m || nMut k) && (nb == 0 || nBody k) && (ne == 0 || nElse k) && namedX f (nFrom k)
def callM (n : ByteArray) (ex : List Ex) (args : List ByteArray) : Bool := (emp n || namedM n) && ex.all exM && decide (ex.length ≤ 8) && args.all namedM && decide (args.length ≤ 8)
def restM (k : UInt8) (n : ByteArray) (ex : List Ex) (args : List ByteArray) : Bool := namedX n (nName k) && (args.length == 0) && (ex.all exM && ((ex.length : Int) == nEx k))
def formM (s : St) : Bool := headM s.kind s.frm s.sec s.mt s.body.length s.els.length && if s.kind.toNat = 11 then callM s.name s.ex s.args else restM s.kind s.name s.ex s.args

set_option maxRecDepth 4000 in
set_option maxHeartbeats 4000000 in
theorem form_any (s : St) (ok : Nat → Prop) (A1 A2 A3 A4 : Option Addr) (c1 c2 c3 c4 : Nat) (w : World) (r1 : RdRows ok w 5 A1 0 (Ex.ds s.ex)) (q1 : s.ex.length * 64 ≤ reach) (r2 : RdRows ok w 1 A2 0 (s.args.map strD)) (q2 : s.args.length * 16 ≤ reach) (q3 : s.body.length * 144 ≤ reach) (q4 : s.els.length * 144 ≤ reach) :
   Calls Tryz.prog 31 #[.agg #[vu8 s.kind, .string s.name, .string s.frm, .bool s.sec, .bool s.mt, .slice A1 s.ex.length c1, .slice A2 s.args.length c2, .slice A3 s.body.length c3, .slice A4 s.els.length c4]] w fun e w' => e = .returned (.bool (formM s)) ∧ Fr Non w w' := by
  have hl1 : s.ex.length ≤ 140737488355328 := by unfold reach at q1; omega
  have hl2 : s.args.length ≤ 140737488355328 := by unfold reach at q2; omega
  have hl3 : s.body.length ≤ 140737488355328 := by unfold reach at q3; omega
  have hl4 : s.els.length ≤ 140737488355328 := by unfold reach at q4; omega
  have R1 := Lib.hid r1; clear r1
  have R2 := Lib.hid r2; clear r2
  have Q1 := Lib.hid q1; clear q1
  have Q2 := Lib.hid q2; clear q2 q3 q4
  go_enter Tryz.func31, Tryz.ntmps31
  go_wp2_with fail
  refine (needs_any _ _).mono ?_
  rintro e w1 ⟨rfl, hf1⟩
  have hb1 := blk_fr (blk_new _ _ _) hf1 (non _)
  have HF1 := Lib.hid (box_fr hf1); clear hf1
  have HB1 := Lib.hid hb1; clear hb1
  unfold needV
  go_upto_region 2 with fail
  obtain ⟨W1, HW1⟩ : ∃ W1, W1 = w1.alloc (.cells #[.int .i64 (nEx s.kind), .bool (nName s.kind), .bool (nFrom s.kind), .bool (nSec s.kind), .bool (nMut s.kind), .bool (nBody s.kind), .bool (nElse s.kind)] 93) := ⟨_, rfl⟩
  rw [← HW1]
  have hbb : W1.heap[w.heap.size]? = some (.cells #[vu8 s.kind, .string s.name, .string s.frm, .bool s.sec, .bool s.mt, .slice A1 s.ex.length c1, .slice A2 s.args.length c2, .slice A3 s.body.length c3, .slice A4 s.els.length c4] 54 (0, 0)) := by rw [HW1]; exact blk_old HB1.out
  have hbn : W1.heap[w1.heap.size]? = some (.cells #[.int .i64 (nEx s.kind), .bool (nName s.kind), .bool (nFrom s.kind), .bool (nSec s.kind), .bool (nMut s.kind), .bool (nBody s.kind), .bool (nElse s.kind)] 93 (0, 0)) := by rw [HW1]; exact blk_new _ _ _
  have hfw : Fr Non w W1 := by rw [HW1]; exact HF1.out.alloc _
  clear HW1
  have b2 := (cells_of hbb).1 2 _ rfl
  have b3 := (cells_of hbb).1 3 _ rfl
  have b4 := (cells_of hbb).1 4 _ rfl
  have b7 := (cells_of hbb).1 7 _ rfl
  have b8 := (cells_of hbb).1 8 _ rfl
  have n2 := (cells_of hbn).1 2 _ rfl
  have n3 := (cells_of hbn).1 3 _ rfl
  have n4 := (cells_of hbn).1 4 _ rfl
  have n5 := (cells_of hbn).1 5 _ rfl
  have n6 := (cells_of hbn).1 6 _ rfl
  have HBB := Lib.hid hbb; clear hbb
  have HBN := Lib.hid hbn; clear hbn
  have HFW := Lib.hid hfw; clear hfw
  go_cut [0, 4, 60] (fun v0 v4 v wx => v = .bool (!headM s.kind s.frm s.sec s.mt s.body.length s.els.length) ∧ Fr Non W1 wx)
  case first =>
    go_wp2_with fail
    all_goals try
      refine (namedX_any _ _ _).mono ?_
      rintro e w2 ⟨rfl, hf2⟩
      go_wp2_with fail
    all_goals go_meet
    all_goals (refine ⟨congrArg Value.bool ?_, ?_⟩; rotate_left; first | exact fr_refl _ | exact hf2)
    all_goals (clear b2 b3 b4 b7 b8 n2 n3 n4 n5 n6 HBB HBN HF1 HB1 HFW R1 R2 Q1 Q2)
    all_goals simp_all [headM, Nat.pos_iff_ne_zero]
  case rest =>
    obtain ⟨rfl, hfx⟩ := hcut
    have hbb' := blk_fr HBB.out hfx (non _)
    have hbn' := blk_fr HBN.out hfx (non _)
    have HFX := Lib.hid (HFW.out.trans hfx); clear hfx b2 b3 b4 b7 b8 n2 n3 n4 n5 n6
    have b0 := (cells_of hbb').1 0 _ rfl
    have b1 := (cells_of hbb').1 1 _ rfl
    have b5 := (cells_of hbb').1 5 _ rfl
    have b6 := (cells_of hbb').1 6 _ rfl
    have n0 := (cells_of hbn').1 0 _ rfl
    have n1 := (cells_of hbn').1 1 _ rfl
    have HBB' := Lib.hid hbb'; clear hbb'
    have HBN' := Lib.hid hbn'; clear hbn'
    generalize hh : headM s.kind s.frm s.sec s.mt s.body.length s.els.length = hd
    have HH := Lib.hid hh; clear hh
    cases hd with
    | false =>
      go_wp2_with fail
      go_ret
      exact ⟨ret_bool (by rw [formM, HH.out]; rfl), HFX.out⟩
    | true =>
      by_cases hk : s.kind.toNat = 11
      · have hk' : (((s.kind.toNat : Int)) == 11) = true := by simp [hk]
        have HK := Lib.hid hk; clear hk
        cases he : emp s.name with
        | true =>
          have he' : s.name.toList.isEmpty = true := by rw [toemp]; exact he
          have EE := Lib.hid (show (emp s.name || namedM s.name) = true by rw [he]; rfl); clear he
          go_wp2_with fail
          have b5' := b5
          have b6' := b6
          clear b0 b1 b5 b6 n0 n1
          have HF2 := HFX
          refine (exprsM_any s.ex _ ok A1 c1 _ (R1.out.fr HF2.out (fun _ _ => non _) (fun _ h => h)) Q1.out).mono ?_
          rintro e w3 ⟨rfl, hf3⟩
          rw [show (s.ex.all exM && ((s.ex.length : Int) == (s.ex.length : Int))) = s.ex.all exM by simp]
          have b5'' := hf3.cell' b5' (non _)
          have b6'' := hf3.cell' b6' (non _)
          clear b5' b6'
          have HF3 := Lib.hid (HF2.out.trans hf3); clear hf3
          generalize hm2 : s.ex.all exM = m2
          have HM2 := Lib.hid hm2; clear hm2
          cases m2 with
          | false =>
            go_wp2_with fail
            go_ret
            exact ⟨ret_bool (by rw [formM, HH.out, if_pos HK.out, callM, EE.out, HM2.out]; rfl), HF3.out⟩
          | true =>
          by_cases h8 : s.ex.length ≤ 8
          · have H8 := Lib.hid (decide_eq_true h8)
            go_wp2_with fail
            refine (names_any s.args ok A2 c2 _ (R2.out.fr HF3.out (fun _ _ => non _) (fun _ h => h)) Q2.out).mono ?_
            rintro e w4 ⟨rfl, hf4⟩
            have b6''' := hf4.cell' b6'' (non _)
            clear b5'' b6''
            have HF4 := Lib.hid (HF3.out.trans hf4); clear hf4
            generalize hm3 : s.args.all namedM = m3
            have HM3 := Lib.hid hm3; clear hm3
            cases m3 with
            | false =>
              go_wp2_with fail
              go_ret
              exact ⟨ret_bool (by rw [formM, HH.out, if_pos HK.out, callM, EE.out, HM2.out, H8.out, HM3.out]; rfl), HF4.out⟩
            | true =>
              go_wp2_with fail
              go_ret
              exact ⟨ret_bool (by rw [formM, HH.out, if_pos HK.out, callM, EE.out, HM2.out, H8.out, HM3.out, Bool.eq_iff_iff]; simp; try omega), HF4.out⟩
          · have H8 := Lib.hid (decide_eq_false h8)
            go_wp2_with fail
            go_ret
            exact ⟨ret_bool (by rw [formM, HH.out, if_pos HK.out, callM, EE.out, HM2.out, H8.out]; rfl), HF3.out⟩
        | false =>
          have he' : s.name.toList.isEmpty = false := by rw [toemp]; exact he
          have HE := Lib.hid he; clear he
          go_wp2_with fail
          refine (named_any _ _).mono ?_
          rintro e w2 ⟨rfl, hf2⟩
          have b5' := hf2.cell' b5 (non _)
          have b6' := hf2.cell' b6 (non _)
          clear b0 b1 b5 b6 n0 n1
          have HF2 := Lib.hid (HFX.out.trans hf2); clear hf2
          generalize hm : namedM s.name = m
          have EE := Lib.hid (show (emp s.name || namedM s.name) = m by rw [HE.out, hm]; rfl); clear hm
          cases m with
          | false =>
            go_wp2_with fail
            go_ret
            exact ⟨ret_bool (by rw [formM, HH.out, if_pos HK.out, callM, EE.out]; rfl), HF2.out⟩
          | true =>
          go_wp2_with fail
          refine (exprsM_any s.ex _ ok A1 c1 _ (R1.out.fr HF2.out (fun _ _ => non _) (fun _ h => h)) Q1.out).mono ?_
          rintro e w3 ⟨rfl, hf3⟩
          rw [show (s.ex.all exM && ((s.ex.length : Int) == (s.ex.length : Int))) = s.ex.all exM by simp]
          have b5'' := hf3.cell' b5' (non _)
          have b6'' := hf3.cell' b6' (non _)
          clear b5' b6'
          have HF3 := Lib.hid (HF2.out.trans hf3); clear hf3
          generalize hm2 : s.ex.all exM = m2
          have HM2 := Lib.hid hm2; clear hm2
          cases m2 with
          | false =>
            go_wp2_with fail
            go_ret
            exact ⟨ret_bool (by rw [formM, HH.out, if_pos HK.out, callM, EE.out, HM2.out]; rfl), HF3.out⟩
          | true =>
          by_cases h8 : s.ex.length ≤ 8
          · have H8 := Lib.hid (decide_eq_true h8)
            go_wp2_with fail
            refine (names_any s.args ok A2 c2 _ (R2.out.fr HF3.out (fun _ _ => non _) (fun _ h => h)) Q2.out).mono ?_
            rintro e w4 ⟨rfl, hf4⟩
            have b6''' := hf4.cell' b6'' (non _)
            clear b5'' b6''
            have HF4 := Lib.hid (HF3.out.trans hf4); clear hf4
            generalize hm3 : s.args.all namedM = m3
            have HM3 := Lib.hid hm3; clear hm3
            cases m3 with
            | false =>
              go_wp2_with fail
              go_ret
              exact ⟨ret_bool (by rw [formM, HH.out, if_pos HK.out, callM, EE.out, HM2.out, H8.out, HM3.out]; rfl), HF4.out⟩
            | true =>
              go_wp2_with fail
              go_ret
              exact ⟨ret_bool (by rw [formM, HH.out, if_pos HK.out, callM, EE.out, HM2.out, H8.out, HM3.out, Bool.eq_iff_iff]; simp; try omega), HF4.out⟩
          · have H8 := Lib.hid (decide_eq_false h8)
            go_wp2_with fail
            go_ret
            exact ⟨ret_bool (by rw [formM, HH.out, if_pos HK.out, callM, EE.out, HM2.out, H8.out]; rfl), HF3.out⟩
      · have hk' : (((s.kind.toNat : Int)) == 11) = false := by simp; omega
        have HK := Lib.hid hk; clear hk
        go_wp2_with fail
        refine (namedX_any _ _ _).mono ?_
        rintro e w2 ⟨rfl, hf2⟩
        have b5' := hf2.cell' b5 (non _)
        have b6' := hf2.cell' b6 (non _)
        have n0' := hf2.cell' n0 (non _)
        clear b0 b1 b5 b6 n0 n1
        generalize hm : namedX s.name (nName s.kind) = m
        have HM := Lib.hid hm; clear hm
        have HF2 := Lib.hid (HFX.out.trans hf2); clear hf2
        cases m with
        | false =>
          go_wp2_with fail
          go_ret
          exact ⟨ret_bool (by rw [formM, HH.out, if_neg HK.out, restM, HM.out]; rfl), HF2.out⟩
        | true =>
          by_cases hz : s.args.length = 0
          · have hz' : (((s.args.length : Int)) == 0) = true := by simp [hz]
            have HZ := Lib.hid hz; clear hz
            go_wp2_with fail
            refine (exprsM_any s.ex _ ok A1 c1 _ (R1.out.fr HF2.out (fun _ _ => non _) (fun _ h => h)) Q1.out).mono ?_
            rintro e w3 ⟨rfl, hf3⟩
            go_wp2_with fail
            go_ret
            exact ⟨ret_bool (by rw [formM, HH.out, if_neg HK.out, restM, HM.out, HZ.out]; rfl), HF2.out.trans hf3⟩
          · have hz' : (((s.args.length : Int)) == 0) = false := by simp; intro h; simp [h] at hz
            have HZ := Lib.hid (show (s.args.length == 0) = false by simp; intro h; simp [h] at hz); clear hz
            go_wp2_with fail
            go_ret
            exact ⟨ret_bool (by rw [formM, HH.out, if_neg HK.out, restM, HM.out, HZ.out]; rfl), HF2.out⟩
end Go.Proofs.YtfncbemligfloaaGreatDoor
/- Contracts of the reference's count of statements, its look at functions, and May. -/
namespace Go.Proofs.YtfncbemligfloaaGreatDoor
open Go.RowKit
set_option linter.unusedVariables false
set_option linter.unusedSimpArgs false

mutual
def St.ok : St → Nat → Bool
  | .mk k n f s m ex args body els, deep => decide (deep ≤ 40) && formM (.mk k n f s m ex args body els) && St.oks body (deep + 1) && St.oks els (deep + 1)
def St.oks : List St → Nat → Bool
  | [], _ => true
  | s :: l, deep => St.ok s deep && St.oks l deep
end
theorem oks_true : ∀ (l : List St) (d : Nat), (∀ j (h : j < l.length), St.ok l[j] d = true) → St.oks l d = true
  | [], _, _ => rfl
  | e :: l, d, h => by
    simp only [St.oks, Bool.and_eq_true]
    exact ⟨h 0 (by simp), oks_true l d fun j hj => h (j + 1) (by simpa using hj)⟩
theorem oks_false : ∀ (l : List St) (d : Nat) (j : Nat) (h : j < l.length), St.ok l[j] d = false → St.oks l d = false
  | e :: l, d, 0, _, h => by simp [St.oks, show St.ok e d = false from h]
  | e :: l, d, j + 1, h1, h => by simp [St.oks, oks_false l d j (by simpa using h1) (by simpa using h)]
theorem St.ok_eq (s : St) (d : Nat) : s.ok d = (decide (d ≤ 40) && formM s && St.oks s.body (d + 1) && St.oks s.els (d + 1)) := by cases s; rfl
theorem sizes_take (l : List St) (j : Nat) (h : j < l.length) : St.sizes (l.take (j + 1)) = St.sizes (l.take j) + l[j].size := by
  induction l generalizing j with
  | nil => simp at h
  | cons e l ih =>
    cases j with
    | zero => simp [St.sizes]
    | succ j => have := ih j (by simpa using h); simp [St.sizes] at this ⊢; omega
theorem sizes_take_le (l : List St) (j : Nat) : St.sizes (l.take j) ≤ St.sizes l := by
  induction l generalizing j with
  | nil => simp [St.sizes]
  | cons e l ih =>
    cases j with
    | zero => simp [St.sizes]
    | succ j => have := ih j; simp [St.sizes]; omega
def cntM (l : List St) (d : Nat) : Int := if St.oks l d then (St.sizes l : Int) else -1
theorem cnt_true {l : List St} {d : Nat} (h : St.oks l d = true) : cntM l d = St.sizes l := if_pos h
theorem cnt_false {l : List St} {d : Nat} (h : St.oks l d = false) : cntM l d = -1 := if_neg (by simp [h])

set_option maxHeartbeats 4000000 in
theorem count_any (N : Nat) : ∀ (l : List St) (deep : Nat) (ok : Nat → Prop) (A : Option Addr) (c : Nat) (w : World), St.sizes l ≤ N → St.sizes l ≤ 1099511627776 → deep ≤ 41 → RdRows ok w 9 A 0 (St.ds l) → l.length * 144 ≤ reach →
   Calls Tryz.prog 19 #[.slice A l.length c, .int .i64 (deep : Int)] w fun e w' => e = .returned (.int .i64 (cntM l deep)) ∧ Fr Non w w' := by
  induction N with
  | zero =>
    intro l deep ok A c w hN hN2 hd hr hc
    obtain rfl : l = [] := by cases l with | nil => rfl | cons s l => cases s; simp [St.sizes, St.size] at hN
    go_enter Tryz.func19, Tryz.ntmps19
    go_wp2_with fail
    refine wp_loop_rounds 1 ?_
    rw [rounds_succ]
    go_wp2_with fail
    go_ret
    exact ⟨rfl, fr_refl _⟩
  | succ N ih =>
  intro l deep ok A c w hN hN2 hd hr hc
  have hlen : l.length ≤ 140737488355328 := by unfold reach at hc; omega
  have IH := Lib.hid ih; clear ih
  have HR := Lib.hid hr; clear hr
  have HC := Lib.hid hc; clear hc
  have HNN := Lib.hid hN; clear hN
  go_enter Tryz.func19, Tryz.ntmps19
  go_wp2_with fail
  go_loopw [5, 6] (fun t i wr => ∃ j : Nat, i = .int .i64 j ∧ t = .int .i64 (St.sizes (l.take j)) ∧ j ≤ l.length ∧ Fr Non w wr ∧ ∀ q, q < j → ∀ hq : q < l.length, St.ok l[q] deep = true) (fun _ i _ => l.length - (intOf i).toNat)
  case atStart => exact ⟨0, rfl, by simp [St.sizes], by omega, fr_refl _, fun j hj => by omega⟩
  case round =>
    obtain ⟨j, rfl, rfl, hj, hfr, hno⟩ := hrel
    have HN := Lib.hid hno; clear hno
    by_cases hlt : j < l.length
    · obtain ⟨b, o1, A1, c1, A2, c2, A3, c3, A4, c4, rfl, hb, e0, e1, e2, e3, e4, e5, e6, e7, e8, ⟨p1, q1, r1⟩, ⟨p2, q2, r2⟩, ⟨p3, q3, r3⟩, ⟨p4, q4, r4⟩⟩ := at_st (HR.out.fr hfr (fun _ _ => non _) (fun _ h => h)) j hlt
      have R1 := Lib.hid r1; clear r1
      have R2 := Lib.hid r2; clear r2
      have R3 := Lib.hid r3; clear r3
      have R4 := Lib.hid r4; clear r4
      have HQ := Lib.hid (ssize_le l j hlt)
      have HT := Lib.hid (sizes_take l j hlt)
      have HT2 := Lib.hid (sizes_take_le l (j + 1))
      have HF := Lib.hid hfr; clear hfr
      by_cases hdd : deep ≤ 40
      · go_wp2_with fail
        refine (form_any l[j] ok A1 A2 A3 A4 c1 c2 c3 c4 wr R1.out q1 R2.out q2 q3 q4).mono ?_
        rintro e w2 ⟨rfl, hf2⟩
        have x7 := ext_cell (hf2.cell' e7 (non _))
        have x8 := ext_cell (hf2.cell' e8 (non _))
        generalize hm : formM l[j] = m
        have HM := Lib.hid hm; clear hm
        clear e0 e1 e2 e3 e4 e5 e6 e7 e8
        have HF2 := Lib.hid (HF.out.trans hf2)
        have HG2 := Lib.hid hf2; clear hf2
        cases m with
        | false =>
          go_wp2_with fail
          go_ret
          exact ⟨ret_int (cnt_false (oks_false _ _ j hlt (by rw [St.ok_eq, HM.out]; simp))).symm, HF2.out⟩
        | true =>
          go_wp2_with fail
          refine wp_region_ext (by kernel_rfl) (by kernel_rfl) ?_
          repeat (go_big_quiet_step (fail))
          go_big_quiet_want
          go_big_quiet_op
          apply Exists.intro
          refine ⟨fun x => ?_, ?_⟩
          · exact calls_ext (v := .int .i64 (cntM l[j].body (deep + 1))) (IH.out l[j].body (deep + 1) ok A3 c3 _ (by have := HNN.out; have := HQ.out; rw [St.size_eq] at this; omega) (by have := HQ.out; rw [St.size_eq] at this; omega) (by omega) (R3.out.fr (HG2.out.trans (ext_fr _ _)) (fun _ _ => non _) (fun _ h => h)) q3)
          go_big_quiet_on
          repeat (go_big_quiet_step (fail))
          go_big_quiet_want
          go_big_quiet_op
          apply Exists.intro
          refine ⟨fun x => ?_, ?_⟩
          · exact calls_ext (v := .int .i64 (cntM l[j].els (deep + 1))) (IH.out l[j].els (deep + 1) ok A4 c4 _ (by have := HNN.out; have := HQ.out; rw [St.size_eq] at this; omega) (by have := HQ.out; rw [St.size_eq] at this; omega) (by omega) (R4.out.fr (HG2.out.trans (ext_fr _ _)) (fun _ _ => non _) (fun _ h => h)) q4)
          go_big_quiet_on
          repeat (go_big_quiet_step (fail))
          refine wpQuiet_nil ?_
          intro w3 hf3
          clear x7 x8
          have HF3 := Lib.hid (HF2.out.trans hf3); clear hf3
          have hs1 : St.sizes (l.take j) + 1 + St.sizes l[j].body + St.sizes l[j].els ≤ 1099511627776 := by have := HT.out; have := HT2.out; rw [St.size_eq] at *; omega
          cases hob : St.oks l[j].body (deep + 1) with
          | false =>
            rw [cnt_false hob]
            have HB := Lib.hid hob; clear hob
            go_wp2_with fail
            go_ret
            exact ⟨ret_int (cnt_false (oks_false _ _ j hlt (by rw [St.ok_eq, HB.out]; simp))).symm, HF3.out⟩
          | true =>
            rw [cnt_true hob]
            have HB := Lib.hid hob; clear hob
            cases hoe : St.oks l[j].els (deep + 1) with
            | false =>
              rw [cnt_false hoe]
              have HE := Lib.hid hoe; clear hoe
              go_wp2_with fail
              go_ret
              exact ⟨ret_int (cnt_false (oks_false _ _ j hlt (by rw [St.ok_eq, HE.out]; simp))).symm, HF3.out⟩
            | true =>
              rw [cnt_true hoe]
              have HE := Lib.hid hoe; clear hoe
              go_wp2_with fail
              go_roundw
              case rel => exact ⟨j + 1, by go_num, by rw [HT.out, St.size_eq]; congr 1; omega, by omega, HF3.out, till HN.out fun _ => by rw [St.ok_eq, HM.out, HB.out, HE.out, decide_eq_true hdd]; rfl⟩
              case measure => simp [intOf]; omega
      · go_wp2_with fail
        go_ret
        exact ⟨ret_int (cnt_false (oks_false _ _ j hlt (by rw [St.ok_eq, decide_eq_false hdd]; rfl))).symm, HF.out⟩
    · go_wp2_with fail
      go_ret
      obtain rfl : j = l.length := by omega
      rw [List.take_length]
      exact ⟨ret_int (cnt_true (oks_true _ _ fun q hq => HN.out q (by omega) hq)).symm, hfr⟩
end Go.Proofs.YtfncbemligfloaaGreatDoor
/- Contracts of the reference's look at a function, and May. -/
namespace Go.Proofs.YtfncbemligfloaaGreatDoor
open Go.RowKit
set_option linter.unusedVariables false
set_option linter.unusedSimpArgs false

def parM (x : Pa) : Bool := namedM x.name && (!x.mt || x.buf)
def fheadM (f : Fu) : Bool := namedM f.name && decide (f.params.length ≤ 8) && decide (f.ret.length ≤ 1) && f.ret.all exM && !(f.ret.length == 0 && f.sec)
def funM (f : Fu) : Bool := fheadM f && f.params.all parM

set_option maxRecDepth 4000 in
set_option maxHeartbeats 4000000 in
theorem function_any (f : Fu) (ok : Nat → Prop) (A1 A2 A3 : Option Addr) (c1 c2 c3 : Nat) (w : World) (r1 : RdRows ok w 4 A1 0 (f.params.map Pa.d)) (q1 : f.params.length * 24 ≤ reach) (r3 : RdRows ok w 5 A3 0 (Ex.ds f.ret)) (q3 : f.ret.length * 64 ≤ reach) :
   Calls Tryz.prog 20 #[.agg #[.string f.name, .slice A1 f.params.length c1, .slice A2 f.body.length c2, .bool f.sec, .slice A3 f.ret.length c3]] w fun e w' => e = .returned (.bool (funM f)) ∧ Fr Non w w' := by
  have hl1 : f.params.length ≤ 140737488355328 := by unfold reach at q1; omega
  have hl3 : f.ret.length ≤ 140737488355328 := by unfold reach at q3; omega
  have R1 := Lib.hid r1; clear r1
  have R3 := Lib.hid r3; clear r3
  have Q3 := Lib.hid q3; clear q1 q3
  go_enter Tryz.func20, Tryz.ntmps20
  go_upto_region 1 with fail
  obtain ⟨W1, HW1⟩ : ∃ W1, W1 = w.alloc (.cells #[.string f.name, .slice A1 f.params.length c1, .slice A2 f.body.length c2, .bool f.sec, .slice A3 f.ret.length c3] 36) := ⟨_, rfl⟩
  rw [← HW1]
  have hbb : W1.heap[w.heap.size]? = some (.cells #[.string f.name, .slice A1 f.params.length c1, .slice A2 f.body.length c2, .bool f.sec, .slice A3 f.ret.length c3] 36 (0, 0)) := by rw [HW1]; exact blk_new _ _ _
  have hfw : Fr Non w W1 := by rw [HW1]; exact (fr_refl w).alloc _
  clear HW1
  have HBB := Lib.hid hbb; clear hbb
  have HFW := Lib.hid hfw; clear hfw
  go_cut [0, 38] (fun v0 v wx => v = .bool (!fheadM f) ∧ Fr Non W1 wx)
  case first =>
    have g0 := (cells_of HBB.out).1 0 _ rfl
    go_wp2_with fail
    refine (named_any _ _).mono ?_
    rintro e w2 ⟨rfl, hf2⟩
    have hb2 := blk_fr HBB.out hf2 (non _)
    have g1 := (cells_of hb2).1 1 _ rfl
    have g3 := (cells_of hb2).1 3 _ rfl
    have g4 := (cells_of hb2).1 4 _ rfl
    clear g0
    have HB2 := Lib.hid hb2; clear hb2
    generalize hm : namedM f.name = m
    have HM := Lib.hid hm; clear hm
    have HF2 := Lib.hid hf2; clear hf2
    cases m with
    | false =>
      go_wp2_with fail
      go_meet
      exact ⟨congrArg Value.bool (by simp [fheadM, HM.out] <;> omega), HF2.out⟩
    | true =>
    by_cases h8 : f.params.length ≤ 8
    · by_cases h1 : f.ret.length ≤ 1
      · go_wp2_with fail
        refine (exprsM_any f.ret _ ok A3 c3 _ (R3.out.fr (HFW.out.trans HF2.out) (fun _ _ => non _) (fun _ h => h)) Q3.out).mono ?_
        rintro e w3 ⟨rfl, hf3⟩
        rw [show (f.ret.all exM && ((f.ret.length : Int) == (f.ret.length : Int))) = f.ret.all exM by simp]
        have hb3 := blk_fr HB2.out hf3 (non _)
        clear g1 g3 g4
        have g3 := (cells_of hb3).1 3 _ rfl
        have g4 := (cells_of hb3).1 4 _ rfl
        have HB3 := Lib.hid hb3; clear hb3
        generalize hm2 : f.ret.all exM = m2
        have HM2 := Lib.hid hm2; clear hm2
        have HF3 := Lib.hid (HF2.out.trans hf3); clear hf3
        cases m2 with
        | false =>
          go_wp2_with fail
          go_meet
          exact ⟨congrArg Value.bool (by simp [fheadM, HM2.out] <;> omega), HF3.out⟩
        | true =>
          by_cases hz : f.ret.length = 0
          · have HZ := Lib.hid hz
            cases hs : f.sec with
            | true =>
              rw [hs] at g3
              have HS := Lib.hid hs; clear hs
              go_wp2_with fail
              go_meet
              exact ⟨congrArg Value.bool (by simp [fheadM, HZ.out, HS.out] <;> omega), HF3.out⟩
            | false =>
              rw [hs] at g3
              have HS := Lib.hid hs; clear hs
              go_wp2_with fail
              go_meet
              exact ⟨congrArg Value.bool (by rw [fheadM, HM.out, HM2.out, decide_eq_true h8, decide_eq_true h1, HS.out]; simp; omega), HF3.out⟩
          · go_wp2_with fail
            go_meet
            exact ⟨congrArg Value.bool (by rw [fheadM, HM.out, HM2.out, decide_eq_true h8, decide_eq_true h1, show (f.ret.length == 0) = false by simpa using hz]; simp; omega), HF3.out⟩
      · go_wp2_with fail
        go_meet
        exact ⟨congrArg Value.bool (by simp [fheadM, h1] <;> omega), HF2.out⟩
    · go_wp2_with fail
      go_meet
      exact ⟨congrArg Value.bool (by simp [fheadM, h8] <;> omega), HF2.out⟩
  case rest =>
    obtain ⟨rfl, hfx⟩ := hcut
    have hbx := blk_fr HBB.out hfx (non _)
    have HBX := Lib.hid hbx; clear hbx
    have HFX := Lib.hid (HFW.out.trans hfx); clear hfx
    generalize hh : fheadM f = hd
    have HH := Lib.hid hh; clear hh
    cases hd with
    | false =>
      go_wp2_with fail
      go_ret
      exact ⟨ret_bool (by rw [funM, HH.out]; rfl), HFX.out⟩
    | true =>
      rw [show (!true) = false from rfl]
      go_wp2_with fail
      go_loopw [3] (fun i wr => ∃ j : Nat, i = .int .i64 j ∧ j ≤ f.params.length ∧ Fr Non wc wr ∧ ∀ q, q < j → ∀ hq : q < f.params.length, parM f.params[q] = true) (fun i _ => f.params.length - (intOf i).toNat)
      case atStart => exact ⟨0, rfl, by omega, fr_refl _, fun j hj => by omega⟩
      case round =>
        obtain ⟨j, rfl, hj, hfr, hno⟩ := hrel
        have HN := Lib.hid hno; clear hno
        have hbr := blk_fr HBX.out hfr (non _)
        have g1 := (cells_of hbr).1 1 _ rfl
        have HBR := Lib.hid hbr; clear hbr
        by_cases hlt : j < f.params.length
        · obtain ⟨b, o1, rfl, hb, e0, e1, e2, e3⟩ := at_pa (R1.out.fr (HFX.out.trans hfr) (fun _ _ => non _) (fun _ h => h)) j hlt
          have HF := Lib.hid hfr; clear hfr
          go_wp2_with fail
          refine (named_any _ _).mono ?_
          rintro e w2 ⟨rfl, hf2⟩
          have g1' := (cells_of (blk_fr HBR.out hf2 (non _))).1 1 _ rfl
          have e1' := hf2.cell' e1 (non _)
          have e3' := hf2.cell' e3 (non _)
          clear g1 e0 e1 e2 e3
          generalize hm : namedM f.params[j].name = m
          have HM := Lib.hid hm; clear hm
          have HF2 := Lib.hid (HF.out.trans hf2); clear hf2
          cases m with
          | false =>
            go_wp2_with fail
            go_ret
            exact ⟨ret_bool (by rw [funM, HH.out, all_false_of (p := parM) j hlt (by simp [parM, HM.out])]; rfl), HFX.out.trans HF2.out⟩
          | true =>
            cases hmt : f.params[j].mt with
            | false =>
              rw [hmt] at e3'
              have HMT := Lib.hid hmt; clear hmt
              go_wp2_with fail
              go_roundw
              case rel => exact ⟨j + 1, by go_num, by omega, HF2.out, till HN.out fun _ => by simp [parM, HM.out, HMT.out]⟩
              case measure => simp [intOf]; omega
            | true =>
              rw [hmt] at e3'
              have HMT := Lib.hid hmt; clear hmt
              cases hbf : f.params[j].buf with
              | true =>
                rw [hbf] at e1'
                have HBF := Lib.hid hbf; clear hbf
                go_wp2_with fail
                go_roundw
                case rel => exact ⟨j + 1, by go_num, by omega, HF2.out, till HN.out fun _ => by simp [parM, HM.out, HMT.out, HBF.out]⟩
                case measure => simp [intOf]; omega
              | false =>
                rw [hbf] at e1'
                have HBF := Lib.hid hbf; clear hbf
                go_wp2_with fail
                go_ret
                exact ⟨ret_bool (by rw [funM, HH.out, all_false_of (p := parM) j hlt (by simp [parM, HMT.out, HBF.out])]; rfl), HFX.out.trans HF2.out⟩
        · have HF := Lib.hid hfr; clear hfr
          go_wp2_with fail
          go_ret
          exact ⟨ret_bool (by rw [funM, HH.out, all_true_of (p := parM) (l := f.params) fun q hq => HN.out q (by omega) hq]; rfl), HFX.out.trans HF.out⟩

def Fu.size (f : Fu) : Nat := St.sizes f.body
def Fu.sizes : List Fu → Nat
  | [] => 0
  | f :: l => f.size + Fu.sizes l
theorem fsizes_take (l : List Fu) (j : Nat) (h : j < l.length) : Fu.sizes (l.take (j + 1)) = Fu.sizes (l.take j) + St.sizes l[j].body := by
  induction l generalizing j with
  | nil => simp at h
  | cons e l ih =>
    cases j with
    | zero => simp [Fu.sizes, Fu.size]
    | succ j => have := ih j (by simpa using h); simp [Fu.sizes] at this ⊢; omega
theorem fsizes_take_le (l : List Fu) (j : Nat) : Fu.sizes (l.take j) ≤ Fu.sizes l := by
  induction l generalizing j with
  | nil => simp [Fu.sizes]
  | cons e l ih =>
    cases j with
    | zero => simp [Fu.sizes]
    | succ j => have := ih j; simp [Fu.sizes]; omega
theorem fsize_le : ∀ (l : List Fu) (k : Nat) (h : k < l.length), St.sizes l[k].body ≤ Fu.sizes l
  | e :: l, 0, _ => by simp [Fu.sizes, Fu.size]
  | e :: l, k + 1, h => by have := fsize_le l k (by simpa using h); simp [Fu.sizes]; omega
def okF (f : Fu) : Bool := St.oks f.body 1 && funM f
def mayM (l : List Fu) : Bool := l.all okF && (decide (l.length ≤ 16) && decide (Fu.sizes l ≤ 400))

set_option maxRecDepth 4000 in
set_option maxHeartbeats 4000000 in
theorem mayP_any (l : List Fu) (ok : Nat → Prop) (A : Option Addr) (c : Nat) (w : World) (hr : RdRows ok w 5 A 0 (l.map Fu.d)) (hc : l.length * 96 ≤ reach) (hs : Fu.sizes l ≤ 1099511627776) :
   Calls Tryz.prog 7 #[.agg #[.slice A l.length c]] w fun e w' => e = .returned (.bool (mayM l)) ∧ Fr Non w w' := by
  have hlen : l.length ≤ 140737488355328 := by unfold reach at hc; omega
  have HR := Lib.hid hr; clear hr
  go_enter Tryz.func7, Tryz.ntmps7
  go_wp2_with fail
  obtain ⟨W1, HW1⟩ : ∃ W1, W1 = w.alloc (.cells #[.slice A l.length c] 24) := ⟨_, rfl⟩
  rw [← HW1]
  have hbb : W1.heap[w.heap.size]? = some (.cells #[.slice A l.length c] 24 (0, 0)) := by rw [HW1]; exact blk_new _ _ _
  have hfw : Fr Non w W1 := by rw [HW1]; exact (fr_refl w).alloc _
  clear HW1
  have HBB := Lib.hid hbb; clear hbb
  have HFW := Lib.hid hfw; clear hfw
  go_loopw [3, 4] (fun t i wr => ∃ j : Nat, i = .int .i64 j ∧ t = .int .i64 (Fu.sizes (l.take j)) ∧ j ≤ l.length ∧ Fr Non W1 wr ∧ ∀ q, q < j → ∀ hq : q < l.length, okF l[q] = true) (fun _ i _ => l.length - (intOf i).toNat)
  case atStart => exact ⟨0, rfl, by simp [Fu.sizes], by omega, fr_refl _, fun j hj => by omega⟩
  case round =>
    obtain ⟨j, rfl, rfl, hj, hfr, hno⟩ := hrel
    have HN := Lib.hid hno; clear hno
    have hbr := blk_fr HBB.out hfr (non _)
    have g0 := (cells_of hbr).1 0 _ rfl
    have HBR := Lib.hid hbr; clear hbr
    by_cases hlt : j < l.length
    · obtain ⟨b, o1, A1, c1, A2, c2, A3, c3, rfl, hb, e0, e1, e2, e3, e4, ⟨p1, q1, r1⟩, ⟨p2, q2, r2⟩, ⟨p3, q3, r3⟩⟩ := at_fu (HR.out.fr (HFW.out.trans hfr) (fun _ _ => non _) (fun _ h => h)) j hlt
      have R1 := Lib.hid r1; clear r1
      have R2 := Lib.hid r2; clear r2
      have R3 := Lib.hid r3; clear r3
      have HF := Lib.hid hfr; clear hfr
      have HQ := Lib.hid (fsize_le l j hlt)
      have HT := Lib.hid (fsizes_take l j hlt)
      have HT2 := Lib.hid (fsizes_take_le l (j + 1))
      go_wp2_with fail
      refine (count_any (St.sizes l[j].body) l[j].body 1 ok A2 c2 wr (Nat.le_refl _) (by have := HQ.out; omega) (by omega) R2.out q2).mono ?_
      rintro e w2 ⟨rfl, hf2⟩
      have g0' := (cells_of (blk_fr HBR.out hf2 (non _))).1 0 _ rfl
      have e0' := hf2.cell' e0 (non _)
      have e1' := hf2.cell' e1 (non _)
      have e2' := hf2.cell' e2 (non _)
      have e3' := hf2.cell' e3 (non _)
      have e4' := hf2.cell' e4 (non _)
      clear g0 e0 e1 e2 e3 e4
      have HF2 := Lib.hid (HF.out.trans hf2)
      have HG2 := Lib.hid hf2; clear hf2
      have hs1 : Fu.sizes (l.take j) + St.sizes l[j].body ≤ 1099511627776 := by have := HT.out; have := HT2.out; omega
      cases hob : St.oks l[j].body 1 with
      | false =>
        rw [cnt_false hob]
        have HB := Lib.hid hob; clear hob
        go_wp2_with fail
        go_ret
        exact ⟨ret_bool (by rw [mayM, all_false_of (p := okF) j hlt (by simp [okF, HB.out])]; rfl), HFW.out.trans HF2.out⟩
      | true =>
        rw [cnt_true hob]
        have HB := Lib.hid hob; clear hob
        go_wp2_with fail
        refine (function_any l[j] ok A1 A2 A3 c1 c2 c3 w2 (R1.out.fr HG2.out (fun _ _ => non _) (fun _ h => h)) q1 (R3.out.fr HG2.out (fun _ _ => non _) (fun _ h => h)) q3).mono ?_
        rintro e w3 ⟨rfl, hf3⟩
        clear g0' e0' e1' e2' e3' e4'
        generalize hm : funM l[j] = m
        have HM := Lib.hid hm; clear hm
        have HF3 := Lib.hid (HF2.out.trans hf3); clear hf3
        cases m with
        | false =>
          go_wp2_with fail
          go_ret
          exact ⟨ret_bool (by rw [mayM, all_false_of (p := okF) j hlt (by simp [okF, HM.out])]; rfl), HFW.out.trans HF3.out⟩
        | true =>
          go_wp2_with fail
          go_roundw
          case rel => exact ⟨j + 1, by go_num, by rw [HT.out]; congr 1 <;> omega, by omega, HF3.out, till HN.out fun _ => by simp [okF, HM.out, HB.out]⟩
          case measure => simp [intOf]; omega
    · obtain rfl : j = l.length := by omega
      have HA := Lib.hid (all_true_of (p := okF) (l := l) fun q hq => HN.out q (by omega) hq)
      have HF := Lib.hid hfr; clear hfr
      rw [List.take_length]
      by_cases h16 : l.length ≤ 16
      · go_wp2_with fail
        go_ret
        exact ⟨ret_bool (by rw [mayM, HA.out]; try (rw [Bool.eq_iff_iff]; simp <;> omega)), HFW.out.trans HF.out⟩
      · go_wp2_with fail
        go_ret
        exact ⟨ret_bool (by rw [mayM, HA.out]; try (rw [Bool.eq_iff_iff]; simp <;> omega)), HFW.out.trans HF.out⟩
end Go.Proofs.YtfncbemligfloaaGreatDoor
/- Helpers: own rows, zero values, the nine cells of a struct. -/
namespace Go.Proofs.YtfncbemligfloaaGreatDoor
open Go.RowKit
set_option linter.unusedVariables false
set_option linter.unusedSimpArgs false
theorem row_fr {base : Nat} {e : TypeId} {sz : Nat} {w w' : World} {v : Value} {n : Nat} {xs : List Value} {S : Nat → Prop} (h : w.ownsRow base e sz v n xs) (hf : Fr S w w') (hs : ∀ k, v.ownBlock = some k → ¬ S k) : w'.ownsRow base e sz v n xs := by
  obtain ⟨h1, h2⟩ := h
  refine ⟨h1, ?_⟩
  rcases h2 with h2 | ⟨g, cap, cur, hv, hb, hh, r⟩
  · exact .inl h2
  · exact .inr ⟨g, cap, cur, hv, hb, by rw [hf.block g (Array.getElem?_eq_some_iff.1 hh).1 (hs g (by rw [hv]; rfl))]; exact hh, r⟩
theorem row_slice {base : Nat} {e : TypeId} {sz : Nat} {w : World} {v : Value} {n : Nat} {xs : List Value} (h : w.ownsRow base e sz v n xs) : ∃ A c, v = .slice A n c ∧ n ≤ c := by
  rcases h.2 with ⟨rfl, h2⟩ | ⟨g, cap, cur, hv, hb, hh, h3, _⟩
  · exact ⟨none, 0, by rw [h2], by omega⟩
  · exact ⟨_, cap, hv, h3⟩
/-- The cells of a row that has elements. -/
theorem row_at {base : Nat} {e : TypeId} {sz : Nat} {w : World} {A : Option Addr} {c n : Nat} {xs : List Value} (h : w.ownsRow base e sz (.slice A n c) n xs) (hn : 0 < n) : ∃ g, A = some ⟨g, 0, none⟩ ∧ base ≤ g ∧ ∀ i u, xs[i]? = some u → w.cell? ⟨g, i, none⟩ = some u ∧ w.frozen? ⟨g, i, none⟩ = false := by
  have h' := h
  rcases h.2 with ⟨_, h2⟩ | ⟨g, cap, cur, hv, hb, hh, h3, _⟩
  · omega
  · cases hv
    refine ⟨g, rfl, hb, fun i u hu => ⟨?_, (cells_of hh).2 i⟩⟩
    have := h'.cells (g := g) rfl i u hu
    simpa [Addr.add_lit] using this
def Pa.zero : Pa := ⟨⟨#[]⟩, false, false, false⟩
def Fu.zero : Fu := ⟨⟨#[]⟩, [], [], false, []⟩
def Ex.zero : Ex := .mk 0 0 ⟨#[]⟩ 0 []
def nob : ByteArray := ⟨#[]⟩
def exAt (ex : List Ex) (i : Nat) : Ex := ex.getD i Ex.zero
theorem blk_put9 {w : World} {g : Nat} {a0 a1 a2 a3 a4 a5 a6 a7 a8 : Value} {T : TypeId} (h : w.heap[g]? = some (.cells #[a0, a1, a2, a3, a4, a5, a6, a7, a8] T (0, 0))) (v0 v1 v2 v3 v4 v5 v6 v7 v8 : Value) :
    (((((((((w.setCell ⟨g, 0, none⟩ v0).setCell ⟨g, 1, none⟩ v1).setCell ⟨g, 2, none⟩ v2).setCell ⟨g, 3, none⟩ v3).setCell ⟨g, 4, none⟩ v4).setCell ⟨g, 5, none⟩ v5).setCell ⟨g, 6, none⟩ v6).setCell ⟨g, 7, none⟩ v7).setCell ⟨g, 8, none⟩ v8).heap[g]? = some (.cells #[v0, v1, v2, v3, v4, v5, v6, v7, v8] T (0, 0)) := by
  have h0 : (w.setCell ⟨g, 0, none⟩ v0).heap[g]? = some (.cells #[v0, a1, a2, a3, a4, a5, a6, a7, a8] T (0, 0)) := blk_set h 0 v0
  have h1 : ((w.setCell ⟨g, 0, none⟩ v0).setCell ⟨g, 1, none⟩ v1).heap[g]? = some (.cells #[v0, v1, a2, a3, a4, a5, a6, a7, a8] T (0, 0)) := blk_set h0 1 v1
  have h2 : (((w.setCell ⟨g, 0, none⟩ v0).setCell ⟨g, 1, none⟩ v1).setCell ⟨g, 2, none⟩ v2).heap[g]? = some (.cells #[v0, v1, v2, a3, a4, a5, a6, a7, a8] T (0, 0)) := blk_set h1 2 v2
  have h3 : ((((w.setCell ⟨g, 0, none⟩ v0).setCell ⟨g, 1, none⟩ v1).setCell ⟨g, 2, none⟩ v2).setCell ⟨g, 3, none⟩ v3).heap[g]? = some (.cells #[v0, v1, v2, v3, a4, a5, a6, a7, a8] T (0, 0)) := blk_set h2 3 v3
  have h4 : (((((w.setCell ⟨g, 0, none⟩ v0).setCell ⟨g, 1, none⟩ v1).setCell ⟨g, 2, none⟩ v2).setCell ⟨g, 3, none⟩ v3).setCell ⟨g, 4, none⟩ v4).heap[g]? = some (.cells #[v0, v1, v2, v3, v4, a5, a6, a7, a8] T (0, 0)) := blk_set h3 4 v4
  have h5 : ((((((w.setCell ⟨g, 0, none⟩ v0).setCell ⟨g, 1, none⟩ v1).setCell ⟨g, 2, none⟩ v2).setCell ⟨g, 3, none⟩ v3).setCell ⟨g, 4, none⟩ v4).setCell ⟨g, 5, none⟩ v5).heap[g]? = some (.cells #[v0, v1, v2, v3, v4, v5, a6, a7, a8] T (0, 0)) := blk_set h4 5 v5
  have h6 : (((((((w.setCell ⟨g, 0, none⟩ v0).setCell ⟨g, 1, none⟩ v1).setCell ⟨g, 2, none⟩ v2).setCell ⟨g, 3, none⟩ v3).setCell ⟨g, 4, none⟩ v4).setCell ⟨g, 5, none⟩ v5).setCell ⟨g, 6, none⟩ v6).heap[g]? = some (.cells #[v0, v1, v2, v3, v4, v5, v6, a7, a8] T (0, 0)) := blk_set h5 6 v6
  have h7 : ((((((((w.setCell ⟨g, 0, none⟩ v0).setCell ⟨g, 1, none⟩ v1).setCell ⟨g, 2, none⟩ v2).setCell ⟨g, 3, none⟩ v3).setCell ⟨g, 4, none⟩ v4).setCell ⟨g, 5, none⟩ v5).setCell ⟨g, 6, none⟩ v6).setCell ⟨g, 7, none⟩ v7).heap[g]? = some (.cells #[v0, v1, v2, v3, v4, v5, v6, v7, a8] T (0, 0)) := blk_set h6 7 v7
  have h8 : (((((((((w.setCell ⟨g, 0, none⟩ v0).setCell ⟨g, 1, none⟩ v1).setCell ⟨g, 2, none⟩ v2).setCell ⟨g, 3, none⟩ v3).setCell ⟨g, 4, none⟩ v4).setCell ⟨g, 5, none⟩ v5).setCell ⟨g, 6, none⟩ v6).setCell ⟨g, 7, none⟩ v7).setCell ⟨g, 8, none⟩ v8).heap[g]? = some (.cells #[v0, v1, v2, v3, v4, v5, v6, v7, v8] T (0, 0)) := blk_set h7 8 v8
  exact h8
theorem fr_put9 {g : Nat} {w : World} {S : Nat → Prop} (hs : S g) (v0 v1 v2 v3 v4 v5 v6 v7 v8 : Value) :
    Fr S w (((((((((w.setCell ⟨g, 0, none⟩ v0).setCell ⟨g, 1, none⟩ v1).setCell ⟨g, 2, none⟩ v2).setCell ⟨g, 3, none⟩ v3).setCell ⟨g, 4, none⟩ v4).setCell ⟨g, 5, none⟩ v5).setCell ⟨g, 6, none⟩ v6).setCell ⟨g, 7, none⟩ v7).setCell ⟨g, 8, none⟩ v8) :=
  (((((((((Fr.refl S w).setCell _ _ (.inl hs)).setCell _ _ (.inl hs)).setCell _ _ (.inl hs)).setCell _ _ (.inl hs)).setCell _ _ (.inl hs)).setCell _ _ (.inl hs)).setCell _ _ (.inl hs)).setCell _ _ (.inl hs)).setCell _ _ (.inl hs)
end Go.Proofs.YtfncbemligfloaaGreatDoor
