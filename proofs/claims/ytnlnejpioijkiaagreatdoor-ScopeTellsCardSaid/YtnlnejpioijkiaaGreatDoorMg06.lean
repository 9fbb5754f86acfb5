/- Contracts and laws, file 6: ScE, WkB, WkC, ScF, WkD -/
import Derived.Test.YtnlnejpioijkiaaGreatDoorMg05
import Derived.Deep.DeepCutAuto
import Derived.Outline
import Derived.Deep.CutBlock
import Derived.StillTailTactics
/- The program's walker of scope: statements and blocks. -/
namespace Go.Proofs.YtnlnejpioijkiaaGreatDoor
open Go.RowKit
set_option linter.unusedVariables false
set_option linter.unusedSimpArgs false

abbrev stV (s : St) (A1 A2 A3 A4 : Option Addr) (c1 c2 c3 c4 : Nat) : Value := .agg #[vu8 s.kind, .string s.name, .string s.frm, .bool s.sec, .bool s.mt, .slice A1 s.ex.length c1, .slice A2 s.args.length c2, .slice A3 s.body.length c3, .slice A4 s.els.length c4]
def StR (base b : Nat) (PV : Value) (w : World) (bk bg : Nat) (r : Except (Int × Int) (Sc × List ByteArray)) (e : Ending) (w' : World) : Prop := match r with
  | .error x => e = .panicked [{ v := faultV x.1 x.2, recovered := false }] ∧ Fr (SS b bk bg) w w'
  | .ok (a1, aw) => ∃ v, e = .returned v ∧ AwL b w.heap.size w' v aw ∧ Fr (SS b bk bg) w w' ∧ ScAt base b PV w' a1 bk bg
def BlR (base b : Nat) (PV : Value) (w : World) (bk bg : Nat) (r : Except (Int × Int) Sc) (e : Ending) (w' : World) : Prop := match r with
  | .error x => e = .panicked [{ v := faultV x.1 x.2, recovered := false }] ∧ Fr (SS b bk bg) w w'
  | .ok a1 => e = .returned (.tuple #[]) ∧ Fr (SS b bk bg) w w' ∧ ScAt base b PV w' a1 bk bg
/-- The rows of a statement. -/
structure StRd (ok : Nat → Prop) (w : World) (s : St) (A1 A2 A3 A4 : Option Addr) (c1 c2 c3 c4 : Nat) : Prop where
  ex : s.ex.length ≤ c1 ∧ s.ex.length * 64 ≤ reach ∧ RdRows ok w 5 A1 0 (Ex.ds s.ex)
  args : s.args.length ≤ c2 ∧ s.args.length * 16 ≤ reach ∧ RdRows ok w 1 A2 0 (s.args.map strD)
  body : s.body.length ≤ c3 ∧ s.body.length * 144 ≤ reach ∧ RdRows ok w 9 A3 0 (St.ds s.body)
  els : s.els.length ≤ c4 ∧ s.els.length * 144 ≤ reach ∧ RdRows ok w 9 A4 0 (St.ds s.els)
theorem StRd.fr {ok : Nat → Prop} {w w' : World} {s : St} {A1 A2 A3 A4 : Option Addr} {c1 c2 c3 c4 : Nat} {S : Nat → Prop} (h : StRd ok w s A1 A2 A3 A4 c1 c2 c3 c4) (hf : Fr S w w') (hs : ∀ q, ok q → ¬ S q) : StRd ok w' s A1 A2 A3 A4 c1 c2 c3 c4 :=
  ⟨⟨h.ex.1, h.ex.2.1, h.ex.2.2.fr hf hs fun _ h => h⟩, ⟨h.args.1, h.args.2.1, h.args.2.2.fr hf hs fun _ h => h⟩, ⟨h.body.1, h.body.2.1, h.body.2.2.fr hf hs fun _ h => h⟩, ⟨h.els.1, h.els.2.1, h.els.2.2.fr hf hs fun _ h => h⟩⟩
/-- The program's functions, and where the walk stands. -/
structure ScP (base : Nat) (ok : Nat → Prop) (PA : Option Addr) (pc : Nat) (P : List Fu) (F : Nat) (w : World) : Prop where
  rows : RdRows ok w 5 PA 0 (P.map Fu.d)
  hc : P.length * 96 ≤ reach
  hF : F < P.length
  hpc : P.length ≤ pc
  hok : ∀ q, ok q → q < base
theorem ScP.fr {base : Nat} {ok : Nat → Prop} {PA : Option Addr} {pc : Nat} {P : List Fu} {F : Nat} {w w' : World} {S : Nat → Prop} (h : ScP base ok PA pc P F w) (hf : Fr S w w') (hs : ∀ q, ok q → ¬ S q) : ScP base ok PA pc P F w' :=
  ⟨h.rows.fr hf hs fun _ h => h, h.hc, h.hF, h.hpc, h.hok⟩
def BlC (base b bk bg : Nat) (ok : Nat → Prop) (PA : Option Addr) (pc : Nat) (P : List Fu) (F : Nat) (N : Nat) : Prop :=
  ∀ (l : List St) (d : Nat) (A : Option Addr) (c : Nat) (w : World) (a : Sc), St.sizes l ≤ N → St.oks l d = true → RdRows ok w 9 A 0 (St.ds l) → l.length * 144 ≤ reach → 0 ≤ a.n → a.n + St.sizes l ≤ 1099511627776 →
    ScAt base b (.slice PA P.length pc) w a bk bg → ScP base ok PA pc P F w →
    Calls Tryz.prog 70 #[.pointer (some ⟨b, 0, none⟩), .slice A l.length c, .int .i64 F] w (BlR base b (.slice PA P.length pc) w bk bg (scDels (scStmts P F l a [])))
def StC (base b bk bg : Nat) (ok : Nat → Prop) (PA : Option Addr) (pc : Nat) (P : List Fu) (F : Nat) (N : Nat) : Prop :=
  ∀ (s : St) (d : Nat) (A1 A2 A3 A4 : Option Addr) (c1 c2 c3 c4 : Nat) (w : World) (a : Sc), s.size ≤ N → St.ok s d = true → StRd ok w s A1 A2 A3 A4 c1 c2 c3 c4 → 0 ≤ a.n → a.n + s.size ≤ 1099511627777 →
    ScAt base b (.slice PA P.length pc) w a bk bg → ScP base ok PA pc P F w →
    Calls Tryz.prog 40 #[.pointer (some ⟨b, 0, none⟩), stV s A1 A2 A3 A4 c1 c2 c3 c4, .int .i64 F] w (StR base b (.slice PA P.length pc) w bk bg (scStmt P F s a))

theorem sc_form (s : St) (d : Nat) (h : St.ok s d = true) : formM (.mk s.kind s.name s.frm s.sec s.mt s.ex s.args s.body s.els) = true := by
  rw [St.ok_eq] at h
  simp only [Bool.and_eq_true] at h
  obtain ⟨k, nm, fr, sec, mt, ex, args, body, els⟩ := s
  exact h.1.1.2
def scRest (P : List Fu) (F : Nat) (k : UInt8) (nm : ByteArray) (body els : List St) (a : Sc) : Except (Int × Int) (Sc × List ByteArray) := match a.gives k nm with
  | .error x => .error x
  | .ok (a1, aw) => match scDels (scStmts P F body a1 []) with
    | .error x => .error x
    | .ok a2 => match scDels (scStmts P F els a2 []) with
      | .error x => .error x
      | .ok a3 => if k.toNat == 7 || k.toNat == 8 then .ok (a3.del nm, []) else .ok (a3, aw)
theorem sc_mk (P : List Fu) (F : Nat) (k : UInt8) (nm fr : ByteArray) (sec mt : Bool) (ex : List Ex) (args : List ByteArray) (body els : List St) (a : Sc) : scStmt P F (.mk k nm fr sec mt ex args body els) a = if !scHead P F (inM a.kn) k nm fr ex args then .error (a.n, 3) else scRest P F k nm body els a := by
  unfold scStmt scRest
  cases scHead P F (inM a.kn) k nm fr ex args with
  | false => rfl
  | true =>
    simp only [Bool.not_true, Bool.false_eq_true, if_false]
    cases a.gives k nm with
    | error x => rfl
    | ok p =>
      obtain ⟨a1, aw⟩ := p
      simp only
      cases scStmts P F body a1 [] with
      | error x => rfl
      | ok p =>
        obtain ⟨a2, aw2⟩ := p
        simp only [scDels]
        cases scStmts P F els (a2.dels aw2) [] with
        | error x => rfl
        | ok p => rfl
theorem sc_eq (P : List Fu) (F : Nat) (s : St) (a : Sc) : scStmt P F s a = if !scHead P F (inM a.kn) s.kind s.name s.frm s.ex s.args then .error (a.n, 3) else scRest P F s.kind s.name s.body s.els a := by
  obtain ⟨k, nm, fr, sec, mt, ex, args, body, els⟩ := s
  exact sc_mk P F k nm fr sec mt ex args body els a
theorem sc_err1 (P : List Fu) (F : Nat) (s : St) (a : Sc) (h : scHead P F (inM a.kn) s.kind s.name s.frm s.ex s.args = false) : scStmt P F s a = .error (a.n, 3) := by
  rw [sc_eq, h]; rfl
theorem sc_ok1 (P : List Fu) (F : Nat) (s : St) (a : Sc) (h : scHead P F (inM a.kn) s.kind s.name s.frm s.ex s.args = true) : scStmt P F s a = scRest P F s.kind s.name s.body s.els a := by
  rw [sc_eq, h]; rfl

theorem rest_24 (P : List Fu) (F : Nat) (k : UInt8) (nm fr : ByteArray) (ex : List Ex) (args : List ByteArray) (body els : List St) (a : Sc) (hff : FormF k nm fr ex args body els) (h : k.toNat = 2 ∨ k.toNat = 4) : scRest P F k nm body els a = .ok (a, []) := by
  obtain rfl : body = [] := hff.body.resolve_right (by omega)
  obtain rfl : els = [] := hff.els.resolve_right (by omega)
  have hg : a.gives k nm = .ok (a, []) := by
    unfold Sc.gives
    rw [if_pos]
    rcases h with h | h <;> simp [h]
  unfold scRest
  rw [hg]
  simp only [scStmts, scDels, Sc.dels, List.foldl]
  rw [if_neg]
  rcases h with h | h <;> simp [h]
theorem gives_emp {a : Sc} {k : UInt8} {nm : ByteArray} (h : emp nm = true) : a.gives k nm = .ok (a, []) := by
  unfold Sc.gives; rw [if_pos]; simp [h]
theorem gives_err {a : Sc} {k : UInt8} {nm : ByteArray} {x : Int × Int} (h : emp nm = false) (h2 : k.toNat ≠ 2) (h4 : k.toNat ≠ 4) (hg : a.give nm = .error x) : a.gives k nm = .error x := by
  unfold Sc.gives; rw [if_neg (by simp [h, h2, h4]), hg]
theorem gives_ok {a a1 : Sc} {k : UInt8} {nm : ByteArray} (h : emp nm = false) (h2 : k.toNat ≠ 2) (h4 : k.toNat ≠ 4) (hg : a.give nm = .ok a1) : a.gives k nm = .ok (a1, [nm]) := by
  unfold Sc.gives; rw [if_neg (by simp [h, h2, h4]), hg]
theorem rest_e1 {P : List Fu} {F : Nat} {k : UInt8} {nm : ByteArray} {body els : List St} {a : Sc} {x : Int × Int} (h : a.gives k nm = .error x) : scRest P F k nm body els a = .error x := by
  unfold scRest; rw [h]
theorem rest_e2 {P : List Fu} {F : Nat} {k : UInt8} {nm : ByteArray} {body els : List St} {a a1 : Sc} {aw : List ByteArray} {x : Int × Int} (h : a.gives k nm = .ok (a1, aw)) (h2 : scDels (scStmts P F body a1 []) = .error x) : scRest P F k nm body els a = .error x := by
  unfold scRest; rw [h]; simp only; rw [h2]
theorem rest_e3 {P : List Fu} {F : Nat} {k : UInt8} {nm : ByteArray} {body els : List St} {a a1 a2 : Sc} {aw : List ByteArray} {x : Int × Int} (h : a.gives k nm = .ok (a1, aw)) (h2 : scDels (scStmts P F body a1 []) = .ok a2) (h3 : scDels (scStmts P F els a2 []) = .error x) : scRest P F k nm body els a = .error x := by
  unfold scRest; rw [h]; simp only; rw [h2]; simp only; rw [h3]
theorem rest_ok {P : List Fu} {F : Nat} {k : UInt8} {nm : ByteArray} {body els : List St} {a a1 a2 a3 : Sc} {aw : List ByteArray} (h : a.gives k nm = .ok (a1, aw)) (h2 : scDels (scStmts P F body a1 []) = .ok a2) (h3 : scDels (scStmts P F els a2 []) = .ok a3) :
    scRest P F k nm body els a = if k.toNat == 7 || k.toNat == 8 then .ok (a3.del nm, []) else .ok (a3, aw) := by
  unfold scRest; rw [h]; simp only; rw [h2]; simp only; rw [h3]
theorem gives_n {a a1 : Sc} {k : UInt8} {nm : ByteArray} {aw : List ByteArray} (h : a.gives k nm = .ok (a1, aw)) : a1.n = a.n := by
  unfold Sc.gives at h
  split at h
  · cases h; rfl
  · unfold Sc.give at h
    split at h
    · cases h
    · rename_i h9
      split at h9
      · cases h9
      · cases h9; cases h; rfl
theorem dels_n {P : List Fu} {F : Nat} {l : List St} {a a1 : Sc} (h : scDels (scStmts P F l a []) = .ok a1) : a.n ≤ a1.n ∧ a1.n ≤ a.n + St.sizes l := by
  cases h2 : scStmts P F l a [] with
  | error x => rw [h2] at h; cases h
  | ok p =>
    rw [h2] at h
    obtain ⟨a2, aw2⟩ := p
    cases h
    have := scStmts_n P F l a a2 [] aw2 h2
    rw [(dels_gi aw2 a2).2]; exact ⟨this.1, this.2.1⟩

set_option maxRecDepth 100000 in
set_option maxHeartbeats 2000000 in
theorem scstmt_of (base b bk bg : Nat) (ok : Nat → Prop) (PA : Option Addr) (pc : Nat) (P : List Fu) (F : Nat) (N : Nat) (IH : BlC base b bk bg ok PA pc P F N) : StC base b bk bg ok PA pc P F (N + 1) := by
  intro s d A1 A2 A3 A4 c1 c2 c3 c4 w a hN hok hrd hn0 hn1 h hP
  obtain ⟨W0, HW0⟩ : ∃ W0, W0 = w.alloc (.cells #[vu8 s.kind, .string s.name, .string s.frm, .bool s.sec, .bool s.mt, .slice A1 s.ex.length c1, .slice A2 s.args.length c2, .slice A3 s.body.length c3, .slice A4 s.els.length c4] 53) := ⟨_, rfl⟩
  have hbx : W0.heap[w.heap.size]? = some (.cells #[vu8 s.kind, .string s.name, .string s.frm, .bool s.sec, .bool s.mt, .slice A1 s.ex.length c1, .slice A2 s.args.length c2, .slice A3 s.body.length c3, .slice A4 s.els.length c4] 53 (0, 0)) := by rw [HW0]; exact blk_new _ _ _
  have hf0 : Fr Non w W0 := by rw [HW0]; exact (fr_refl w).alloc _
  have g5 := (cells_of hbx).1 5 _ rfl
  have HB0 := Lib.hid hbx; clear hbx
  have H0 := Lib.hid (h.stay hf0)
  have H := Lib.hid h; clear h
  have HRD := Lib.hid hrd; clear hrd
  have HP := Lib.hid hP; clear hP
  have HF0 := Lib.hid hf0; clear hf0
  go_enter Tryz.func40, Tryz.ntmps40
  go_wp2_with fail
  rw [← HW0]; clear HW0
  refine (scexprs_any (Ex.sizes s.ex + 1) s.ex ok A1 c1 base b _ W0 a bk bg (by omega) (HRD.out.ex.2.2.fr HF0.out (fun _ _ => non _) fun _ h => h) HRD.out.ex.2.1 H0.out).mono ?_
  rintro e w1 ⟨he1, hf1⟩
  cases hx1 : Ex.askss (inM a.kn) s.ex with
  | false =>
    rw [hx1] at he1; obtain rfl := he1.f; clear he1
    have hF1 := Lib.hid (HF0.out.trans hf1); clear hf1
    have HR := Lib.hid (sc_err1 P F s a (by rw [scHead, hx1]; rfl)); clear hx1
    go_wp2_with fail
    refine ⟨rfl, ?_⟩
    rw [HR.out]
    exact ⟨rfl, hF1.out.non⟩
  | true =>
    rw [hx1] at he1; obtain rfl := he1.t; clear he1
    have HX1 := Lib.hid hx1; clear hx1
    have hb1 := blk_fr HB0.out hf1 (non _)
    have H1 := Lib.hid (H0.out.stay hf1)
    have HF1 := Lib.hid (HF0.out.trans hf1); clear hf1 g5
    have g0 := (cells_of hb1).1 0 _ rfl
    have g1 := (cells_of hb1).1 1 _ rfl
    have g2 := (cells_of hb1).1 2 _ rfl
    have g6 := (cells_of hb1).1 6 _ rfl
    have HB1 := Lib.hid hb1; clear hb1
    have hbs : ∀ q, SS b bk bg q → q ≠ w.heap.size := fun q hq e => by have := (H.out.lt q hq).2; omega
    have HBS := Lib.hid hbs; clear hbs
    have hff := form_facts (sc_form s d hok)
    have HFF := Lib.hid hff
    have k1 := hff.k1
    have k12 := hff.k12
    rw [St.ok_eq] at hok
    simp only [Bool.and_eq_true] at hok
    have hsz : s.size = 1 + St.sizes s.body + St.sizes s.els := St.size_eq s
    have HSZ := Lib.hid hsz; clear hsz
    have HOK := Lib.hid hok; clear hok hff
    go_upto_block 0 with fail
    go_cut [6] (fun v6 wx => v6 = .slice none 0 0 ∧ Fr Non w1 wx ∧ scHead P F (inM a.kn) s.kind s.name s.frm s.ex s.args = true ∧ s.kind.toNat ≠ 2 ∧ s.kind.toNat ≠ 4)
    case first =>
      by_cases k24 : s.kind.toNat = 2 ∨ s.kind.toNat = 4
      · have f2 : ((s.kind.toNat : Int) == 2) = decide (s.kind.toNat = 2) := by rw [Bool.eq_iff_iff]; simp; omega
        have f4 : ((s.kind.toNat : Int) == 4) = decide (s.kind.toNat = 4) := by rw [Bool.eq_iff_iff]; simp; omega
        have hh : scHead P F (inM a.kn) s.kind s.name s.frm s.ex s.args = inM a.kn s.name := by
          rw [scHead, HX1.out]
          rcases k24 with h | h <;> simp [h]
        have HH := Lib.hid hh; clear hh
        have K24 := Lib.hid k24
        rcases k24 with k2 | k4
        · rw [decide_eq_true k2] at f2
          clear f4 k2
          go_wp2_with fail
          refine (scask_any base b _ w1 a bk bg s.name H1.out).mono ?_
          rintro e w2 ⟨he1, hf2⟩
          cases hx2 : inM a.kn s.name with
          | false =>
            rw [hx2] at he1; obtain rfl := he1.f; clear he1
            have HR := Lib.hid (sc_err1 P F s a (by rw [HH.out]; exact hx2)); clear hx2
            have HF2 := Lib.hid (HF1.out.trans hf2); clear hf2
            go_wp2_with fail
            refine ⟨rfl, ?_⟩
            rw [HR.out]
            exact ⟨rfl, HF2.out.non⟩
          | true =>
            rw [hx2] at he1; obtain rfl := he1.t; clear he1
            have HF2 := Lib.hid (HF1.out.trans hf2)
            have HS2 := Lib.hid (H1.out.stay hf2); clear hf2
            have HHT := Lib.hid (HH.out.trans hx2); clear hx2
            have HR := Lib.hid ((sc_ok1 P F s a HHT.out).trans (rest_24 P F _ _ s.frm s.ex s.args _ _ a HFF.out K24.out))
            go_wp2_with fail
            go_ret
            rw [HR.out]
            exact ⟨_, rfl, AwL.nil _ _ _, HF2.out.non, HS2.out⟩
        · rw [decide_eq_true k4] at f4
          rw [decide_eq_false (by omega)] at f2
          clear k4
          go_wp2_with fail
          refine (scask_any base b _ w1 a bk bg s.name H1.out).mono ?_
          rintro e w2 ⟨he1, hf2⟩
          cases hx2 : inM a.kn s.name with
          | false =>
            rw [hx2] at he1; obtain rfl := he1.f; clear he1
            have HR := Lib.hid (sc_err1 P F s a (by rw [HH.out]; exact hx2)); clear hx2
            have HF2 := Lib.hid (HF1.out.trans hf2); clear hf2
            go_wp2_with fail
            refine ⟨rfl, ?_⟩
            rw [HR.out]
            exact ⟨rfl, HF2.out.non⟩
          | true =>
            rw [hx2] at he1; obtain rfl := he1.t; clear he1
            have HF2 := Lib.hid (HF1.out.trans hf2)
            have HS2 := Lib.hid (H1.out.stay hf2); clear hf2
            have HHT := Lib.hid (HH.out.trans hx2); clear hx2
            have HR := Lib.hid ((sc_ok1 P F s a HHT.out).trans (rest_24 P F _ _ s.frm s.ex s.args _ _ a HFF.out K24.out))
            go_wp2_with fail
            go_ret
            rw [HR.out]
            exact ⟨_, rfl, AwL.nil _ _ _, HF2.out.non, HS2.out⟩
      · have f2 : ((s.kind.toNat : Int) == 2) = false := by simp; omega
        have f4 : ((s.kind.toNat : Int) == 4) = false := by simp; omega
        by_cases k89 : s.kind.toNat = 8 ∨ s.kind.toNat = 9
        · have f8 : ((s.kind.toNat : Int) == 8) = decide (s.kind.toNat = 8) := by rw [Bool.eq_iff_iff]; simp; omega
          have f9 : ((s.kind.toNat : Int) == 9) = decide (s.kind.toNat = 9) := by rw [Bool.eq_iff_iff]; simp; omega
          have hh : scHead P F (inM a.kn) s.kind s.name s.frm s.ex s.args = inM a.kn s.frm := by
            rw [scHead, HX1.out]
            rcases k89 with h | h <;> simp [h]
          have HH := Lib.hid hh; clear hh
          have K24 := Lib.hid k24; clear k24
          rcases k89 with k8 | k9
          · rw [decide_eq_true k8] at f8
            clear f9 k8
            go_wp2_with fail
            refine (scask_any base b _ w1 a bk bg s.frm H1.out).mono ?_
            rintro e w2 ⟨he1, hf2⟩
            cases hx2 : inM a.kn s.frm with
            | false =>
              rw [hx2] at he1; obtain rfl := he1.f; clear he1
              have HR := Lib.hid (sc_err1 P F s a (by rw [HH.out]; exact hx2)); clear hx2
              have HF2 := Lib.hid (HF1.out.trans hf2); clear hf2
              go_wp2_with fail
              refine ⟨rfl, ?_⟩
              rw [HR.out]
              exact ⟨rfl, HF2.out.non⟩
            | true =>
              rw [hx2] at he1; obtain rfl := he1.t; clear he1
              have HG2 := Lib.hid hf2
              have HF2 := Lib.hid (HF1.out.trans hf2); clear hf2
              have HHT := Lib.hid (HH.out.trans hx2); clear hx2
              go_wp2_with fail
              go_meet
              exact ⟨rfl, HG2.out, HHT.out, fun h => K24.out (.inl h), fun h => K24.out (.inr h)⟩
          · rw [decide_eq_true k9] at f9
            rw [decide_eq_false (by omega)] at f8
            clear k9
            go_wp2_with fail
            refine (scask_any base b _ w1 a bk bg s.frm H1.out).mono ?_
            rintro e w2 ⟨he1, hf2⟩
            cases hx2 : inM a.kn s.frm with
            | false =>
              rw [hx2] at he1; obtain rfl := he1.f; clear he1
              have HR := Lib.hid (sc_err1 P F s a (by rw [HH.out]; exact hx2)); clear hx2
              have HF2 := Lib.hid (HF1.out.trans hf2); clear hf2
              go_wp2_with fail
              refine ⟨rfl, ?_⟩
              rw [HR.out]
              exact ⟨rfl, HF2.out.non⟩
            | true =>
              rw [hx2] at he1; obtain rfl := he1.t; clear he1
              have HG2 := Lib.hid hf2
              have HF2 := Lib.hid (HF1.out.trans hf2); clear hf2
              have HHT := Lib.hid (HH.out.trans hx2); clear hx2
              go_wp2_with fail
              go_meet
              exact ⟨rfl, HG2.out, HHT.out, fun h => K24.out (.inl h), fun h => K24.out (.inr h)⟩
        · have f8 : ((s.kind.toNat : Int) == 8) = false := by simp; omega
          have f9 : ((s.kind.toNat : Int) == 9) = false := by simp; omega
          have K24 := Lib.hid k24; clear k24
          by_cases k11 : s.kind.toNat = 11
          · have f11 : ((s.kind.toNat : Int) == 11) = true := by simp; omega
            have hh : scHead P F (inM a.kn) s.kind s.name s.frm s.ex s.args = (s.args.all (inM a.kn) && (P.take F).any fun f => sq f.name s.frm) := by
              rw [scHead, HX1.out]
              simp [k11]
            have HH := Lib.hid hh; clear hh k11 k89
            have hal : s.args.length ≤ 140737488355328 := by have := HRD.out.args.2.1; unfold reach at this; omega
            go_wp2_with fail
            go_loopw [34] (fun i wr => ∃ k : Nat, i = .int .i64 k ∧ k ≤ s.args.length ∧ Fr Non w1 wr ∧ ∀ j, j < k → ∀ hj : j < s.args.length, inM a.kn s.args[j] = true) (fun i _ => s.args.length - (intOf i).toNat)
            case atStart => exact ⟨0, rfl, by omega, fr_refl w1, fun j hj => by omega⟩
            case round =>
              obtain ⟨k, rfl, hk, hfr, hno⟩ := hrel
              have HN := Lib.hid hno; clear hno
              have HRF := Lib.hid hfr; clear hfr
              have HSR := Lib.hid (H1.out.stay HRF.out)
              by_cases hlt : k < s.args.length
              · obtain ⟨g, o, e6, hd, e0⟩ := at_str (HRD.out.args.2.2.fr (HF1.out.trans HRF.out) (fun _ _ => non _) fun _ h => h) k hlt
                rw [e6] at g6
                subst e6
                generalize hx : s.args[k] = x at *
                have HX := Lib.hid hx; clear hx
                go_wp2_with fail
                refine (scask_any base b _ wr a bk bg x HSR.out).mono ?_
                rintro e w2 ⟨he1, hf2⟩
                cases hx2 : inM a.kn x with
                | false =>
                  rw [hx2] at he1; obtain rfl := he1.f; clear he1
                  have HR := Lib.hid (sc_err1 P F s a (by rw [HH.out, all_false_of k hlt (by rw [HX.out]; exact hx2)]; rfl)); clear hx2
                  have HF2 := Lib.hid ((HF1.out.trans HRF.out).trans hf2); clear hf2
                  go_wp2_with fail
                  refine ⟨rfl, ?_⟩
                  rw [HR.out]
                  exact ⟨rfl, HF2.out.non⟩
                | true =>
                  rw [hx2] at he1; obtain rfl := he1.t; clear he1
                  have HX2 := Lib.hid hx2; clear hx2
                  go_wp2_with fail
                  go_roundw
                  case rel => exact ⟨k + 1, by go_num, by omega, HRF.out.trans hf2, till HN.out fun _ => by rw [HX.out]; exact HX2.out⟩
                  case measure => simp [intOf]; omega
              · have hall : s.args.all (inM a.kn) = true := all_true_of fun j hj => HN.out j (by omega) hj
                have HALL := Lib.hid hall; clear hall
                have hPr := HP.out.fr (HF1.out.trans HRF.out) (fun _ _ => non _)
                obtain ⟨pg, po, A1', c1', A2', c2', A3', c3', hpa, _⟩ := at_fu hPr.rows 0 (by have := hPr.hF; omega)
                have b0 := (cells_of HSR.out.blk).1 0 _ rfl
                have b1 := (cells_of HSR.out.blk).1 1 _ rfl
                have hF1 := hPr.hF
                have hpc1 := hPr.hpc
                have hPl : P.length ≤ 140737488355328 := by have := hPr.hc; unfold reach at this; omega
                have hFn : wr.cell? ⟨w.heap.size, 2, none⟩ = some (.string s.frm) := HRF.out.cell' g2 (non _)
                have hcall := called_any P F w.heap.size (by omega) ok PA pc s.frm wr hPr.rows hPr.hc hFn
                have HC := Lib.hid hcall; clear hcall
                subst hpa
                have hmf : ∀ (fn : Fn) (first cap : Array Value) (w : World), (Instr.makeFunc fn first cap).run Tryz.prog w = .ok (.func fn first cap) w := fun _ _ _ _ => rfl
                go_wp2_with fail
                refine HC.out.mono ?_
                rintro e w2 ⟨rfl, hf2⟩
                have b1 := hf2.cell' b1 (non _)
                have HG2 := Lib.hid (HRF.out.trans hf2)
                have HF2 := Lib.hid ((HF1.out.trans HRF.out).trans hf2); clear hf2
                generalize hq : ((P.take F).any fun f => sq f.name s.frm) = q
                have HQ := Lib.hid hq; clear hq
                cases q with
                | true =>
                  go_wp2_with fail
                  go_meet
                  exact ⟨rfl, HG2.out, by rw [HH.out, HALL.out, HQ.out]; rfl, fun h => K24.out (.inl h), fun h => K24.out (.inr h)⟩
                | false =>
                  have HR := Lib.hid (sc_err1 P F s a (by rw [HH.out, HALL.out, HQ.out]; rfl))
                  go_wp2_with fail
                  refine (scbad_any base b (.slice (some ⟨pg, po, none⟩) P.length pc) w2 a bk bg 3 b1).mono ?_
                  rintro e w' ⟨rfl, rfl⟩
                  unfold Sc.err faultP
                  go_wp2_with fail
                  refine ⟨rfl, ?_⟩
                  rw [HR.out]
                  exact ⟨rfl, HF2.out.non⟩
          · have f11 : ((s.kind.toNat : Int) == 11) = false := by simp; omega
            have hh : scHead P F (inM a.kn) s.kind s.name s.frm s.ex s.args = true := by
              have e2 : s.kind.toNat ≠ 2 := fun h => K24.out (.inl h)
              have e4 : s.kind.toNat ≠ 4 := fun h => K24.out (.inr h)
              rw [scHead, HX1.out]
              simp [k11, e2, e4]; omega
            have HH := Lib.hid hh; clear hh k89
            go_wp2_with fail
            go_meet
            exact ⟨rfl, fr_refl w1, HH.out, fun h => K24.out (.inl h), fun h => K24.out (.inr h)⟩
    case rest =>
      obtain ⟨rfl, hfc, hh, hk2, hk4⟩ := hcut
      have HR1 := Lib.hid (sc_ok1 P F s a hh); clear hh
      clear g0 g1 g2 g6
      have hb2 := blk_fr HB1.out hfc (non _)
      have g1 := (cells_of hb2).1 1 _ rfl
      have HB2 := Lib.hid hb2; clear hb2
      have H2 := Lib.hid (H1.out.stay hfc)
      have HF2 := Lib.hid (HF1.out.trans hfc); clear hfc
      have hlt := H.out.lt
      have hoks : ∀ q, ok q → ¬ SS b bk bg q := fun q hq h => by have h1 := HP.out.hok q hq; have h2 := (hlt q h).1; omega
      have hfar : ∀ q, w.heap.size ≤ q → ¬ SS b bk bg q := fun q hq h => by have h2 := (hlt q h).2; omega
      have HOKS := Lib.hid hoks; clear hoks
      have HFAR := Lib.hid hfar; clear hfar
      have HLT := Lib.hid hlt; clear hlt
      have hwlt : w.heap.size < wc.heap.size := blk_lt HB2.out
      go_upto_if 56 with fail
      go_cut [6] (fun v6 wx => ∃ a1 aw, a.gives s.kind s.name = .ok (a1, aw) ∧ AwL b w.heap.size wx v6 aw ∧ Fr (SS b bk bg) wc wx ∧ ScAt base b (.slice PA P.length pc) wx a1 bk bg)
      case first =>
        cases hem : emp s.name with
        | true =>
          have hem' := hem; rw [← toemp] at hem'
          have hem2 : (!s.name.toList.isEmpty) = false := by rw [hem']; rfl
          have HEM := Lib.hid hem; clear hem
          rw [hem2]
          go_wp2_with fail
          go_meet
          exact ⟨a, [], gives_emp HEM.out, AwL.nil _ _ _, Fr.refl _ _, H2.out⟩
        | false =>
          have hem' := hem; rw [← toemp] at hem'
          have hem2 : (!s.name.toList.isEmpty) = true := by rw [hem']; rfl
          have HEM := Lib.hid hem; clear hem
          rw [hem2]
          go_wp2_with fail
          refine (scgive_any base b _ wc a bk bg s.name H2.out).mono ?_
          intro e w3 hgr
          unfold GiveR at hgr
          cases hgv : a.give s.name with
          | error x =>
            rw [hgv] at hgr
            obtain ⟨rfl, hf3⟩ := hgr
            have HR := Lib.hid (HR1.out.trans (rest_e1 (gives_err HEM.out hk2 hk4 hgv))); clear hgv
            have HF3 := Lib.hid (HF2.out.trans hf3); clear hf3
            unfold faultP
            go_wp2_with fail
            refine ⟨rfl, ?_⟩
            rw [HR.out]
            exact ⟨rfl, HF3.out.non⟩
          | ok a1 =>
            rw [hgv] at hgr
            obtain ⟨v, pw, ps, rfl, haw, hp1, hp2, hf3, h3⟩ := hgr
            have HG := Lib.hid (gives_ok HEM.out hk2 hk4 hgv); clear hgv
            have hv := haw.1
            subst hv
            have HAW := Lib.hid haw; clear haw
            have H3 := Lib.hid h3; clear h3
            have hsz3 := hf3.size
            have HF3 := Lib.hid hf3; clear hf3
            go_wp2_with (at_builtin; refine app_fn rfl _ _ rfl w.heap.size (.slice none 0 0) [] rfl (World.ownsRow_nil _ _ _ _) (some ⟨w3.heap.size, 0, none⟩) 1 [.func (.func 67) #[] #[.pointer (some ⟨pw, 0, none⟩), .pointer (some ⟨ps, 0, none⟩)]] rfl ?qa1 ?qa2 ?qa3 ?qa4 ?qa5 ?qa6)
            case qa1 => exact fun j u hu => ⟨_, rfl, new_cells _ _ _ j u hu⟩
            case qa2 => intro u hu; rw [List.mem_singleton] at hu; subst hu; rfl
            case qa3 => simp
            case qa4 => simp
            case qa5 => simp; omega
            case qa6 =>
              intro v6 w4 hown hf4
              try simp only [List.nil_append] at hown
              have hf34 : Fr Non w3 w4 := ((fr_refl w3).alloc _).trans (hf4.mono fun k _ h => by cases h.2)
              have HAWL := Lib.hid (show AwL b w.heap.size w4 v6 [s.name] from ⟨_, hown, rfl, fun i hi => ⟨_, pw, ps, by simp at hi; subst hi; rfl, by
                have e : ([s.name] : List ByteArray)[i] = s.name := by simp at hi; subst hi; rfl
                rw [e]; exact HAW.out.fr hf34 (non _) (non _), by omega, by omega⟩⟩)
              have HF4 := Lib.hid (HF3.out.trans hf34.non)
              have H4 := Lib.hid (H3.out.stay hf34)
              clear hown hf4 hf34
              go_wp2_with fail
              go_meet
              exact ⟨a1, [s.name], HG.out, HAWL.out, HF4.out, H4.out⟩
      case rest =>
        obtain ⟨a1, aw, hg, haw, hfr, h3⟩ := hcut
        clear g1
        have hn1' := gives_n hg
        have HN1 := Lib.hid hn1'; clear hn1'
        have HG := Lib.hid hg; clear hg
        have HF3 := Lib.hid (HF2.out.non.trans hfr)
        have hb3 := blk_fr HB2.out hfr (HFAR.out _ (Nat.le_refl _)); clear hfr
        have g7 := (cells_of hb3).1 7 _ rfl
        have HB3 := Lib.hid hb3; clear hb3
        have HAW := Lib.hid haw; clear haw
        have H3 := Lib.hid h3; clear h3
        have hna1 : 0 ≤ a1.n := by rw [HN1.out]; exact hn0
        have hna2 : a1.n + St.sizes s.body + St.sizes s.els ≤ 1099511627776 := by rw [HN1.out]; have := HSZ.out; omega
        go_wp2_with fail
        refine (IH s.body (d + 1) A3 c3 wc a1 (by have := HSZ.out; omega) HOK.out.1.2 (HRD.out.body.2.2.fr HF3.out HOKS.out fun _ h => h) HRD.out.body.2.1 (by omega) (by have := HSZ.out; omega) H3.out (HP.out.fr HF3.out HOKS.out)).mono ?_
        intro e w4 hbr
        cases hbd : scDels (scStmts P F s.body a1 []) with
        | error x =>
          rw [hbd] at hbr
          obtain ⟨rfl, hf4⟩ := hbr
          have HR := Lib.hid (HR1.out.trans (rest_e2 HG.out hbd)); clear hbd
          have HF4 := Lib.hid (HF3.out.trans hf4); clear hf4
          go_wp2_with fail
          refine ⟨rfl, ?_⟩
          rw [HR.out]
          exact ⟨rfl, HF4.out⟩
        | ok a2 =>
          rw [hbd] at hbr
          obtain ⟨rfl, hf4, h4⟩ := hbr
          have hd2 := dels_n hbd
          have HBD := Lib.hid hbd; clear hbd
          have hb4 := blk_fr HB3.out hf4 (HFAR.out _ (Nat.le_refl _))
          clear g7
          have g8 := (cells_of hb4).1 8 _ rfl
          have HB4 := Lib.hid hb4; clear hb4
          have HF4 := Lib.hid (HF3.out.trans hf4)
          have HAW4 := Lib.hid (HAW.out.fr hf4 HFAR.out); clear hf4
          have H4 := Lib.hid h4; clear h4
          go_wp2_with fail
          refine (IH s.els (d + 1) A4 c4 w4 a2 (by have := HSZ.out; omega) HOK.out.2 (HRD.out.els.2.2.fr HF4.out HOKS.out fun _ h => h) HRD.out.els.2.1 (by omega) (by have := HSZ.out; omega) H4.out (HP.out.fr HF4.out HOKS.out)).mono ?_
          intro e w5 hbr
          cases hbe : scDels (scStmts P F s.els a2 []) with
          | error x =>
            rw [hbe] at hbr
            obtain ⟨rfl, hf5⟩ := hbr
            have HR := Lib.hid (HR1.out.trans (rest_e3 HG.out HBD.out hbe)); clear hbe
            have HF5 := Lib.hid (HF4.out.trans hf5); clear hf5
            go_wp2_with fail
            refine ⟨rfl, ?_⟩
            rw [HR.out]
            exact ⟨rfl, HF5.out⟩
          | ok a3 =>
            rw [hbe] at hbr
            obtain ⟨rfl, hf5, h5⟩ := hbr
            have HR := Lib.hid (HR1.out.trans (rest_ok HG.out HBD.out hbe)); clear hbe
            have hb5 := blk_fr HB4.out hf5 (HFAR.out _ (Nat.le_refl _))
            clear g8
            have g0 := (cells_of hb5).1 0 _ rfl
            have HF5 := Lib.hid (HF4.out.trans hf5)
            have HAW5 := Lib.hid (HAW4.out.fr hf5 HFAR.out); clear hf5 hb5
            have H5 := Lib.hid h5; clear h5
            by_cases k78 : s.kind.toNat = 7 ∨ s.kind.toNat = 8
            · have f7 : ((s.kind.toNat : Int) == 7) = decide (s.kind.toNat = 7) := by rw [Bool.eq_iff_iff]; simp; omega
              have f8 : ((s.kind.toNat : Int) == 8) = decide (s.kind.toNat = 8) := by rw [Bool.eq_iff_iff]; simp; omega
              have hem : emp s.name = false := by
                have := emp_of_namedX (HFF.out.other (by omega)).2.2
                rw [this, nName]
                rcases k78 with h | h <;> simp [h]
              have haw1 : aw = [s.name] := by
                have hgs := HG.out
                cases hgv : a.give s.name with
                | error x => rw [gives_err hem hk2 hk4 hgv] at hgs; cases hgs
                | ok a9 => rw [gives_ok hem hk2 hk4 hgv] at hgs; cases hgs; rfl
              have hrr : (s.kind.toNat == 7 || s.kind.toNat == 8) = true := by rcases k78 with h | h <;> simp [h]
              have HRR := Lib.hid hrr; clear hrr hem
              subst haw1
              obtain ⟨Aw, cw, hv6, hcw⟩ := HAW5.out.slice
              subst hv6
              obtain ⟨g, pw, ps, rfl, y0, y1, y2⟩ := HAW5.out.at 0 (by simp)
              have Y1 := Lib.hid y1; clear y1
              have Y2 := Lib.hid y2; clear y2
              rcases k78 with k7 | k8
              · rw [decide_eq_true k7] at f7
                clear f8 k7
                go_wp2_with fail
                refine (scaway_any base b pw ps _ w5 a3 bk bg s.name H5.out Y1.out (by simpa using Y2.out)).mono ?_
                rintro e w6 ⟨rfl, hf6, h6⟩
                have HF6 := Lib.hid (HF5.out.trans (hf6.mono fun _ _ h => .inr (.inl h))); clear hf6
                have H6 := Lib.hid h6; clear h6
                go_wp2_with fail
                go_ret
                rw [HR.out, HRR.out]
                exact ⟨_, rfl, AwL.nil _ _ _, HF6.out, H6.out⟩
              · rw [decide_eq_true k8] at f8
                rw [decide_eq_false (by omega)] at f7
                clear k8
                go_wp2_with fail
                refine (scaway_any base b pw ps _ w5 a3 bk bg s.name H5.out Y1.out (by simpa using Y2.out)).mono ?_
                rintro e w6 ⟨rfl, hf6, h6⟩
                have HF6 := Lib.hid (HF5.out.trans (hf6.mono fun _ _ h => .inr (.inl h))); clear hf6
                have H6 := Lib.hid h6; clear h6
                go_wp2_with fail
                go_ret
                rw [HR.out, HRR.out]
                exact ⟨_, rfl, AwL.nil _ _ _, HF6.out, H6.out⟩
            · have f7 : ((s.kind.toNat : Int) == 7) = false := by simp; omega
              have f8 : ((s.kind.toNat : Int) == 8) = false := by simp; omega
              have hrr : (s.kind.toNat == 7 || s.kind.toNat == 8) = false := by simp; omega
              have HRR := Lib.hid hrr; clear hrr k78
              go_wp2_with fail
              go_ret
              rw [HR.out, HRR.out]
              exact ⟨_, rfl, HAW5.out, HF5.out, H5.out⟩
end Go.Proofs.YtnlnejpioijkiaaGreatDoor
/- Contracts of the reference's walker: what a method keeps of its own blocks; a buffer that is moved. -/
namespace Go.Proofs.YtnlnejpioijkiaaGreatDoor
open Go.RowKit
set_option linter.unusedVariables false
set_option linter.unusedSimpArgs false
/-- Where a method stands, seen from where it began. -/
structure Mid (base b : Nat) (PV : Value) (ru : Int) (w0 : World) (ve0 vg0 : Value) (w : World) (s : Wk) (ve vg : Value) : Prop where
  at' : WkAt base b PV ru w s ve vg
  fr : Fr (WS b ve0 vg0) w0 w
  new : ∀ k, WS b ve vg k → WS b ve0 vg0 k ∨ w0.heap.size ≤ k
section
variable {base b : Nat} {PV : Value} {ru : Int} {w0 w w' : World} {ve0 vg0 ve vg : Value} {s s' : Wk}
theorem Mid.start (h : WkAt base b PV ru w s ve vg) : Mid base b PV ru w ve vg w s ve vg := ⟨h, Fr.refl _ _, fun _ h => .inl h⟩
theorem Mid.stay (h : Mid base b PV ru w0 ve0 vg0 w s ve vg) (hf : Fr Non w w') : Mid base b PV ru w0 ve0 vg0 w' s ve vg := ⟨h.at'.stay hf, h.fr.trans hf.non, h.new⟩
theorem Mid.one (h : Mid base b PV ru w0 ve0 vg0 w s ve vg) (hf : Fr (fun k => k = b) w w') (h' : WkAt base b PV ru w' s' ve vg) : Mid base b PV ru w0 ve0 vg0 w' s' ve vg :=
  ⟨h', h.fr.trans (hf.mono fun _ _ e => .inl e), h.new⟩
theorem Mid.stp (h : Mid base b PV ru w0 ve0 vg0 w s ve vg) : Stp base b PV ru w0 ve0 vg0 w s := ⟨ve, vg, h.at', h.fr, h.new⟩
theorem Mid.step (h : Mid base b PV ru w0 ve0 vg0 w s ve vg) (k : Stp base b PV ru w ve vg w' s') : ∃ ve' vg', Mid base b PV ru w0 ve0 vg0 w' s' ve' vg' ∧ Fr (WS b ve vg) w w' ∧ ∀ k, WS b ve' vg' k → WS b ve vg k ∨ w.heap.size ≤ k := by
  obtain ⟨ve', vg', h1, h2, h3⟩ := k
  refine ⟨ve', vg', ⟨h1, ⟨h2.os.trans h.fr.os, h2.tape.trans h.fr.tape, h2.output.trans h.fr.output, Nat.le_trans h.fr.size h2.size, fun k hk hs => ?_⟩, fun k hk => ?_⟩, h2, h3⟩
  · rw [h2.block k (Nat.lt_of_lt_of_le hk h.fr.size) fun h9 => ?_, h.fr.block k hk hs]
    rcases h.new k h9 with h9 | h9
    · exact hs h9
    · omega
  · rcases h3 k hk with h9 | h9
    · exact h.new k h9
    · exact .inr (Nat.le_trans h.fr.size h9)
theorem Mid.away {S : Nat → Prop} (h : Mid base b PV ru w0 ve0 vg0 w s ve vg) (hf : Fr S w w') (hs : ∀ k, WS b ve vg k → ¬ S k) (h0 : ∀ k, S k → w0.heap.size ≤ k) : Mid base b PV ru w0 ve0 vg0 w' s ve vg :=
  ⟨h.at'.far hf hs, h.fr.then hf fun k hk h9 => by have := h0 k h9; omega, h.new⟩
theorem far_new (h : WkAt base b PV ru w s ve vg) : ¬ WS b ve vg w.heap.size := fun hk => by have := (h.lt _ hk).2; omega
theorem far_low (h : WkAt base b PV ru w s ve vg) {q : Nat} (hq : q < base) : ¬ WS b ve vg q := fun hk => by have := (h.lt _ hk).1; omega
theorem far_step {ve' vg' : Value} {q : Nat} (h : ¬ WS b ve vg q) (hq : q < w.heap.size) (hn : ∀ k, WS b ve' vg' k → WS b ve vg k ∨ w.heap.size ≤ k) : ¬ WS b ve' vg' q := fun hk => by
  rcases hn q hk with h9 | h9
  · exact h h9
  · omega
theorem far_b {q : Nat} (h : ¬ WS b ve vg q) : ¬ q = b := fun e => h (.inl e)
end
theorem Va.gone_put (x : Va) : ({ x with gone := true } : Va).v = .agg #[.string x.name, .bool x.buf, .bool x.sec, .bool x.mt, .bool x.own, .bool x.set, .bool true, .int .i64 x.lent, .int .i64 x.loops] := rfl

set_option maxRecDepth 100000 in
set_option maxHeartbeats 4000000 in
theorem move_any (base b : Nat) (PV : Value) (ru : Int) (w : World) (s : Wk) (ve vg : Value) (k : UInt8) (nm fr : ByteArray) (sec mt : Bool) (A1 A2 A3 A4 : Option Addr) (n1 c1 n2 c2 n3 c3 n4 c4 : Nat)
   (h : WkAt base b PV ru w s ve vg) (hl : Lim 1 0 s) :
   Calls Tryz.prog 82 #[.pointer (some ⟨b, 0, none⟩), .agg #[vu8 k, .string nm, .string fr, .bool sec, .bool mt, .slice A1 n1 c1, .slice A2 n2 c2, .slice A3 n3 c3, .slice A4 n4 c4]] w fun e w' => e = .returned (.tuple #[]) ∧ Stp base b PV ru w ve vg w' (s.move ru nm fr) := by
  have hc := hl.env
  have hc2 := hl.giv
  obtain ⟨W1, HW1⟩ : ∃ W1, W1 = w.alloc (.cells #[vu8 k, .string nm, .string fr, .bool sec, .bool mt, .slice A1 n1 c1, .slice A2 n2 c2, .slice A3 n3 c3, .slice A4 n4 c4] 53) := ⟨_, rfl⟩
  have hf1 : Fr Non w W1 := by rw [HW1]; exact (fr_refl w).alloc _
  have hb1 : W1.heap[w.heap.size]? = some (.cells #[vu8 k, .string nm, .string fr, .bool sec, .bool mt, .slice A1 n1 c1, .slice A2 n2 c2, .slice A3 n3 c3, .slice A4 n4 c4] 53 (0, 0)) := by rw [HW1]; exact blk_new _ _ _
  have hfar := far_new h
  have M1 := Lib.hid ((Mid.start h).stay hf1); clear h hf1
  have s2 := (cells_of hb1).1 2 _ rfl
  have HB1 := Lib.hid hb1; clear hb1
  have HS := Lib.hid (show s.move ru nm fr = ((((((s.ask ru fr true).2.bad ru 11 (!(s.ask ru fr true).1.own) 8).bad ru 13 ((s.ask ru fr true).1.lent == 1) 130).bad ru 14 ((s.ask ru fr true).1.loops != (s.ask ru fr true).2.loops) 140).put { (s.ask ru fr true).1 with gone := true })).give ru (Va.bufv nm (s.ask ru fr true).1.sec true true) from rfl)
  have HK := Lib.hid (Kp.ask ru s fr true)
  go_enter Tryz.func82, Tryz.ntmps82
  go_wp2_with fail
  rw [← HW1]; clear HW1
  refine (ask_any base b PV ru W1 s ve vg fr true M1.out.at' (by omega)).mono ?_
  rintro e w2 ⟨rfl, hf2, h2⟩
  generalize (s.ask ru fr true).1 = x at *
  generalize (s.ask ru fr true).2 = t at *
  obtain ⟨W3, HW3⟩ : ∃ W3, W3 = w2.alloc (.cells #[.string x.name, .bool x.buf, .bool x.sec, .bool x.mt, .bool x.own, .bool x.set, .bool x.gone, .int .i64 x.lent, .int .i64 x.loops] 148) := ⟨_, rfl⟩
  have hf3 : Fr Non w2 W3 := by rw [HW3]; exact (fr_refl _).alloc _
  have hv3 : W3.heap[w2.heap.size]? = some (.cells #[.string x.name, .bool x.buf, .bool x.sec, .bool x.mt, .bool x.own, .bool x.set, .bool x.gone, .int .i64 x.lent, .int .i64 x.loops] 148 (0, 0)) := by rw [HW3]; exact blk_new _ _ _
  have hfv := far_new h2
  have hb2 := blk_fr HB1.out hf2 (far_b hfar)
  have hb3 := blk_fr hb2 hf3 (non _)
  have hlt2 := blk_lt hb2
  have M3 := Lib.hid ((M1.out.one hf2 h2).stay hf3); clear hf2 h2 s2
  have HF3 := Lib.hid hf3; clear hf3
  have HB3 := Lib.hid hb3; clear hb2 hb3
  have v4 := (cells_of hv3).1 4 _ rfl
  have HV3 := Lib.hid hv3; clear hv3
  unfold Va.v
  go_upto_region 2 with fail
  rw [← HW3]; clear HW3
  go_wp2_with fail
  refine (bad_any base b PV ru W3 t ve vg 11 _ 8 M3.out.at').mono ?_
  rintro e w4 ⟨rfl, hf4, h4⟩
  have hb4 := blk_fr HB3.out hf4 (far_b hfar)
  have hv4 := blk_fr HV3.out hf4 (far_b hfv)
  have M4 := Lib.hid (M3.out.one hf4 h4); clear hf4 h4 v4
  have v7 := (cells_of hv4).1 7 _ rfl
  have HB4 := Lib.hid hb4; clear hb4
  have HV4 := Lib.hid hv4; clear hv4
  go_wp2_with fail
  refine (bad_any base b PV ru w4 _ ve vg 13 _ 130 M4.out.at').mono ?_
  rintro e w5 ⟨rfl, hf5, h5⟩
  have hb5 := blk_fr HB4.out hf5 (far_b hfar)
  have hv5 := blk_fr HV4.out hf5 (far_b hfv)
  have M5 := Lib.hid (M4.out.one hf5 h5); clear hf5 h5 v7
  have v8 := (cells_of hv5).1 8 _ rfl
  have b8 := (cells_of M5.out.at'.blk).1 8 _ rfl
  have HLo := Lib.hid (show ((t.bad ru 11 (!x.own) 8).bad ru 13 (x.lent == 1) 130).loops = t.loops by rw [(bad_env _ _ _ _ _).2.2.1, (bad_env _ _ _ _ _).2.2.1])
  have HB5 := Lib.hid hb5; clear hb5
  have HV5 := Lib.hid hv5; clear hv5
  go_upto_region 4 with fail
  go_still_tail 8, (by kernel_rfl)
  change wpList _ _ _ _ _ w5.drew
  have M6 := Lib.hid (M5.out.stay (fr_refl w5).drew)
  have HB6 := Lib.hid (blk_fr HB5.out (fr_refl w5).drew (non _))
  have HV6 := Lib.hid (blk_fr HV5.out (fr_refl w5).drew (non _))
  clear v8 b8
  go_wp2_with fail
  refine (bad_any base b PV ru w5.drew _ ve vg 14 _ 140 M6.out.at').mono ?_
  rintro e w7 ⟨rfl, hf7, h7⟩
  rw [HLo.out] at h7
  have hb7 := blk_fr HB6.out hf7 (far_b hfar)
  have hv7 := blk_fr HV6.out hf7 (far_b hfv)
  have M7 := Lib.hid (M6.out.one hf7 h7); clear hf7 h7
  have HB7 := Lib.hid hb7; clear hb7
  have HK7 := Lib.hid (show Kp s _ from (((HK.out.trans (Kp.bad t ru 11 (!x.own) 8)).trans (Kp.bad _ ru 13 (x.lent == 1) 130)).trans (Kp.bad _ ru 14 (x.loops != t.loops) 140)))
  generalize ((t.bad ru 11 (!x.own) 8).bad ru 13 (x.lent == 1) 130).bad ru 14 (x.loops != t.loops) 140 = u at *
  have l0 := (cells_of hv7).1 0 _ rfl
  have l1 := (cells_of hv7).1 1 _ rfl
  have l2 := (cells_of hv7).1 2 _ rfl
  have l3 := (cells_of hv7).1 3 _ rfl
  have l4 := (cells_of hv7).1 4 _ rfl
  have l5 := (cells_of hv7).1 5 _ rfl
  have l6 := (cells_of hv7).1 6 _ rfl
  have l7 := (cells_of hv7).1 7 _ rfl
  have l8 := (cells_of hv7).1 8 _ rfl
  have HV7 := Lib.hid hv7; clear hv7
  go_upto_region 6 with fail
  obtain ⟨W8, HW8⟩ : ∃ W8, W8 = w7.alloc (.cells #[.string x.name, .bool x.buf, .bool x.sec, .bool x.mt, .bool x.own, .bool x.set, .bool x.gone, .int .i64 x.lent, .int .i64 x.loops] 148) := ⟨_, rfl⟩
  have hf8 : Fr Non w7 W8 := by rw [HW8]; exact (fr_refl _).alloc _
  have hx8 : W8.heap[w7.heap.size]? = some (.cells #[.string x.name, .bool x.buf, .bool x.sec, .bool x.mt, .bool x.own, .bool x.set, .bool x.gone, .int .i64 x.lent, .int .i64 x.loops] 148 (0, 0)) := by rw [HW8]; exact blk_new _ _ _
  have hfx := far_new M7.out.at'
  have hlt7 := blk_lt HB7.out
  have hlv7 := blk_lt HV7.out
  have z8 := (cells_of hx8).2
  have z6 := (cells_of hx8).1 6 _ rfl
  have HX8 := Lib.hid hx8; clear hx8
  have HB8 := Lib.hid (blk_fr HB7.out hf8 (non _))
  have HV8 := Lib.hid (blk_fr HV7.out hf8 (non _))
  have M8 := Lib.hid (M7.out.stay hf8); clear hf8 l0 l1 l2 l3 l4 l5 l6 l7 l8
  rw [← HW8]; clear HW8
  go_upto_region 7 with fail
  obtain ⟨W9, HW9⟩ : ∃ W9, W9 = W8.setCell ⟨w7.heap.size, 6, none⟩ (.bool true) := ⟨_, rfl⟩
  rw [← HW9]
  have hx9 : W9.heap[w7.heap.size]? = some (.cells #[.string x.name, .bool x.buf, .bool x.sec, .bool x.mt, .bool x.own, .bool x.set, .bool true, .int .i64 x.lent, .int .i64 x.loops] 148 (0, 0)) := by rw [HW9]; exact blk_set HX8.out 6 _
  have hf9 : Fr (fun q => q = w7.heap.size) W8 W9 := by rw [HW9]; exact (Fr.refl _ _).setCell _ _ (.inl rfl)
  clear HW9
  have HB9 := Lib.hid (blk_fr HB8.out hf9 (by omega))
  have HV9 := Lib.hid (blk_fr HV8.out hf9 (by omega))
  have M9 := Lib.hid (M8.out.away hf9 (fun q hq e => by subst e; exact hfx hq) (fun q e => by subst e; exact M7.out.fr.size)); clear hf9 z8 z6
  have l0 := (cells_of hx9).1 0 _ rfl
  have l1 := (cells_of hx9).1 1 _ rfl
  have l2 := (cells_of hx9).1 2 _ rfl
  have l3 := (cells_of hx9).1 3 _ rfl
  have l4 := (cells_of hx9).1 4 _ rfl
  have l5 := (cells_of hx9).1 5 _ rfl
  have l6 := (cells_of hx9).1 6 _ rfl
  have l7 := (cells_of hx9).1 7 _ rfl
  have l8 := (cells_of hx9).1 8 _ rfl
  clear hx9
  have hcu : u.env.length ≤ 1099511627776 := by rw [HK7.out.env]; omega
  have hgu : u.given.length ≤ 1099511627776 := by rw [HK7.out.giv]; omega
  go_wp2_with fail
  refine (put_any base b PV ru W9 u ve vg { x with gone := true } M9.out.at' hcu).mono ?_
  rintro e w10 ⟨rfl, h10⟩
  obtain ⟨ve', vg', m10, hf10, hn10⟩ := M9.out.step h10
  have hlB9 := blk_lt HB9.out
  have hlV9 := blk_lt HV9.out
  have hb10 := blk_fr HB9.out hf10 hfar
  have hv10 := blk_fr HV9.out hf10 hfv
  have M10 := Lib.hid m10; clear h10 hf10 hn10 m10 l0 l1 l2 l3 l4 l5 l6 l7 l8
  have s1 := (cells_of hb10).1 1 _ rfl
  have v2 := (cells_of hv10).1 2 _ rfl
  clear hb10 hv10
  go_wp2_with fail
  refine (give_any base b PV ru w10 _ ve' vg' (Va.bufv nm x.sec true true) M10.out.at' (by simpa [Wk.put] using hcu) hgu).mono ?_
  rintro e w11 ⟨rfl, h11⟩
  obtain ⟨ve2, vg2, m11, _, _⟩ := M10.out.step h11
  have M11 := Lib.hid m11; clear h11 m11
  go_wp2_with fail
  go_end0
  rw [HS.out]
  exact ⟨rfl, M11.out.stp⟩
end Go.Proofs.YtnlnejpioijkiaaGreatDoor
/- Contracts of the reference's walker: a call. -/
namespace Go.Proofs.YtnlnejpioijkiaaGreatDoor
open Go.RowKit
set_option linter.unusedVariables false
set_option linter.unusedSimpArgs false
theorem found_any {ok : Nat → Prop} {o : Option Fu} {e : Ending} {w' : World} (h : FoundF ok o e w') : ∃ A1 c1 A2 c2 A3 c3, e = .returned (.tuple #[.agg #[.string (o.getD Fu.zero).name, .slice A1 (o.getD Fu.zero).params.length c1, .slice A2 (o.getD Fu.zero).body.length c2, .bool (o.getD Fu.zero).sec, .slice A3 (o.getD Fu.zero).ret.length c3], .bool o.isSome]) ∧
    RdRows ok w' 4 A1 0 ((o.getD Fu.zero).params.map Pa.d) ∧ (o.getD Fu.zero).params.length * 24 ≤ reach := by
  cases o with
  | none => exact ⟨none, 0, none, 0, none, 0, h, trivial, by decide⟩
  | some f =>
    obtain ⟨u, rfl, A1, c1, A2, c2, A3, c3, rfl, h1, h2, _⟩ := h
    exact ⟨A1, c1, A2, c2, A3, c3, rfl, h1, h2⟩
theorem callN_le (ru : Int) (ps : List Pa) (ex : List Ex) (s : Wk) : ∀ i, (Wk.callN ru ps ex s i).1 ≤ i ∧ (Wk.callN ru ps ex s i).2.1 ≤ i
  | 0 => ⟨Nat.le_refl _, Nat.le_refl _⟩
  | i + 1 => by
    have := callN_le ru ps ex s i
    simp only [Wk.callN]
    split <;> simp only <;> omega
theorem wk_flag {base b : Nat} {PV : Value} {ru : Int} {w : World} {s : Wk} {ve vg : Value} {r e : Int} {x y : Bool} (hx : x = y) (h : WkAt base b PV ru w (s.bad ru r x e) ve vg) : WkAt base b PV ru w (s.bad ru r y e) ve vg := hx ▸ h

set_option maxRecDepth 100000 in
set_option maxHeartbeats 4000000 in
theorem call_any (base b : Nat) (ok : Nat → Prop) (PA : Option Addr) (pc : Nat) (P : List Fu) (F : Nat) (ru : Int) (w : World) (s : Wk) (ve vg : Value) (k : UInt8) (nm fr : ByteArray) (sec mt : Bool) (ex : List Ex) (args : List ByteArray) (A1 A2 A3 A4 : Option Addr) (c1 c2 n3 c3 n4 c4 : Nat)
   (h : WkAt base b (.slice PA P.length pc) ru w s ve vg) (hl : Lim 1 0 s) (hP : ScP base ok PA pc P F w) (hF : s.f = (F : Int)) (hex : ex.all exM = true) (q1 : ex.length * 64 ≤ reach) (r1 : RdRows ok w 5 A1 0 (Ex.ds ex)) (q2 : args.length * 16 ≤ reach) (r2 : RdRows ok w 1 A2 0 (args.map strD)) :
   Calls Tryz.prog 83 #[.pointer (some ⟨b, 0, none⟩), .agg #[vu8 k, .string nm, .string fr, .bool sec, .bool mt, .slice A1 ex.length c1, .slice A2 args.length c2, .slice A3 n3 c3, .slice A4 n4 c4]] w fun e w' => e = .returned (.tuple #[]) ∧ Stp base b (.slice PA P.length pc) ru w ve vg w' (s.call ru P nm fr ex args) := by
  have hc : s.env.length ≤ 1099511627776 := by have := hl.env; omega
  have hc2 : s.given.length ≤ 1099511627776 := by have := hl.giv; omega
  have hl1 : ex.length ≤ 140737488355328 := by unfold reach at q1; omega
  have hl2 : args.length ≤ 140737488355328 := by unfold reach at q2; omega
  obtain ⟨W1, HW1⟩ : ∃ W1, W1 = w.alloc (.cells #[vu8 k, .string nm, .string fr, .bool sec, .bool mt, .slice A1 ex.length c1, .slice A2 args.length c2, .slice A3 n3 c3, .slice A4 n4 c4] 53) := ⟨_, rfl⟩
  have hf1 : Fr Non w W1 := by rw [HW1]; exact (fr_refl w).alloc _
  have hb1 : W1.heap[w.heap.size]? = some (.cells #[vu8 k, .string nm, .string fr, .bool sec, .bool mt, .slice A1 ex.length c1, .slice A2 args.length c2, .slice A3 n3 c3, .slice A4 n4 c4] 53 (0, 0)) := by rw [HW1]; exact blk_new _ _ _
  have hfar := far_new h
  have hbw := blk_lt h.blk
  have HOK := Lib.hid (show ∀ q, ok q → ¬ q = b by intro q hq e; have h1 := hP.hok q hq; have := h.hb; omega)
  have HOKB := Lib.hid (show ∀ q, ok q → q < W1.heap.size by intro q hq; have h1 := hP.hok q hq; have := h.hb; have := hf1.size; omega)
  have HP := Lib.hid (hP.fr hf1 (fun _ _ => non _)); clear hP
  have R1 := Lib.hid (r1.fr hf1 (fun _ _ => non _) fun _ h => h); clear r1
  have R2 := Lib.hid (r2.fr hf1 (fun _ _ => non _) fun _ h => h); clear r2
  have M1 := Lib.hid ((Mid.start h).stay hf1); clear h hf1
  have s2 := (cells_of hb1).1 2 _ rfl
  have HB1 := Lib.hid hb1; clear hb1
  have hFn : s.f.toNat = F := by omega
  have HS := Lib.hid (show s.call ru P nm fr ex args = if emp nm then s.call2 ru ((P.take F).find? fun f => sq f.name fr) nm ex args else (s.call2 ru ((P.take F).find? fun f => sq f.name fr) nm ex args).give ru (Va.num nm (((P.take F).find? fun f => sq f.name fr).getD Fu.zero).sec false) by rw [Wk.call, Wk.func, hFn])
  have HFH := Lib.hid hF; clear hF hFn
  have HEX := Lib.hid hex; clear hex
  go_enter Tryz.func83, Tryz.ntmps83
  go_wp2_with fail
  rw [← HW1]; clear HW1
  refine (func_any base b PA pc ru W1 s ve vg fr P ok F M1.out.at' HFH.out (Nat.le_of_lt HP.out.hF) HP.out.rows HP.out.hc HOKB.out).mono ?_
  rintro e w2 ⟨hf2, hfo⟩
  obtain ⟨B1, d1, B2, d2, B3, d3, rfl, pr, pq⟩ := found_any hfo
  clear hfo
  generalize ((P.take F).find? fun f => sq f.name fr) = fo at *
  have HC2 := Lib.hid (show s.call2 ru fo nm ex args = ((((Wk.askN ru args (Wk.secN ru ex (Wk.callN ru (fo.getD Fu.zero).params ex s (fo.getD Fu.zero).params.length).1 (Wk.callN ru (fo.getD Fu.zero).params ex s (fo.getD Fu.zero).params.length).2.2 (ex.length - (Wk.callN ru (fo.getD Fu.zero).params ex s (fo.getD Fu.zero).params.length).1)) args.length).bad ru 10 (!fo.isSome) 3).bad ru 11 ((Wk.callN ru (fo.getD Fu.zero).params ex s (fo.getD Fu.zero).params.length).1 != ex.length || (Wk.callN ru (fo.getD Fu.zero).params ex s (fo.getD Fu.zero).params.length).2.1 != args.length || !emp nm && (fo.getD Fu.zero).ret.length == 0) 8).handed ru (fo.getD Fu.zero).params args) from rfl)
  generalize fo.getD Fu.zero = f at *
  generalize fo.isSome = is at *
  have hl3 : f.params.length ≤ 140737488355328 := by unfold reach at pq; omega
  obtain ⟨W3, HW3⟩ : ∃ W3, W3 = w2.alloc (.cells #[.string f.name, .slice B1 f.params.length d1, .slice B2 f.body.length d2, .bool f.sec, .slice B3 f.ret.length d3] 44) := ⟨_, rfl⟩
  have hf3 : Fr Non w2 W3 := by rw [HW3]; exact (fr_refl _).alloc _
  have hg3 : W3.heap[w2.heap.size]? = some (.cells #[.string f.name, .slice B1 f.params.length d1, .slice B2 f.body.length d2, .bool f.sec, .slice B3 f.ret.length d3] 44 (0, 0)) := by rw [HW3]; exact blk_new _ _ _
  have hf23 := hf2.trans hf3
  have hfg := far_new (M1.out.at'.stay hf2)
  have hlt2 := blk_lt (blk_fr HB1.out hf2 (non _))
  have HB3 := Lib.hid (blk_fr HB1.out hf23 (non _))
  have M3 := Lib.hid (M1.out.stay hf23)
  have HG3 := Lib.hid hg3; clear hg3
  have PR := Lib.hid (pr.fr hf3 (fun _ _ => non _) fun _ h => h); clear pr
  have R13 := Lib.hid (R1.out.fr hf23 (fun _ _ => non _) fun _ h => h)
  have R23 := Lib.hid (R2.out.fr hf23 (fun _ _ => non _) fun _ h => h)
  clear hf2 hf3 hf23 s2
  go_upto_region 2 with fail
  rw [← HW3]; clear HW3
  go_wp2_with fail
  go_loopw [6, 7, 8] (fun u v i wr => ∃ j : Nat, i = .int .i64 j ∧ u = .int .i64 (Wk.callN ru f.params ex s j).1 ∧ v = .int .i64 (Wk.callN ru f.params ex s j).2.1 ∧ j ≤ f.params.length ∧ Fr (fun q => q = b) W3 wr ∧ WkAt base b (.slice PA P.length pc) ru wr (Wk.callN ru f.params ex s j).2.2 ve vg) (fun _ _ i _ => f.params.length - (intOf i).toNat)
  case atStart => exact ⟨0, rfl, rfl, rfl, by omega, Fr.refl _ _, M3.out.at'⟩
  case round =>
    rename_i QA KA aA
    have HAA := Lib.hid aA; clear aA
    obtain ⟨j, rfl, rfl, rfl, hj, hfr, hw⟩ := hrel
    have hcl := callN_le ru f.params ex s j
    have HKP := Lib.hid (Kp.callN ru f.params ex s j)
    have hbs := blk_fr HB3.out hfr (far_b hfar)
    have hbg := blk_fr HG3.out hfr (far_b hfg)
    have g1 := (cells_of hbg).1 1 _ rfl
    have s5 := (cells_of hbs).1 5 _ rfl
    have HBS := Lib.hid hbs; clear hbs
    have HBG := Lib.hid hbg; clear hbg
    have HFR := Lib.hid hfr
    have HST := Lib.hid (show Wk.callN ru f.params ex s (j + 1) = if (f.params.getD j Pa.zero).buf then ((Wk.callN ru f.params ex s j).1, (Wk.callN ru f.params ex s j).2.1 + 1, (Wk.callN ru f.params ex s j).2.2) else ((Wk.callN ru f.params ex s j).1 + 1, (Wk.callN ru f.params ex s j).2.1, if (Wk.callN ru f.params ex s j).1 < ex.length then (Wk.callN ru f.params ex s j).2.2.opn ru (ex.getD (Wk.callN ru f.params ex s j).1 Ex.zero) (f.params.getD j Pa.zero).sec else (Wk.callN ru f.params ex s j).2.2) from rfl)
    by_cases hlt : j < f.params.length
    · obtain ⟨b5, o5, rfl, hb5, y0, y1, y2, y3⟩ := at_pa (PR.out.fr hfr (fun q hq => HOK.out q hq) fun _ h => h) j hlt
      have hgd : f.params.getD j Pa.zero = f.params[j] := by rw [List.getD_eq_getElem?_getD, List.getElem?_eq_getElem hlt, Option.getD_some]
      rw [hgd] at HST; clear hgd
      generalize f.params[j] = x at *
      obtain ⟨xn, xb, xs, xm⟩ := x
      simp only at y0 y1 y2 y3 HST
      have HR9 := Lib.hid (R13.out.fr hfr (fun q hq => HOK.out q hq) fun _ h => h)
      have HWK := Lib.hid hw; clear hw hfr y0 y3
      generalize hcn : Wk.callN ru f.params ex s j = r at *
      clear hcn
      obtain ⟨rn, rb, t⟩ := r
      simp only at hcl HKP HST HWK HFR
      obtain ⟨hcl1, hcl2⟩ := hcl
      cases xb with
      | true =>
        have hst := HST.out
        rw [if_pos rfl] at hst
        have HST2 := Lib.hid hst; clear hst HST
        go_wp2_with fail
        have aA := HAA.out
        go_roundw
        case rel => exact ⟨j + 1, by go_num, by rw [HST2.out], by rw [HST2.out]; go_num, by omega, HFR.out, by rw [HST2.out]; exact HWK.out⟩
        case measure => simp [intOf]; omega
      | false =>
        have hst := HST.out
        rw [if_neg Bool.false_ne_true] at hst
        have HST2 := Lib.hid hst; clear hst HST
        by_cases hn : rn < ex.length
        · obtain ⟨b6, o6, A6, c6, rfl, hb6, x0, x1, x2, x3, x4, p6, q6, r6⟩ := at_ex HR9.out rn hn
          have hst := HST2.out
          rw [if_pos hn, List.getD_eq_getElem?_getD, List.getElem?_eq_getElem hn, Option.getD_some] at hst
          have hem : exM ex[rn] = true := by have := HEX.out; rw [List.all_eq_true] at this; exact this _ (List.getElem_mem hn)
          have HEM := Lib.hid hem; clear hem
          have HST3 := Lib.hid hst; clear hst HST2
          generalize ex[rn] = y at *
          have HR6 := Lib.hid (r6.fr (fr_refl wr).drew (fun _ _ => non _) fun _ h => h); clear r6
          have hkd := Lib.hid (HWK.out.stay (fr_refl wr).drew)
          have hct : t.env.length ≤ 1099511627776 := by rw [HKP.out.env]; exact hc
          go_upto_region 9 with fail
          go_still_tail 12, (by kernel_rfl)
          change wpList _ _ _ _ _ wr.drew
          clear x0 x1 x2 x3 x4
          go_wp2_with fail
          refine (open_any y xs 1 ok A6 c6 base b _ ru wr.drew t ve vg HEM.out HR6.out HOK.out hkd.out hct).mono ?_
          rintro e w7 ⟨rfl, hf7, h7⟩
          have HF7 := Lib.hid (HFR.out.trans ((fr_refl wr).drew.non.trans hf7)); clear hf7
          have H7 := Lib.hid h7; clear h7
          go_wp2_with fail
          have aA := HAA.out
          go_roundw
          case rel => exact ⟨j + 1, by go_num, by rw [HST3.out]; go_num, by rw [HST3.out], by omega, HF7.out, by rw [HST3.out]; exact H7.out⟩
          case measure => simp [intOf]; omega
        · have hst := HST2.out
          rw [if_neg hn] at hst
          have HST3 := Lib.hid hst; clear hst HST2
          go_wp2_with fail
          have aA := HAA.out
          go_roundw
          case rel => exact ⟨j + 1, by go_num, by rw [HST3.out]; go_num, by rw [HST3.out], by omega, HFR.out, by rw [HST3.out]; exact HWK.out⟩
          case measure => simp [intOf]; omega
    · obtain rfl : j = f.params.length := by omega
      have HWK := Lib.hid hw; clear hw HST
      generalize Wk.callN ru f.params ex s f.params.length = r at *
      obtain ⟨rn, rb, t⟩ := r
      simp only at hcl HKP HWK HC2
      obtain ⟨hcl1, hcl2⟩ := hcl
      obtain ⟨wp, rfl⟩ : ∃ wp : World, wp = wr := ⟨_, rfl⟩
      clear hfr
      have aA := HAA.out
      go_wp2_with fail
      clear g1
      go_loopw [9] (fun i wr => ∃ m z : Nat, i = .int .i64 z ∧ z = rn + m ∧ (m = 0 ∨ rn + m ≤ ex.length) ∧ Fr (fun q => q = b) W3 wr ∧ WkAt base b (.slice PA P.length pc) ru wr (Wk.secN ru ex rn t m) ve vg) (fun i _ => ex.length - (intOf i).toNat)
      case atStart => exact ⟨0, rn, rfl, rfl, .inl rfl, HFR.out, HWK.out⟩
      case round =>
        rename_i KB aB
        have HAB := Lib.hid aB; clear aB
        obtain ⟨m, z, rfl, hz, hm, hfm, hkm⟩ := hrel
        have HZ := Lib.hid hz; clear hz
        have hbs := blk_fr HB3.out hfm (far_b hfar)
        have s5 := (cells_of hbs).1 5 _ rfl
        have HBM := Lib.hid hbs; clear hbs
        have HKM := Lib.hid (HKP.out.trans (Kp.secN ru ex rn t m))
        by_cases hn : z < ex.length
        · obtain ⟨b6, o6, A6, c6, rfl, hb6, x0, x1, x2, x3, x4, p6, q6, r6⟩ := at_ex (R13.out.fr hfm (fun q hq => HOK.out q hq) fun _ h => h) z hn
          have hem : exM ex[z] = true := by have := HEX.out; rw [List.all_eq_true] at this; exact this _ (List.getElem_mem hn)
          have HEM := Lib.hid hem; clear hem
          have HST := Lib.hid (show Wk.secN ru ex rn t (m + 1) = (Wk.sec ru ex[z] (Wk.secN ru ex rn t m)).2 by rw [Wk.secN, ← HZ.out, List.getD_eq_getElem?_getD, List.getElem?_eq_getElem hn, Option.getD_some])
          generalize ex[z] = y at *
          have HR6 := Lib.hid r6; clear r6
          have HFM := Lib.hid hfm; clear hfm
          have HW := Lib.hid hkm; clear hkm
          have hct : (Wk.secN ru ex rn t m).env.length ≤ 1099511627776 := by rw [HKM.out.env]; exact hc
          go_wp2_with fail
          refine (sec_any y 1 ok A6 c6 base b _ ru wr _ ve vg HEM.out HR6.out HOK.out HW.out hct).mono ?_
          rintro e w7 ⟨rfl, hf7, h7⟩
          have HF7 := Lib.hid (HFM.out.trans hf7); clear hf7
          have H7 := Lib.hid h7; clear h7 x0 x1 x2 x3 x4
          go_wp2_with fail
          have aB := HAB.out
          go_roundw
          case rel => exact ⟨m + 1, z + 1, by go_num, by have := HZ.out; omega, .inr (by have := HZ.out; omega), HF7.out, by rw [HST.out]; exact H7.out⟩
          case measure => simp [intOf]; omega
        · obtain rfl : m = ex.length - rn := by have := HZ.out; omega
          clear HZ
          generalize Wk.secN ru ex rn t (ex.length - rn) = u at *
          have HWU := Lib.hid hkm; clear hkm
          have HFU := Lib.hid hfm; clear hfm
          obtain ⟨wq, rfl⟩ : ∃ wq : World, wq = wr := ⟨_, rfl⟩
          have aB := HAB.out
          go_wp2_with fail
          clear s5
          go_loopw [10] (fun i wr => ∃ m : Nat, i = .int .i64 m ∧ m ≤ args.length ∧ Fr (fun q => q = b) W3 wr ∧ WkAt base b (.slice PA P.length pc) ru wr (Wk.askN ru args u m) ve vg) (fun i _ => args.length - (intOf i).toNat)
          case atStart => exact ⟨0, rfl, by omega, HFU.out, HWU.out⟩
          case round =>
            rename_i KC aC
            have HAC := Lib.hid aC; clear aC
            obtain ⟨m, rfl, hm2, hfm, hkm⟩ := hrel
            have hbs := blk_fr HB3.out hfm (far_b hfar)
            have s6 := (cells_of hbs).1 6 _ rfl
            have HKA := Lib.hid (HKM.out.trans (Kp.askN ru args u m))
            have hct : (Wk.askN ru args u m).env.length ≤ 1099511627776 := by rw [HKA.out.env]; exact hc
            by_cases hn2 : m < args.length
            · obtain ⟨b6, o6, rfl, hb6, z0⟩ := at_str (R23.out.fr hfm (fun q hq => HOK.out q hq) fun _ h => h) m hn2
              have HST := Lib.hid (show Wk.askN ru args u (m + 1) = ((Wk.askN ru args u m).ask ru args[m] true).2 by rw [Wk.askN, List.getD_eq_getElem?_getD, List.getElem?_eq_getElem hn2, Option.getD_some])
              generalize args[m] = an at *
              have HFM := Lib.hid hfm; clear hfm hbs
              have HW := Lib.hid hkm; clear hkm
              go_wp2_with fail
              refine (ask_any base b _ ru wr _ ve vg an true HW.out hct).mono ?_
              rintro e w7 ⟨rfl, hf7, h7⟩
              have HF7 := Lib.hid (HFM.out.trans hf7); clear hf7
              have H7 := Lib.hid h7; clear h7 z0
              go_wp2_with fail
              have aC := HAC.out
              go_roundw
              case rel => exact ⟨m + 1, by go_num, by omega, HF7.out, by rw [HST.out]; exact H7.out⟩
              case measure => simp [intOf]; omega
            · obtain rfl : m = args.length := by omega
              generalize Wk.askN ru args u args.length = y at *
              have hbg := blk_fr HG3.out hfm (far_b hfg)
              have HBG2 := Lib.hid hbg; clear hbg
              have HBS2 := Lib.hid hbs; clear hbs
              have HFM := Lib.hid hfm; clear hfm
              have HW := Lib.hid hkm; clear hkm
              obtain ⟨wz, rfl⟩ : ∃ wz : World, wz = wr := ⟨_, rfl⟩
              have aC := HAC.out
              go_upto_region 19 with fail
              go_wp2_with fail
              refine (bad_any base b _ ru wz y ve vg 10 _ 3 HW.out).mono ?_
              rintro e w8 ⟨rfl, hf8, h8⟩
              have hk8 := Kp.bad y ru 10 (!is) 3
              have HK8 := Lib.hid (HKA.out.trans hk8); clear hk8
              generalize y.bad ru 10 (!is) 3 = y8 at *
              have hbs8 := blk_fr HBS2.out hf8 (far_b hfar)
              have hbg8 := blk_fr HBG2.out hf8 (far_b hfg)
              have HF8 := Lib.hid (HFM.out.trans hf8)
              have H8 := Lib.hid h8; clear hf8 h8 s6
              have s5 := (cells_of hbs8).1 5 _ rfl
              have s6 := (cells_of hbs8).1 6 _ rfl
              have s1 := (cells_of hbs8).1 1 _ rfl
              have g4 := (cells_of hbg8).1 4 _ rfl
              have HBS8 := Lib.hid hbs8; clear hbs8
              have HBG8 := Lib.hid hbg8; clear hbg8
              go_upto_region 20 with fail
              go_cut [109] (fun v109 wx => WkAt base b (.slice PA P.length pc) ru wx (y8.bad ru 11 (rn != ex.length || rb != args.length || !emp nm && f.ret.length == 0) 8) ve vg ∧ Fr (fun q => q = b) w8 wx)
              case first =>
                by_cases e1 : rn = ex.length
                · have de1 : (((rn : Nat) : Int) != ((ex.length : Nat) : Int)) = false := by rw [e1]; simp
                  have de1' : decide (((rn : Nat) : Int) = ((ex.length : Nat) : Int)) = true := decide_eq_true (by omega)
                  have De1 := Lib.hid e1; clear e1
                  by_cases e2 : rb = args.length
                  · have de2 : (((rb : Nat) : Int) != ((args.length : Nat) : Int)) = false := by rw [e2]; simp
                    have de2' : decide (((rb : Nat) : Int) = ((args.length : Nat) : Int)) = true := decide_eq_true (by omega)
                    have De2 := Lib.hid e2; clear e2
                    cases em : emp nm with
                    | true =>
                      have em' : nm.toList.isEmpty = true := by rw [toemp]; exact em
                      have em2 : (!nm.toList.isEmpty) = false := by rw [em']; rfl
                      have DM := Lib.hid em; clear em
                      go_wp2_with fail
                      refine (bad_any base b _ ru w8 y8 ve vg 11 _ 8 H8.out).mono ?_
                      rintro e w9 ⟨rfl, hf9, h9⟩
                      go_wp2_with fail
                      go_meet
                      exact ⟨wk_flag (by simp [De1.out, De2.out, DM.out]) h9, hf9⟩
                    | false =>
                      have em' : nm.toList.isEmpty = false := by rw [toemp]; exact em
                      have em2 : (!nm.toList.isEmpty) = true := by rw [em']; rfl
                      have DM := Lib.hid em; clear em
                      by_cases e3 : f.ret.length = 0
                      · have De3 := Lib.hid e3
                        have d3 : (((f.ret.length : Nat) : Int) == 0) = true := by rw [e3]; rfl
                        have d3' : decide (((f.ret.length : Nat) : Int) = 0) = true := decide_eq_true (by omega)
                        clear e3
                        go_wp2_with fail
                        refine (bad_any base b _ ru w8 y8 ve vg 11 _ 8 H8.out).mono ?_
                        rintro e w9 ⟨rfl, hf9, h9⟩
                        go_wp2_with fail
                        go_meet
                        exact ⟨wk_flag (by simp [De1.out, De2.out, DM.out, De3.out]) h9, hf9⟩
                      · have De3 := Lib.hid e3
                        have d3 : (((f.ret.length : Nat) : Int) == 0) = false := by rw [beq_eq_false_iff_ne]; omega
                        have d3' : decide (((f.ret.length : Nat) : Int) = 0) = false := decide_eq_false (by omega)
                        clear e3
                        go_wp2_with fail
                        refine (bad_any base b _ ru w8 y8 ve vg 11 _ 8 H8.out).mono ?_
                        rintro e w9 ⟨rfl, hf9, h9⟩
                        go_wp2_with fail
                        go_meet
                        exact ⟨wk_flag (by simp [De1.out, De2.out, DM.out, De3.out]) h9, hf9⟩
                  · have de2 : (((rb : Nat) : Int) != ((args.length : Nat) : Int)) = true := by rw [bne_iff_ne]; omega
                    have de2' : decide (((rb : Nat) : Int) = ((args.length : Nat) : Int)) = false := decide_eq_false (by omega)
                    have De2 := Lib.hid e2; clear e2
                    go_wp2_with fail
                    refine (bad_any base b _ ru w8 y8 ve vg 11 _ 8 H8.out).mono ?_
                    rintro e w9 ⟨rfl, hf9, h9⟩
                    go_wp2_with fail
                    go_meet
                    exact ⟨wk_flag (by simp [De1.out, De2.out]) h9, hf9⟩
                · have de1 : (((rn : Nat) : Int) != ((ex.length : Nat) : Int)) = true := by rw [bne_iff_ne]; omega
                  have de1' : decide (((rn : Nat) : Int) = ((ex.length : Nat) : Int)) = false := decide_eq_false (by omega)
                  have De1 := Lib.hid e1; clear e1
                  go_wp2_with fail
                  refine (bad_any base b _ ru w8 y8 ve vg 11 _ 8 H8.out).mono ?_
                  rintro e w9 ⟨rfl, hf9, h9⟩
                  go_wp2_with fail
                  go_meet
                  exact ⟨wk_flag (by simp [De1.out]) h9, hf9⟩
              case rest =>
                obtain ⟨h9, hf9⟩ := hcut
                have hk9 := Kp.bad y8 ru 11 (rn != ex.length || rb != args.length || !emp nm && f.ret.length == 0) 8
                have HK9 := Lib.hid (HK8.out.trans hk9); clear hk9
                generalize y8.bad ru 11 (rn != ex.length || rb != args.length || !emp nm && f.ret.length == 0) 8 = y9 at *
                obtain ⟨wd, rfl⟩ : ∃ wd : World, wd = wc := ⟨_, rfl⟩
                have hbs9 := blk_fr HBS8.out hf9 (far_b hfar)
                have hbg9 := blk_fr HBG8.out hf9 (far_b hfg)
                have HF9 := Lib.hid (HF8.out.trans hf9)
                have H9 := Lib.hid h9; clear hf9 h9 s5 s6 s1 g4
                have g0 := (cells_of hbg9).1 0 _ rfl
                have g1 := (cells_of hbg9).1 1 _ rfl
                have g2 := (cells_of hbg9).1 2 _ rfl
                have g3 := (cells_of hbg9).1 3 _ rfl
                have g4 := (cells_of hbg9).1 4 _ rfl
                have s6 := (cells_of hbs9).1 6 _ rfl
                have HBS9 := Lib.hid hbs9; clear hbs9
                have HBG9 := Lib.hid hbg9; clear hbg9
                have hct9 : y9.env.length ≤ 1099511627776 := by rw [HK9.out.env]; exact hc
                have hlt3 := HF9.out.size
                go_wp2_with fail
                refine (handed_any base b _ ru wd y9 ve vg f.params args ok f.name f.sec B1 B2 B3 A2 d1 d2 d3 c2 f.body.length f.ret.length H9.out hct9 (PR.out.fr HF9.out (fun q hq => HOK.out q hq) fun _ h => h) pq (R23.out.fr HF9.out (fun q hq => HOK.out q hq) fun _ h => h) q2 HP.out.hok).mono ?_
                rintro e w10 ⟨rfl, hf10, h10⟩
                have HK10 := Lib.hid (HK9.out.trans (Kp.handed ru f.params args y9))
                rw [← HC2.out] at h10 HK10
                generalize s.call2 ru fo nm ex args = y10 at *
                have hbs10 := blk_fr HBS9.out hf10 (far_b hfar)
                have hbg10 := blk_fr HBG9.out hf10 (far_b hfg)
                have M10 := Lib.hid (M3.out.one (HF9.out.trans hf10) h10); clear hf10 h10 g0 g1 g2 g3 g4 s6
                have s1 := (cells_of hbs10).1 1 _ rfl
                have g3 := (cells_of hbg10).1 3 _ rfl
                clear hbs10 hbg10
                cases em : emp nm with
                | true =>
                  have em' : nm.toList.isEmpty = true := by rw [toemp]; exact em
                  have em2 : (!nm.toList.isEmpty) = false := by rw [em']; rfl
                  have hs := HS.out
                  rw [em, if_pos rfl] at hs
                  have HS2 := Lib.hid hs; clear hs HS em
                  go_wp2_with fail
                  go_end0
                  rw [HS2.out]
                  exact ⟨rfl, M10.out.stp⟩
                | false =>
                  have em' : nm.toList.isEmpty = false := by rw [toemp]; exact em
                  have em2 : (!nm.toList.isEmpty) = true := by rw [em']; rfl
                  have hs := HS.out
                  rw [em, if_neg Bool.false_ne_true] at hs
                  have HS2 := Lib.hid hs; clear hs HS em
                  have hc10 : y10.env.length ≤ 1099511627776 := by rw [HK10.out.env]; exact hc
                  have hg10 : y10.given.length ≤ 1099511627776 := by rw [HK10.out.giv]; exact hc2
                  go_wp2_with fail
                  refine (give_any base b _ ru w10 y10 ve vg (Va.num nm f.sec false) M10.out.at' hc10 hg10).mono ?_
                  rintro e w11 ⟨rfl, h11⟩
                  obtain ⟨ve2, vg2, m11, _, _⟩ := M10.out.step h11
                  have M11 := Lib.hid m11; clear h11 m11
                  go_wp2_with fail
                  go_end0
                  rw [HS2.out]
                  exact ⟨rfl, M11.out.stp⟩
end Go.Proofs.YtnlnejpioijkiaaGreatDoor
/- The program's walker of scope: blocks. -/
namespace Go.Proofs.YtnlnejpioijkiaaGreatDoor
open Go.RowKit
set_option linter.unusedVariables false
set_option linter.unusedSimpArgs false

theorem ScAt.setn {base b : Nat} {PV : Value} {w : World} {a : Sc} {bk bg : Nat} (h : ScAt base b PV w a bk bg) (m : Int) : ScAt base b PV (w.setCell ⟨b, 1, none⟩ (.int .i64 m)) ⟨a.kn, a.gi, m⟩ bk bg := by
  have hf : Fr (fun k => k = b) w (w.setCell ⟨b, 1, none⟩ (.int .i64 m)) := (Fr.refl (fun k => k = b) w).setCell _ _ (.inl rfl)
  have hn := h.bk_ne
  exact ⟨blk_set h.blk 1 _, h.kn.fr hf hn.1, h.gi.fr hf hn.2, h.ne, h.hb, h.hk, h.hg⟩
theorem row_src {base : Nat} {e : TypeId} {w : World} {A : Option Addr} {c : Nat} {ys : List Value} (h : w.ownsRow base e 1 (.slice A ys.length c) ys.length ys) : ∀ j u, ys[j]? = some u → ∃ ad, A = some ad ∧ w.cell? (ad.add j) = some u := by
  intro j u hu
  have hlt := (List.getElem?_eq_some_iff.1 hu).1
  obtain ⟨g, rfl, _, hc⟩ := row_at h (by omega)
  exact ⟨_, rfl, by rw [Addr.add_lit]; simpa using (hc j u hu).1⟩
theorem dels_snoc (a : Sc) (l : List ByteArray) (x : ByteArray) : a.dels (l ++ [x]) = (a.dels l).del x := by simp [Sc.dels]
theorem aw_one {b B : Nat} {w : World} {aw : List ByteArray} {vs : List Value} (h2 : vs.length = aw.length) (h : ∀ i (h : i < aw.length), ∃ x pw ps, vs[i]? = some x ∧ AwayV b w x aw[i] pw ps ∧ B ≤ pw ∧ B ≤ ps) : ∀ u ∈ vs, u.oneCell' = true := by
  intro u hu
  obtain ⟨i, hi, rfl⟩ := List.mem_iff_getElem.1 hu
  obtain ⟨x, pw, ps, g1, g2, _⟩ := h i (by omega)
  rw [List.getElem?_eq_getElem hi] at g1
  cases g1
  rw [g2.1]; rfl
theorem aw_append {b B B' : Nat} {w : World} {aw aw2 : List ByteArray} {vs ys : List Value} (hB : B ≤ B') (h2 : vs.length = aw.length) (h3 : ∀ i (h : i < aw.length), ∃ x pw ps, vs[i]? = some x ∧ AwayV b w x aw[i] pw ps ∧ B ≤ pw ∧ B ≤ ps)
    (q2 : ys.length = aw2.length) (q3 : ∀ i (h : i < aw2.length), ∃ x pw ps, ys[i]? = some x ∧ AwayV b w x aw2[i] pw ps ∧ B' ≤ pw ∧ B' ≤ ps) : ∀ i (h : i < (aw ++ aw2).length), ∃ x pw ps, (vs ++ ys)[i]? = some x ∧ AwayV b w x (aw ++ aw2)[i] pw ps ∧ B ≤ pw ∧ B ≤ ps := by
  intro i hi
  by_cases hl : i < aw.length
  · obtain ⟨x, pw, ps, g1, g2, g3, g4⟩ := h3 i hl
    refine ⟨x, pw, ps, ?_, ?_, g3, g4⟩
    · rw [List.getElem?_append_left (by omega)]; exact g1
    · rw [List.getElem_append_left hl]; exact g2
  · rw [List.length_append] at hi
    obtain ⟨x, pw, ps, g1, g2, g3, g4⟩ := q3 (i - aw.length) (by omega)
    refine ⟨x, pw, ps, ?_, ?_, Nat.le_trans hB g3, Nat.le_trans hB g4⟩
    · rw [List.getElem?_append_right (by omega), h2]; exact g1
    · rw [List.getElem_append_right (by omega)]; exact g2

theorem oks_at {l : List St} {d : Nat} (h : St.oks l d = true) (k : Nat) (hk : k < l.length) : St.ok l[k] d = true := by
  induction l generalizing k with
  | nil => simp at hk
  | cons x l ih =>
    simp only [St.oks, Bool.and_eq_true] at h
    cases k with
    | zero => exact h.1
    | succ k => exact ih h.2 k (by simpa using hk)

set_option maxRecDepth 100000 in
set_option maxHeartbeats 2000000 in
theorem scblock_of (base b bk bg : Nat) (ok : Nat → Prop) (PA : Option Addr) (pc : Nat) (P : List Fu) (F : Nat) (N : Nat) (ST : StC base b bk bg ok PA pc P F N) : BlC base b bk bg ok PA pc P F N := by
  intro l d A c w a hN hok hr hc hn0 hn1 h hP
  have hlen : l.length ≤ 140737488355328 := by unfold reach at hc; omega
  have hlt := h.lt
  have hoks : ∀ q, ok q → ¬ SS b bk bg q := fun q hq hs => by have h1 := hP.hok q hq; have h2 := (hlt q hs).1; omega
  have hfar : ∀ q, w.heap.size ≤ q → ¬ SS b bk bg q := fun q hq hs => by have h2 := (hlt q hs).2; omega
  have HOKS := Lib.hid hoks; clear hoks
  have HFAR := Lib.hid hfar; clear hfar hlt
  have H := Lib.hid h; clear h
  have HR := Lib.hid hr; clear hr
  have HP := Lib.hid hP; clear hP
  have HOK := Lib.hid hok; clear hok
  go_enter Tryz.func70, Tryz.ntmps70
  go_wp2_with fail
  go_loopw [6, 13] (fun v i wr => ∃ k : Nat, ∃ ak awk, i = .int .i64 k ∧ k ≤ l.length ∧ scStmts P F (l.take k) a [] = .ok (ak, awk) ∧ AwL b w.heap.size wr v awk ∧ Fr (SS b bk bg) w wr ∧ ScAt base b (.slice PA P.length pc) wr ak bk bg) (fun _ i _ => l.length - (intOf i).toNat)
  case atStart => exact ⟨0, a, [], rfl, by omega, rfl, AwL.nil _ _ _, Fr.refl _ _, H.out⟩
  case round =>
    obtain ⟨k, ak, awk, rfl, hk, hsc, haw, hfr, hs⟩ := hrel
    have HSC := Lib.hid hsc
    have hnk := scStmts_n P F _ a ak [] awk hsc
    clear hsc
    have hsz1 := sizes_take_le l k
    have b1 := (cells_of hs.blk).1 1 _ rfl
    have bf := (cells_of hs.blk).2
    have hblt := blk_lt hs.blk
    have hrr := HR.out.fr hfr HOKS.out (fun _ h => h)
    have HRR := Lib.hid hrr; clear hrr
    have HAW := Lib.hid haw; clear haw
    have HF := Lib.hid hfr; clear hfr
    have HS := Lib.hid hs; clear hs
    by_cases hlt : k < l.length
    · obtain ⟨g, o, A1, c1, A2, c2, A3, c3, A4, c4, rfl, hd, e0, e1, e2, e3, e4, e5, e6, e7, e8, r1, r2, r3, r4⟩ := at_st HRR.out k hlt
      have HSR := Lib.hid (⟨r1, r2, r3, r4⟩ : StRd ok wr l[k] A1 A2 A3 A4 c1 c2 c3 c4)
      clear r1 r2 r3 r4
      have hsz2 := sizes_take l k hlt
      have hsz3 := sizes_take_le l (k + 1)
      have hbn : ak.n ≤ 1099511627776 := by omega
      have hbn0 : 0 ≤ ak.n := by omega
      generalize hx : l[k] = x at *
      have hxok : St.ok x d = true := by rw [← hx]; exact oks_at HOK.out k hlt
      have HX := Lib.hid hx; clear hx
      have HXOK := Lib.hid hxok; clear hxok
      have hw2 : ∀ o : Obj, Fr (SS b bk bg) wr ((wr.setCell ⟨b, 1, none⟩ (.int .i64 (ak.n + 1))).alloc o) := fun o => ((Fr.refl (SS b bk bg) wr).setCell _ _ (.inl (.inl rfl))).alloc _
      have HW2 := Lib.hid hw2; clear hw2
      have hwsz : w.heap.size ≤ wr.heap.size := HF.out.size
      go_wp2_with fail
      refine (ST x d A1 A2 A3 A4 c1 c2 c3 c4 _ ⟨ak.kn, ak.gi, ak.n + 1⟩ (by omega) HXOK.out (HSR.out.fr (HW2.out _) HOKS.out) (by simp only; omega) (by simp only; omega) ((HS.out.setn (ak.n + 1)).stay ((fr_refl _).alloc _)) (HP.out.fr (HF.out.trans (HW2.out _)) HOKS.out)).mono ?_
      intro e w3 hst
      cases hsx : scStmt P F x ⟨ak.kn, ak.gi, ak.n + 1⟩ with
      | error y =>
        rw [hsx] at hst
        obtain ⟨rfl, hf3⟩ := hst
        have herr : scStmts P F l a [] = .error y := by
          have h1 : scStmts P F (l.take (k + 1)) a [] = .error y := by
            rw [take_snoc l k hlt, HX.out, scStmts_snoc, HSC.out]; simp only; rw [hsx]
          have h2 := scStmts_err P F (l.drop (k + 1)) _ _ _ _ h1
          rwa [List.take_append_drop] at h2
        have HE := Lib.hid herr; clear herr hsx
        have HF3 := Lib.hid ((HF.out.trans (HW2.out _)).trans hf3); clear hf3
        go_wp2_with fail
        refine ⟨rfl, ?_⟩
        rw [HE.out]
        exact ⟨rfl, HF3.out⟩
      | ok p =>
        obtain ⟨a2, aw2⟩ := p
        rw [hsx] at hst
        obtain ⟨v2, rfl, haw2, hf3, h3⟩ := hst
        have haw2 := haw2.mono (B' := w.heap.size) (by simp; omega)
        have hok1 : scStmts P F (l.take (k + 1)) a [] = .ok (a2, awk ++ aw2) := by
          rw [take_snoc l k hlt, HX.out, scStmts_snoc, HSC.out]; simp only; rw [hsx]
        have hlen2 := scStmt_n P F x _ a2 aw2 hsx
        have HO := Lib.hid hok1; clear hok1 hsx
        have hf13 : Fr (SS b bk bg) wr w3 := (HW2.out _).trans hf3
        obtain ⟨vs, p1, p2, p3⟩ := HAW.out.fr hf13 HFAR.out
        obtain ⟨ys, q1, q2, q3⟩ := haw2
        obtain ⟨Av, cv, rfl, _⟩ := row_slice p1
        obtain ⟨Ay, cy, rfl, _⟩ := row_slice q1
        have Q1 := Lib.hid (row_src q1)
        have Q4 := Lib.hid (aw_one q2 q3)
        have hq1 := fun i hi => (p3 i hi)
        have HQ := Lib.hid (fun (w4 : World) (S : Nat → Prop) (hf : Fr S w3 w4) (hS1 : ∀ k, S k → (Value.slice Av vs.length cv).ownBlock = some k) => aw_append (B := w.heap.size) (B' := w.heap.size) (w := w4) (b := b) (Nat.le_refl _) p2 (fun i hi => by
          obtain ⟨x, pw, ps, g1, g2, g3, g4⟩ := p3 i hi
          have hne := away_ne g2 p1
          exact ⟨x, pw, ps, g1, g2.fr hf (fun h => hne.1 (hS1 _ h)) (fun h => hne.2 (hS1 _ h)), g3, g4⟩) q2 (fun i hi => by
          obtain ⟨x, pw, ps, g1, g2, g3, g4⟩ := q3 i hi
          have hne := away_ne g2 p1
          exact ⟨x, pw, ps, g1, g2.fr hf (fun h => hne.1 (hS1 _ h)) (fun h => hne.2 (hS1 _ h)), g3, g4⟩))
        have hnk3 : awk.length ≤ St.sizes (l.take k) := by simpa using hnk.2.2
        have hvl : vs.length ≤ 1099511627776 := by rw [p2]; omega
        have hyl : ys.length ≤ 1099511627776 := by rw [q2]; omega
        have hal : (vs ++ ys).length = (awk ++ aw2).length := by rw [List.length_append, List.length_append, p2, q2]
        have hw3 : w.heap.size ≤ w3.heap.size := by have := hf13.size; omega
        have P1 := Lib.hid p1
        have HF3 := Lib.hid (HF.out.trans hf13)
        have H3 := Lib.hid h3
        have HAL := Lib.hid hal
        clear p1 p2 p3 q1 q2 q3 hf3 hf13 h3 hal hq1
        go_wp2_with (at_builtin; refine app_fn rfl _ _ rfl w.heap.size (.slice Av vs.length cv) vs rfl P1.out Ay cy ys rfl Q1.out Q4.out hvl hyl hw3 ?qk)
        case qk =>
          intro v6 w4 hown hf4
          have HW4 := Lib.hid (⟨vs ++ ys, (by first | exact hown | (rw [List.length_append]; exact hown)), HAL.out, HQ.out w4 _ hf4 fun k h => h.2⟩ : AwL b w.heap.size w4 v6 (awk ++ aw2))
          have hss : ∀ q, SS b bk bg q → ¬ (w.heap.size ≤ q ∧ (Value.slice Av vs.length cv).ownBlock = some q) := fun q hq h => HFAR.out q h.1 hq
          have H4 := Lib.hid (H3.out.fr hf4 hss)
          have HF4 := Lib.hid (HF3.out.then hf4 fun q hq h => by have h1 : w.heap.size ≤ q := h.1; omega)
          clear hown hf4 hss
          go_wp2_with fail
          go_roundw
          case rel => exact ⟨k + 1, a2, awk ++ aw2, by go_num, by omega, HO.out, HW4.out, HF4.out, H4.out⟩
          case measure => simp [intOf]; omega
    · obtain rfl : k = l.length := by omega
      rw [List.take_length] at hnk hsz1
      have hsc2 : scStmts P F l a [] = .ok (ak, awk) := by have := HSC.out; rwa [List.take_length] at this
      have HSC2 := Lib.hid hsc2; clear hsc2
      have hnk3 : awk.length ≤ St.sizes l := by simpa using hnk.2.2
      obtain ⟨Av, cv, rfl, hcv⟩ := HAW.out.slice
      go_wp2_with fail
      go_loopw [33] (fun i wz => ∃ j : Nat, i = .int .i64 j ∧ j ≤ awk.length ∧ AwL b w.heap.size wz (.slice Av awk.length cv) awk ∧ Fr (SS b bk bg) w wz ∧ ScAt base b (.slice PA P.length pc) wz (ak.dels (awk.take j)) bk bg) (fun i _ => awk.length - (intOf i).toNat)
      case atStart => exact ⟨0, rfl, by omega, HAW.out, HF.out, HS.out⟩
      case round =>
        obtain ⟨j, rfl, hj, haw, hfr, hs⟩ := hrel
        have HAW2 := Lib.hid haw; clear haw
        have HF2 := Lib.hid hfr; clear hfr
        have HS2 := Lib.hid hs; clear hs
        by_cases hlt2 : j < awk.length
        · obtain ⟨g, pw, ps, hav, y0, y1, y2⟩ := HAW2.out.at j hlt2
          have Y1 := Lib.hid y1; clear y1
          have Y2 := Lib.hid y2; clear y2
          subst hav
          go_wp2_with fail
          refine (scaway_any base b pw ps _ _ _ bk bg awk[j] HS2.out Y1.out Y2.out).mono ?_
          rintro e w6 ⟨rfl, hf6, h6⟩
          have hf6' : Fr (SS b bk bg) _ w6 := hf6.mono fun _ _ h => .inr (.inl h)
          have HAW6 := Lib.hid (HAW2.out.fr hf6' HFAR.out)
          have HF6 := Lib.hid (HF2.out.trans hf6'); clear hf6 hf6'
          have H6 := Lib.hid h6; clear h6
          go_wp2_with fail
          go_roundw
          case rel => exact ⟨j + 1, by go_num, by omega, HAW6.out, HF6.out, by rw [take_snoc _ _ hlt2, dels_snoc]; exact H6.out⟩
          case measure => simp [intOf]; omega
        · obtain rfl : j = awk.length := by omega
          go_wp2_with fail
          go_end0
          rw [HSC2.out]
          have h := HS2.out
          rw [List.take_length] at h
          exact ⟨rfl, HF2.out, h⟩
end Go.Proofs.YtnlnejpioijkiaaGreatDoor
/- Contracts of the reference's walker: a block, given its statements. -/
namespace Go.Proofs.YtnlnejpioijkiaaGreatDoor
open Go.RowKit
set_option linter.unusedVariables false
set_option linter.unusedSimpArgs false
theorem vas_take : ∀ (l : List Va) (m : Nat), (vasC l).take (m * 9) = vasC (l.take m)
  | [], m => by simp [vasC]
  | v :: l, 0 => by simp [vasC]
  | v :: l, m + 1 => by
    have ih := vas_take l m
    simp only [vasC, List.flatMap_cons, List.take_succ_cons] at ih ⊢
    have hl : v.cells.length = 9 := rfl
    rw [List.take_append, List.take_of_length_le (by omega), hl, show (m + 1) * 9 - 9 = m * 9 by omega, ih]
theorem row_cut {base : Nat} {w : World} {A : Option Addr} {n m c : Nat} {l : List Va} (h : w.ownsRow base 148 9 (.slice A n c) n (vasC l)) (hm : m ≤ n) : w.ownsRow base 148 9 (.slice A m c) m (vasC (l.take m)) := by
  obtain ⟨h1, h2⟩ := h
  rw [vas_len] at h1
  refine ⟨by rw [vas_len, List.length_take]; congr 1; omega, ?_⟩
  rcases h2 with ⟨h2, h3⟩ | ⟨g, cap, cur, hv, hb, hh, h3, h4, h5, h6⟩
  · cases h2
    left
    have : m = 0 := by omega
    subst this
    exact ⟨rfl, rfl⟩
  · cases hv
    refine .inr ⟨g, c, cur, rfl, hb, hh, by omega, h4, h5, ?_⟩
    rw [← vas_take, ← h6, List.take_take]
    congr 1; omega
theorem own_slice (A : Option Addr) (n m c : Nat) : (Value.slice A n c).ownBlock = (Value.slice A m c).ownBlock := by cases A <;> rfl
theorem WkAt.cut {base b : Nat} {PV : Value} {ru : Int} {w : World} {s : Wk} {A : Option Addr} {c m : Nat} {vg : Value} (h : WkAt base b PV ru w s (.slice A s.env.length c) vg) (hm : m ≤ s.env.length) :
    WkAt base b PV ru (w.setCell ⟨b, 2, none⟩ (.slice A m c)) (s.cut m) (.slice A m c) vg := by
  have hf : Fr (fun k => k = b) w (w.setCell ⟨b, 2, none⟩ (.slice A m c)) := (Fr.refl _ _).setCell _ _ (.inl rfl)
  have ho := own_slice A s.env.length m c
  have h1 := row_cut h.env hm
  have hlen : (s.cut m).env.length = m := by show (List.take _ _).length = _; rw [List.length_take]; omega
  refine ⟨blk_set h.blk 2 _, ?_, row_fr h.giv hf (fun k hk e => h.bg (by rw [hk, e])), by rw [← ho]; exact h.be, h.bg, fun k hk => h.eg k (by rw [ho]; exact hk), h.hb⟩
  rw [hlen]
  exact row_fr h1 hf (fun k hk e => h.be (by rw [ho, hk, e]))
theorem ws_slice {b : Nat} {A : Option Addr} {n m c : Nat} {vg : Value} {k : Nat} (h : WS b (.slice A m c) vg k) : WS b (.slice A n c) vg k := by
  rcases h with h | h | h
  · exact .inl h
  · exact .inr (.inl (by rw [own_slice A n m c]; exact h))
  · exact .inr (.inr h)
theorem Mid.cut {base b : Nat} {PV : Value} {ru : Int} {w0 w : World} {ve0 vg0 : Value} {s : Wk} {A : Option Addr} {c m : Nat} {vg : Value} (h : Mid base b PV ru w0 ve0 vg0 w s (.slice A s.env.length c) vg) (hm : m ≤ s.env.length) :
    Mid base b PV ru w0 ve0 vg0 (w.setCell ⟨b, 2, none⟩ (.slice A m c)) (s.cut m) (.slice A m c) vg :=
  ⟨h.at'.cut hm, h.fr.trans ((Fr.refl _ _).setCell _ _ (.inl (.inl rfl))), fun k hk => h.new k (ws_slice hk)⟩
theorem Mid.next {base b : Nat} {PV : Value} {ru : Int} {w0 w : World} {ve0 vg0 : Value} {s : Wk} {ve vg : Value} (h : Mid base b PV ru w0 ve0 vg0 w s ve vg) {v : Int} (hv : v = s.n + 1) : Mid base b PV ru w0 ve0 vg0 (w.setCell ⟨b, 4, none⟩ (.int .i64 v)) s.next ve vg := by
  subst hv
  have hf : Fr (fun k => k = b) w (w.setCell ⟨b, 4, none⟩ (.int .i64 (s.n + 1))) := (Fr.refl _ _).setCell _ _ (.inl rfl)
  exact h.one hf (h.at'.with hf (blk_set h.at'.blk 4 _) rfl rfl)
theorem stmts_snoc (ru : Int) (P : List Fu) (x : St) : ∀ (l : List St) (s : Wk), Wk.stmts ru P (l ++ [x]) s = Wk.stmt ru P x (Wk.stmts ru P l s).next
  | [], s => by simp [Wk.stmts]
  | y :: l, s => by rw [List.cons_append, Wk.stmts, stmts_snoc ru P x l]; conv => rhs; rw [Wk.stmts]
/-- A walker's step from w: s to t. -/
def WkR (base b : Nat) (PV : Value) (ru : Int) (w : World) (ve vg : Value) (t : Wk) (e : Ending) (w' : World) : Prop := e = .returned (.tuple #[]) ∧ Stp base b PV ru w ve vg w' t
def BkC (base b : Nat) (ok : Nat → Prop) (PA : Option Addr) (pc : Nat) (P : List Fu) (F : Nat) (ru : Int) (N : Nat) : Prop :=
  ∀ (l : List St) (d : Nat) (A : Option Addr) (c : Nat) (w : World) (s : Wk) (ve vg : Value), St.sizes l ≤ N → St.oks l d = true → RdRows ok w 9 A 0 (St.ds l) → l.length * 144 ≤ reach → Lim (St.sizes l) (St.sizes l) s → s.f = (F : Int) →
    WkAt base b (.slice PA P.length pc) ru w s ve vg → ScP base ok PA pc P F w →
    Calls Tryz.prog 109 #[.pointer (some ⟨b, 0, none⟩), .slice A l.length c] w (WkR base b (.slice PA P.length pc) ru w ve vg (Wk.block ru P l s))
def SmC (base b : Nat) (ok : Nat → Prop) (PA : Option Addr) (pc : Nat) (P : List Fu) (F : Nat) (ru : Int) (N : Nat) : Prop :=
  ∀ (x : St) (d : Nat) (A1 A2 A3 A4 : Option Addr) (c1 c2 c3 c4 : Nat) (w : World) (s : Wk) (ve vg : Value), x.size ≤ N → St.ok x d = true → StRd ok w x A1 A2 A3 A4 c1 c2 c3 c4 → Lim x.size (x.size - 1) s → s.f = (F : Int) →
    WkAt base b (.slice PA P.length pc) ru w s ve vg → ScP base ok PA pc P F w →
    Calls Tryz.prog 49 #[.pointer (some ⟨b, 0, none⟩), stV x A1 A2 A3 A4 c1 c2 c3 c4] w (WkR base b (.slice PA P.length pc) ru w ve vg (Wk.stmt ru P x s))
theorem Mid.f {base b : Nat} {PV : Value} {ru : Int} {w0 w : World} {ve0 vg0 : Value} {s : Wk} {ve vg : Value} (h : Mid base b PV ru w0 ve0 vg0 w s ve vg) {S : Nat → Prop} (hs : ∀ k, WS b ve0 vg0 k → S k) : Fr S w0 w := h.fr.mono fun k _ hk => hs k hk

set_option maxRecDepth 100000 in
set_option maxHeartbeats 4000000 in
theorem wkblock_of (base b : Nat) (ok : Nat → Prop) (PA : Option Addr) (pc : Nat) (P : List Fu) (F : Nat) (ru : Int) (N : Nat) (ST : SmC base b ok PA pc P F ru N) : BkC base b ok PA pc P F ru N := by
  intro l d A c w s ve vg hN hok hr hc hl hF h hP
  have hlen : l.length ≤ 140737488355328 := by unfold reach at hc; omega
  have HOKS := Lib.hid (show ∀ q, ok q → ¬ WS b ve vg q from fun q hq hs => by have h1 := hP.hok q hq; have h2 := (h.lt q hs).1; omega)
  obtain ⟨Ae, ce, rfl, hlce⟩ := row_slice h.env
  have b2 := (cells_of h.blk).1 2 _ rfl
  have M := Lib.hid (Mid.start h); clear h
  have HR := Lib.hid hr; clear hr
  have HP := Lib.hid hP; clear hP
  have HOK := Lib.hid hok; clear hok
  have HL := Lib.hid hl; clear hl
  have HF := Lib.hid hF; clear hF
  go_enter Tryz.func109, Tryz.ntmps109
  go_wp2_with fail
  clear b2
  go_loopw [5] (fun i wr => ∃ j : Nat, ∃ vej vgj, i = .int .i64 j ∧ j ≤ l.length ∧ Mid base b (.slice PA P.length pc) ru w (.slice Ae s.env.length ce) vg wr (Wk.stmts ru P (l.take j) s) vej vgj) (fun i _ => l.length - (intOf i).toNat)
  case atStart => exact ⟨0, _, _, rfl, by omega, by rw [List.take_zero, Wk.stmts]; exact M.out⟩
  case round =>
    obtain ⟨j, vej, vgj, rfl, hj, hm⟩ := hrel
    have hgr := Gr.stmts ru P (l.take j) s
    have hsz1 := sizes_take_le l j
    have hlj : Lim (St.sizes l - St.sizes (l.take j)) (St.sizes l - St.sizes (l.take j)) (Wk.stmts ru P (l.take j) s) := (HL.out.le (by omega) (by omega)).gr hgr
    have HGR := Lib.hid hgr
    have HMJ := Lib.hid hm
    by_cases hlt : j < l.length
    · obtain ⟨g, o, A1, c1, A2, c2, A3, c3, A4, c4, rfl, hd, e0, e1, e2, e3, e4, e5, e6, e7, e8, r1, r2, r3, r4⟩ := at_st (HR.out.fr hm.fr HOKS.out (fun _ h => h)) j hlt
      have HSR := Lib.hid (⟨r1, r2, r3, r4⟩ : StRd ok wr l[j] A1 A2 A3 A4 c1 c2 c3 c4)
      clear r1 r2 r3 r4
      have hsz2 := sizes_take l j hlt
      have hsz3 := sizes_take_le l (j + 1)
      have HST := Lib.hid (show Wk.stmts ru P (l.take (j + 1)) s = Wk.stmt ru P l[j] (Wk.stmts ru P (l.take j) s).next by rw [take_snoc l j hlt, stmts_snoc])
      have hxok : St.ok l[j] d = true := oks_at HOK.out j hlt
      have b4 := (cells_of hm.at'.blk).1 4 _ rfl
      have bf := (cells_of hm.at'.blk).2
      have hblt := blk_lt hm.at'.blk
      generalize l[j] = x at *
      have HXOK := Lib.hid hxok; clear hxok
      have hxs : 1 ≤ x.size := by rw [St.size_eq]; omega
      have hln : Lim x.size (x.size - 1) (Wk.stmts ru P (l.take j) s).next := (hlj.le (by omega) (by omega)).next
      have hfx : (Wk.stmts ru P (l.take j) s).next.f = (F : Int) := hgr.f.trans HF.out
      have hn0 := hlj.n0
      have hn1 := hlj.n1
      generalize Wk.stmts ru P (l.take j) s = t at *
      have HLN := Lib.hid hln; clear hln hlj hgr
      have HFX := Lib.hid hfx; clear hfx hm
      obtain ⟨W1, HW1⟩ : ∃ W1, W1 = wr.setCell ⟨b, 4, none⟩ (.int .i64 (t.n + 1)) := ⟨_, rfl⟩
      have M1 := Lib.hid (show Mid base b (.slice PA P.length pc) ru w (.slice Ae s.env.length ce) vg W1 t.next vej vgj by rw [HW1]; exact HMJ.out.next rfl)
      have hf1 : Fr (fun k => k = b) wr W1 := by rw [HW1]; exact (Fr.refl _ _).setCell _ _ (.inl rfl)
      have hgb : g ≠ b := fun e => HOKS.out g hd (.inl e)
      have HF1 := Lib.hid hf1; clear hf1
      go_upto_region 5 with fail
      rw [← HW1]; clear HW1
      have e0 := HF1.out.cell' e0 hgb
      have e1 := HF1.out.cell' e1 hgb
      have e2 := HF1.out.cell' e2 hgb
      have e3 := HF1.out.cell' e3 hgb
      have e4 := HF1.out.cell' e4 hgb
      have e5 := HF1.out.cell' e5 hgb
      have e6 := HF1.out.cell' e6 hgb
      have e7 := HF1.out.cell' e7 hgb
      have e8 := HF1.out.cell' e8 hgb
      clear b4 bf
      go_wp2_with fail
      refine (ST x d A1 A2 A3 A4 c1 c2 c3 c4 W1 t.next vej vgj (by omega) HXOK.out (HSR.out.fr HF1.out fun q hq e => HOKS.out q hq (.inl e)) HLN.out HFX.out M1.out.at' (HP.out.fr M1.out.fr HOKS.out)).mono ?_
      rintro e w2 ⟨rfl, h2⟩
      obtain ⟨ve2, vg2, m2, _, _⟩ := M1.out.step h2
      have M2 := Lib.hid m2; clear h2 m2
      go_wp2_with fail
      go_roundw
      case rel => exact ⟨j + 1, ve2, vg2, by go_num, by omega, by rw [HST.out]; exact M2.out⟩
      case measure => simp [intOf]; omega
    · obtain rfl : j = l.length := by omega
      rw [List.take_length] at HMJ HGR
      clear hlj hgr hm hsz1
      have hmk : s.env.length ≤ (Wk.stmts ru P l s).env.length := HGR.out.e1
      have hmj := HMJ.out
      obtain ⟨A3, c3, rfl, hlc3⟩ := row_slice hmj.at'.env
      have b2 := (cells_of hmj.at'.blk).1 2 _ rfl
      have bf := (cells_of hmj.at'.blk).2
      have HMC := Lib.hid (hmj.cut hmk)
      clear hmj
      go_wp2_with fail
      go_end0
      exact ⟨rfl, HMC.out.stp⟩
end Go.Proofs.YtnlnejpioijkiaaGreatDoor
