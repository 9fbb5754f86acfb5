/- Contracts and laws, file 12: LwT, LwB, JnA, CdN -/
import Derived.Test.YtfncbemligfloaaGreatDoorMg11
/- Plain law of the renaming: scope.Check says the same of a program with other names. -/
namespace Go.Proofs.YtfncbemligfloaaGreatDoor
open Go.RowKit
set_option linter.unusedVariables false
set_option linter.unusedSimpArgs false
/-! ### What is known, with other names -/
structure Rel (L : List ByteArray) (a b : Sc) : Prop where
  n : b.n = a.n
  kn : b.kn = a.kn.map (rho L)
  gi : b.gi = a.gi.map (rho L)
  k : ∀ x ∈ a.kn, x ∈ L
  g : ∀ x ∈ a.gi, x ∈ L
theorem map_pre {L M : List ByteArray} (h : Pre L M) {l : List ByteArray} (hl : ∀ x ∈ l, x ∈ L) : l.map (rho M) = l.map (rho L) := List.map_congr_left fun x hx => h.rho (hl x hx)
theorem Rel.pre {L M : List ByteArray} {a b : Sc} (h : Rel L a b) (hp : Pre L M) : Rel M a b :=
  ⟨h.n, by rw [map_pre hp h.k]; exact h.kn, by rw [map_pre hp h.g]; exact h.gi, fun x hx => hp.mem (h.k x hx), fun x hx => hp.mem (h.g x hx)⟩
theorem Rel.next {L : List ByteArray} {a b : Sc} (h : Rel L a b) : Rel L ⟨a.kn, a.gi, a.n + 1⟩ ⟨b.kn, b.gi, b.n + 1⟩ := ⟨by simp [h.n], h.kn, h.gi, h.k, h.g⟩
theorem inM_rho {L : List ByteArray} (hl : L.length ≤ 17576) {l : List ByteArray} (hs : ∀ x ∈ l, x ∈ L) {s : ByteArray} (h : s ∈ L) : inM (l.map (rho L)) (rho L s) = inM l s := by
  rw [Bool.eq_iff_iff, inM_iff, inM_iff, List.mem_map]
  constructor
  · rintro ⟨x, hx, e⟩; rw [← rho_inj hl (hs x hx) h e]; exact hx
  · exact fun h => ⟨s, h, rfl⟩
/-- A name is known just if what stands in its place is. -/
theorem ask_rn {L : List ByteArray} (hL : Wf L) (hl : L.length < 17576) {l : List ByteArray} (hs : ∀ x ∈ l, x ∈ L) (s : ByteArray) : inM (l.map (rho L)) (rnOf L s).1 = inM l s := by
  rcases rnOf_cases hL s with ⟨h1, h⟩ | ⟨h1, h⟩ | ⟨h1, h2, h⟩ <;> rw [h]
  · exact inM_rho (by omega) hs h1
  · rw [Bool.eq_iff_iff, inM_iff, inM_iff, List.mem_map]
    constructor
    · rintro ⟨x, hx, e⟩
      have : emp (rho L x) = true := by rw [e]; exact h1
      cases this
    · intro hx; have := hL.ne s (hs s hx); rw [h1] at this; cases this
  · rw [Bool.eq_iff_iff, inM_iff, inM_iff, List.mem_map]
    constructor
    · rintro ⟨x, hx, e⟩
      have := nm_inj (by have := ix_lt (hs x hx); omega) hl (show nmB (ixN L x) = nmB L.length from e)
      have := ix_lt (hs x hx)
      omega
    · intro hx; exact absurd (hs s hx) h1
theorem known_in {L : List ByteArray} (hL : Wf L) {l : List ByteArray} (hs : ∀ x ∈ l, x ∈ L) {s : ByteArray} (h : (emp s || inM l s) = true) : (rnOf L s).2 = L := by
  rcases Bool.or_eq_true _ _ ▸ h with h | h
  · rw [rnOf_emp hL h]
  · rw [rnOf_in (hs s (inM_iff.1 h))]
mutual
theorem asks_rn {L : List ByteArray} (hL : Wf L) (hl : L.length < 17576) {l : List ByteArray} (hs : ∀ x ∈ l, x ∈ L) : ∀ (e : Ex), Ex.asks (inM (l.map (rho L))) (e.rnS L).1 = Ex.asks (inM l) e ∧ (Ex.asks (inM l) e = true → (e.rnS L).2 = L)
  | .mk k n s o q => by
    rw [Ex.rnS, Ex.asks, Ex.asks, rnOf_e hL, ask_rn hL hl hs]
    cases h : emp s || inM l s
    · simp
    · rw [known_in hL hs h]
      have h2 := askss_rn hL hl hs q
      simpa using h2
theorem askss_rn {L : List ByteArray} (hL : Wf L) (hl : L.length < 17576) {l : List ByteArray} (hs : ∀ x ∈ l, x ∈ L) : ∀ (q : List Ex), Ex.askss (inM (l.map (rho L))) (Ex.rnSs q L).1 = Ex.askss (inM l) q ∧ (Ex.askss (inM l) q = true → (Ex.rnSs q L).2 = L)
  | [] => by rw [Ex.rnSs]; exact ⟨rfl, fun _ => rfl⟩
  | e :: q => by
    rw [Ex.rnSs, Ex.askss, Ex.askss]
    have h1 := asks_rn hL hl hs e
    rw [h1.1]
    cases h : Ex.asks (inM l) e
    · simp
    · rw [h1.2 h]
      have h2 := askss_rn hL hl hs q
      simpa using h2
end
theorem all_rn {L : List ByteArray} (hL : Wf L) (hl : L.length < 17576) {l : List ByteArray} (hs : ∀ x ∈ l, x ∈ L) : ∀ (q : List ByteArray), (rnL q L).1.all (inM (l.map (rho L))) = q.all (inM l) ∧ (q.all (inM l) = true → (rnL q L).2 = L)
  | [] => by rw [rnL]; exact ⟨rfl, fun _ => rfl⟩
  | e :: q => by
    rw [rnL, List.all_cons, List.all_cons, ask_rn hL hl hs]
    cases h : inM l e
    · simp
    · rw [known_in hL hs (by rw [h]; simp)]
      have h2 := all_rn hL hl hs q
      simpa using h2
/-- The functions ahead, with other names. -/
structure FunR (L : List ByteArray) (P P' : List Fu) (F : Nat) : Prop where
  map : (P'.take F).map Fu.name = ((P.take F).map Fu.name).map (rho L)
  mem : ∀ x ∈ (P.take F).map Fu.name, x ∈ L
theorem FunR.pre {L M : List ByteArray} {P P' : List Fu} {F : Nat} (h : FunR L P P' F) (hp : Pre L M) : FunR M P P' F := ⟨by rw [map_pre hp h.mem]; exact h.map, fun x hx => hp.mem (h.mem x hx)⟩
theorem any_names (P : List Fu) (F : Nat) (s : ByteArray) : (P.take F).any (fun f => sq f.name s) = inM ((P.take F).map Fu.name) s := by rw [inM, List.any_map]; rfl
theorem FunR.any {L : List ByteArray} {P P' : List Fu} {F : Nat} (h : FunR L P P' F) (hL : Wf L) (hl : L.length < 17576) (s : ByteArray) : (P'.take F).any (fun f => sq f.name (rnOf L s).1) = (P.take F).any fun f => sq f.name s := by
  rw [any_names, any_names, h.map]; exact ask_rn hL hl h.mem s
theorem addN_rho {L : List ByteArray} (hl : L.length ≤ 17576) {l : List ByteArray} (hs : ∀ x ∈ l, x ∈ L) {s : ByteArray} (h : s ∈ L) : addN (l.map (rho L)) (rho L s) = (addN l s).map (rho L) := by
  unfold addN; rw [inM_rho hl hs h]
  split
  · rfl
  · simp
theorem addN_sub {L l : List ByteArray} (hs : ∀ x ∈ l, x ∈ L) {s : ByteArray} (h : s ∈ L) : ∀ x ∈ addN l s, x ∈ L := by
  intro x hx; unfold addN at hx
  split at hx
  · exact hs x hx
  · rcases List.mem_append.1 hx with hx | hx
    · exact hs x hx
    · rw [List.mem_singleton.1 hx]; exact h
theorem delN_rho {L : List ByteArray} (hl : L.length ≤ 17576) : ∀ {l : List ByteArray}, (∀ x ∈ l, x ∈ L) → ∀ {s : ByteArray}, s ∈ L → delN (l.map (rho L)) (rho L s) = (delN l s).map (rho L)
  | [], _, _, _ => rfl
  | x :: l, hs, s, h => by
    have ih := delN_rho hl (l := l) (fun y hy => hs y (by simp [hy])) h
    have e : sq (rho L x) (rho L s) = sq x s := by
      rw [Bool.eq_iff_iff, sq_iff, sq_iff]
      exact ⟨fun e => rho_inj hl (hs x (by simp)) h e, fun e => by rw [e]⟩
    unfold delN at *
    rw [List.map_cons, List.filter_cons, List.filter_cons, e]
    split
    · rw [ih]; rfl
    · exact ih
theorem delN_sub {L l : List ByteArray} (hs : ∀ x ∈ l, x ∈ L) (s : ByteArray) : ∀ x ∈ delN l s, x ∈ L := fun x hx => hs x (List.mem_filter.1 hx).1
theorem Rel.del {L : List ByteArray} {a b : Sc} (h : Rel L a b) (hl : L.length ≤ 17576) {s : ByteArray} (hs : s ∈ L) : Rel L (a.del s) (b.del (rho L s)) :=
  ⟨h.n, by simp only [Sc.del, h.kn]; exact delN_rho hl h.k hs, h.gi, delN_sub h.k s, h.g⟩
theorem Rel.dels {L : List ByteArray} (hl : L.length ≤ 17576) : ∀ {aw : List ByteArray} {a b : Sc}, Rel L a b → (∀ x ∈ aw, x ∈ L) → Rel L (a.dels aw) (b.dels (aw.map (rho L)))
  | [], _, _, h, _ => h
  | x :: aw, a, b, h, hx => Rel.dels (aw := aw) (a := a.del x) (b := b.del (rho L x)) hl (h.del hl (hx x (by simp))) fun y hy => hx y (by simp [hy])
theorem Rel.give {L : List ByteArray} {a b : Sc} (h : Rel L a b) (hl : L.length ≤ 17576) {s : ByteArray} (hs : s ∈ L) :
    (∃ x, a.give s = .error x ∧ b.give (rho L s) = .error x) ∨ ∃ a1 b1, a.give s = .ok a1 ∧ b.give (rho L s) = .ok b1 ∧ Rel L a1 b1 := by
  unfold Sc.give
  rw [h.gi, inM_rho hl h.g hs, h.n]
  cases inM a.gi s
  · exact .inr ⟨_, _, rfl, rfl, h.n ▸ ⟨rfl, by simp only [h.kn]; exact addN_rho hl h.k hs, addN_rho hl h.g hs, addN_sub h.k hs, addN_sub h.g hs⟩⟩
  · exact .inl ⟨_, rfl, rfl⟩
theorem Rel.gives {L : List ByteArray} {a b : Sc} (h : Rel L a b) (hl : L.length ≤ 17576) (k : UInt8) {s s' : ByteArray} (he : emp s' = emp s) (hs : emp s = false → s ∈ L ∧ s' = rho L s) :
    (∃ x, a.gives k s = .error x ∧ b.gives k s' = .error x) ∨ ∃ a1 b1 aw, a.gives k s = .ok (a1, aw) ∧ b.gives k s' = .ok (b1, aw.map (rho L)) ∧ Rel L a1 b1 ∧ ∀ x ∈ aw, x ∈ L := by
  unfold Sc.gives
  rw [he]
  cases hc : (k.toNat == 2 || k.toNat == 4 || emp s)
  · simp only [Bool.or_eq_false_iff] at hc
    obtain ⟨hm, rfl⟩ := hs hc.2
    rcases h.give hl hm with ⟨x, e1, e2⟩ | ⟨a1, b1, e1, e2, h1⟩
    · exact .inl ⟨x, by simp [e1], by simp [e2]⟩
    · exact .inr ⟨a1, b1, [s], by simp [e1], by simp [e2], h1, fun x hx => by rw [List.mem_singleton.1 hx]; exact hm⟩
  · exact .inr ⟨a, b, [], by simp, by simp, h, fun x hx => by cases hx⟩

/-- What both walks come to. -/
def OutR (M : List ByteArray) (N : Nat) (r r' : Except (Int × Int) (Sc × List ByteArray)) : Prop := match r, r' with
  | .error x, .error y => x = y
  | .ok (a, aw), .ok (b, bw) => Rel M a b ∧ bw = aw.map (rho M) ∧ (∀ x ∈ aw, x ∈ M) ∧ M.length ≤ N
  | _, _ => False
theorem head_rn {L : List ByteArray} {P P' : List Fu} {F : Nat} (hL : Wf L) (hl : L.length + 2 < 17576) (hF : FunR L P P' F) {a b : Sc} (h : Rel L a b) (k : UInt8) (nm fr : ByteArray) (ex : List Ex) (args : List ByteArray) (hargs : k.toNat ≠ 11 → args = []) :
    scHead P' F (inM b.kn) k (rnOf L nm).1 (rnOf (rnOf L nm).2 fr).1 (Ex.rnSs ex (rnOf (rnOf L nm).2 fr).2).1 (rnL args (Ex.rnSs ex (rnOf (rnOf L nm).2 fr).2).2).1 = scHead P F (inM a.kn) k nm fr ex args ∧
    (scHead P F (inM a.kn) k nm fr ex args = true → (rnL args (Ex.rnSs ex (rnOf (rnOf L nm).2 fr).2).2).2 = (rnOf (rnOf L nm).2 fr).2) := by
  have w1 := rnOf_wf hL nm
  have p1 := rnOf_pre (L := L) nm
  have l1 := (rnOf_len L nm).2
  have l2 := (rnOf_len (rnOf L nm).2 fr).2
  have n1 : inM b.kn (rnOf L nm).1 = inM a.kn nm := by rw [h.kn]; exact ask_rn hL (by omega) h.k nm
  obtain ⟨L1, hL1⟩ : ∃ L1, L1 = (rnOf L nm).2 := ⟨_, rfl⟩
  rw [← hL1] at w1 p1 l1 l2 ⊢
  have h1 := h.pre p1
  have n2 : inM b.kn (rnOf L1 fr).1 = inM a.kn fr := by rw [h1.kn]; exact ask_rn w1 (by omega) h1.k fr
  have n3 := (hF.pre p1).any w1 (by omega) fr
  have w2 := rnOf_wf w1 fr
  have p2 := rnOf_pre (L := L1) fr
  obtain ⟨L2, hL2⟩ : ∃ L2, L2 = (rnOf L1 fr).2 := ⟨_, rfl⟩
  rw [← hL2] at w2 p2 l2 ⊢
  have h2 := h1.pre p2
  have n4 := askss_rn w2 (by omega) h2.k ex
  rw [← h2.kn] at n4
  unfold scHead
  rw [n1, n2, n3, n4.1]
  cases he : Ex.askss (inM a.kn) ex
  · simp
  · rw [n4.2 he]
    have n5 := all_rn w2 (by omega) h2.k args
    rw [← h2.kn] at n5
    rw [n5.1]
    refine ⟨rfl, fun hh => ?_⟩
    by_cases h11 : k.toNat = 11
    · simp only [Bool.and_eq_true, Bool.or_eq_true] at hh
      refine n5.2 ?_
      rcases hh.2 with hx | hx
      · simp [h11] at hx
      · exact hx.1
    · rw [hargs h11, rnL]
mutual
theorem scStmt_rn {P P' : List Fu} {F : Nat} : ∀ (s : St) (d : Nat) (L : List ByteArray) (a b : Sc), St.ok s d = true → Wf L → FunR L P P' F → Rel L a b → L.length + 2 * s.size < 17570 →
    OutR (s.rnS L).2 (L.length + 2 * s.size) (scStmt P F s a) (scStmt P' F (s.rnS L).1 b)
  | .mk k nm fr se mt ex args body els, d, L, a, b, hok, hL, hF, h, hN => by
    simp only [St.ok, Bool.and_eq_true] at hok
    have ff := form_facts hok.1.1.2
    simp only [St.size] at hN ⊢
    have hh := head_rn hL (by omega) hF h k nm fr ex args (fun h => (ff.other h).1)
    have w1 := rnOf_wf hL nm
    have p1 := rnOf_pre (L := L) nm
    have l1 := (rnOf_len L nm).2
    have w2 := rnOf_wf w1 fr
    have p2 := rnOf_pre (L := (rnOf L nm).2) fr
    have l2 := (rnOf_len (rnOf L nm).2 fr).2
    have em := rnOf_e hL nm
    have mm := rnOf_mem (L := L) nm
    rw [St.rnS]
    simp only
    obtain ⟨nm', hnm⟩ : ∃ x, x = (rnOf L nm).1 := ⟨_, rfl⟩
    obtain ⟨L1, hL1⟩ : ∃ L1, L1 = (rnOf L nm).2 := ⟨_, rfl⟩
    rw [← hnm] at hh em mm ⊢
    rw [← hL1] at hh w1 p1 l1 w2 p2 l2 mm ⊢
    obtain ⟨fr', hfr⟩ : ∃ x, x = (rnOf L1 fr).1 := ⟨_, rfl⟩
    obtain ⟨L2, hL2⟩ : ∃ L2, L2 = (rnOf L1 fr).2 := ⟨_, rfl⟩
    rw [← hfr] at hh ⊢
    rw [← hL2] at hh w2 p2 l2 ⊢
    obtain ⟨ex', hex⟩ : ∃ x, x = (Ex.rnSs ex L2).1 := ⟨_, rfl⟩
    obtain ⟨L3, hL3⟩ : ∃ L2', L2' = (Ex.rnSs ex L2).2 := ⟨_, rfl⟩
    rw [← hex, ← hL3] at hh ⊢
    obtain ⟨ar', har⟩ : ∃ x, x = (rnL args L3).1 := ⟨_, rfl⟩
    obtain ⟨L4, hL4⟩ : ∃ L2', L2' = (rnL args L3).2 := ⟨_, rfl⟩
    rw [← har, ← hL4] at hh ⊢
    rw [scStmt, scStmt, hh.1]
    by_cases hd : (!scHead P F (inM a.kn) k nm fr ex args) = true
    · rw [if_pos hd, if_pos hd]; simp [OutR, h.n]
    · rw [if_neg hd, if_neg hd]
      have e4 := hh.2 (by simpa using hd)
      rw [e4]
      clear hh hd hex har hL3 hL4 e4
      have h2 := h.pre (p1.trans p2)
      have hs2 : emp nm = false → nm ∈ L2 ∧ nm' = rho L2 nm := fun he => ⟨p2.mem (mm he).1, by rw [p2.rho (mm he).1]; exact (mm he).2⟩
      rcases h2.gives (by omega) k em hs2 with ⟨x, e1, e2⟩ | ⟨a1, b1, aw, e1, e2, hr1, hm1⟩
      · rw [e1, e2]; rfl
      · rw [e1, e2]
        simp only
        have r1 := scStmts_rn (P := P) (P' := P') (F := F) body (d + 1) L2 a1 b1 [] [] hok.1.2 w2 (hF.pre (p1.trans p2)) hr1 rfl (fun x hx => by cases hx) (by omega)
        have w5 := rnSts_wf body L2 w2
        obtain ⟨L5, hL5⟩ : ∃ L5, L5 = (St.rnSs body L2).2 := ⟨_, rfl⟩
        obtain ⟨bo', hbo⟩ : ∃ L5, L5 = (St.rnSs body L2).1 := ⟨_, rfl⟩
        rw [← hL5] at r1 w5 ⊢
        rw [← hbo] at r1 ⊢
        revert r1
        cases scStmts P F body a1 [] with
        | error x => cases scStmts P' F bo' b1 [] with
          | error y => exact fun r => r
          | ok q => exact fun r => r.elim
        | ok p => cases scStmts P' F bo' b1 [] with
          | error y => exact fun r => r.elim
          | ok q =>
            obtain ⟨a2, aw2⟩ := p; obtain ⟨b2, bw2⟩ := q
            rintro ⟨h5, rfl, hm5, hl5⟩
            have h5d := h5.dels (by omega) hm5
            have r2 := scStmts_rn (P := P) (P' := P') (F := F) els (d + 1) L5 (a2.dels aw2) (b2.dels (aw2.map (rho L5))) [] [] hok.2 w5.1 (hF.pre (p1.trans (p2.trans w5.2))) h5d rfl (fun x hx => by cases hx) (by omega)
            have w6 := rnSts_wf els L5 w5.1
            obtain ⟨L6, hL6⟩ : ∃ L5', L5' = (St.rnSs els L5).2 := ⟨_, rfl⟩
            obtain ⟨el', hel⟩ : ∃ L5', L5' = (St.rnSs els L5).1 := ⟨_, rfl⟩
            rw [← hL6] at r2 w6 ⊢
            rw [← hel] at r2 ⊢
            simp only
            revert r2
            cases scStmts P F els (a2.dels aw2) [] with
            | error x => cases scStmts P' F el' (b2.dels (aw2.map (rho L5))) [] with
              | error y => exact fun r => r
              | ok q => exact fun r => r.elim
            | ok p => cases scStmts P' F el' (b2.dels (aw2.map (rho L5))) [] with
              | error y => exact fun r => r.elim
              | ok q =>
                obtain ⟨a3, aw3⟩ := p; obtain ⟨b3, bw3⟩ := q
                rintro ⟨h6, rfl, hm6, hl6⟩
                have h6d := h6.dels (by omega) hm6
                simp only
                split
                · rename_i hk
                  have hne : emp nm = false := by
                    have h11 : k.toNat ≠ 11 := by simp at hk; omega
                    have := emp_of_namedX (ff.other h11).2.2
                    rw [this]; simp at hk; rcases hk with hk | hk <;> simp [nName, hk]
                  have hs6 := hs2 hne
                  have pp := w5.2.trans w6.2
                  refine ⟨?_, rfl, (fun x hx => by cases hx), by omega⟩
                  rw [hs6.2, ← pp.rho hs6.1]
                  exact h6d.del (by omega) (pp.mem hs6.1)
                · exact ⟨h6d, by rw [map_pre (w5.2.trans w6.2) hm1], fun x hx => (w5.2.trans w6.2).mem (hm1 x hx), by omega⟩
theorem scStmts_rn {P P' : List Fu} {F : Nat} : ∀ (l : List St) (d : Nat) (L : List ByteArray) (a b : Sc) (aw bw : List ByteArray), St.oks l d = true → Wf L → FunR L P P' F → Rel L a b → bw = aw.map (rho L) → (∀ x ∈ aw, x ∈ L) → L.length + 2 * St.sizes l < 17570 →
    OutR (St.rnSs l L).2 (L.length + 2 * St.sizes l) (scStmts P F l a aw) (scStmts P' F (St.rnSs l L).1 b bw)
  | [], d, L, a, b, aw, bw, _, hL, hF, h, hb, hm, hN => by rw [St.rnSs, scStmts, scStmts]; exact ⟨h, hb, hm, by simp [St.sizes]⟩
  | s :: l, d, L, a, b, aw, bw, hok, hL, hF, h, hb, hm, hN => by
    simp only [St.oks, Bool.and_eq_true] at hok
    simp only [St.sizes] at hN ⊢
    rw [St.rnSs, scStmts, scStmts]
    simp only
    have r1 := scStmt_rn (P := P) (P' := P') (F := F) s d L _ _ hok.1 hL hF h.next (by omega)
    have w1 := rnSt_wf s L hL
    obtain ⟨L1, hL1⟩ : ∃ L5, L5 = (s.rnS L).2 := ⟨_, rfl⟩
    obtain ⟨s', hs'⟩ : ∃ L5, L5 = (s.rnS L).1 := ⟨_, rfl⟩
    rw [← hL1] at r1 w1 ⊢
    rw [← hs'] at r1 ⊢
    revert r1
    cases scStmt P F s ⟨a.kn, a.gi, a.n + 1⟩ with
    | error x => cases scStmt P' F s' ⟨b.kn, b.gi, b.n + 1⟩ with
      | error y => exact fun r => r
      | ok q => exact fun r => r.elim
    | ok p => cases scStmt P' F s' ⟨b.kn, b.gi, b.n + 1⟩ with
      | error y => exact fun r => r.elim
      | ok q =>
        obtain ⟨a2, aw2⟩ := p; obtain ⟨b2, bw2⟩ := q
        rintro ⟨h2, rfl, hm2, hl2⟩
        have r2 := scStmts_rn (P := P) (P' := P') (F := F) l d L1 a2 b2 (aw ++ aw2) (bw ++ aw2.map (rho L1)) hok.2 w1.1 (hF.pre w1.2) h2 (by rw [List.map_append, hb, map_pre w1.2 hm]) (fun x hx => by
          rcases List.mem_append.1 hx with hx | hx
          · exact w1.2.mem (hm x hx)
          · exact hm2 x hx) (by omega)
        simp only
        revert r2
        cases scStmts P F l a2 (aw ++ aw2) with
        | error x => cases scStmts P' F (St.rnSs l L1).1 b2 (bw ++ aw2.map (rho L1)) with
          | error y => exact fun r => r
          | ok q => exact fun r => r.elim
        | ok p => cases scStmts P' F (St.rnSs l L1).1 b2 (bw ++ aw2.map (rho L1)) with
          | error y => exact fun r => r.elim
          | ok q => exact fun ⟨g1, g2, g3, g4⟩ => ⟨g1, g2, g3, by omega⟩
end
/-! ### Functions and programs -/
def OutS (M : List ByteArray) (N : Nat) (r r' : Except (Int × Int) Sc) : Prop := match r, r' with
  | .error x, .error y => x = y
  | .ok a, .ok b => Rel M a b ∧ M.length ≤ N
  | _, _ => False
theorem scParams_rn : ∀ (l : List Pa) (L : List ByteArray) (a b : Sc), l.all parM = true → Wf L → Rel L a b → L.length + l.length < 17570 → OutS (Pa.rnSs l L).2 (L.length + l.length) (scParams l a) (scParams (Pa.rnSs l L).1 b)
  | [], L, a, b, _, hL, h, hN => by rw [Pa.rnSs, scParams, scParams]; exact ⟨h, by simp⟩
  | x :: l, L, a, b, hp, hL, h, hN => by
    simp only [List.all_cons, Bool.and_eq_true, parM, List.length_cons] at hp hN ⊢
    rw [Pa.rnSs, scParams, scParams]
    simp only
    have w1 := rnOf_wf hL x.name
    have p1 := rnOf_pre (L := L) x.name
    have l1 := (rnOf_len L x.name).2
    have m1 := rnOf_mem (L := L) x.name (emp_of_named hp.1.1)
    rw [m1.2]
    rcases (h.pre p1).give (by omega) m1.1 with ⟨y, e1, e2⟩ | ⟨a1, b1, e1, e2, h1⟩
    · rw [e1, e2]; rfl
    · rw [e1, e2]
      simp only
      have r := scParams_rn l (rnOf L x.name).2 a1 b1 hp.2 w1 h1 (by omega)
      revert r
      cases scParams l a1 with
      | error y => cases scParams (Pa.rnSs l (rnOf L x.name).2).1 b1 with
        | error z => exact fun r => r
        | ok q => exact fun r => r.elim
      | ok p => cases scParams (Pa.rnSs l (rnOf L x.name).2).1 b1 with
        | error z => exact fun r => r.elim
        | ok q => exact fun ⟨g1, g2⟩ => ⟨g1, by omega⟩
theorem scFun_rn {P P' : List Fu} {F : Nat} (f : Fu) (L : List ByteArray) (n : Int) (hok : okF f = true) (hL : Wf L) (hF : FunR L P P' F) (hN : L.length + 9 + 2 * St.sizes f.body < 17570) :
    scFun P' F (f.rnS L).1 n = scFun P F f n ∧ (∀ m, scFun P F f n = .ok m → (f.rnS L).2.length ≤ L.length + 9 + 2 * St.sizes f.body) := by
  obtain ⟨fn, fp, fb, fs, fr⟩ := f
  unfold okF funM fheadM at hok
  simp only [Bool.and_eq_true, decide_eq_true_eq] at hok hN ⊢
  obtain ⟨g1, ⟨⟨⟨⟨g2, g3⟩, g4⟩, g5⟩, g6⟩, g7⟩ := hok
  unfold Fu.rnS
  simp only
  have w1 := rnOf_wf hL fn
  have p1 := rnOf_pre (L := L) fn
  have l1 := (rnOf_len L fn).2
  have a1 := hF.any hL (by omega) fn
  obtain ⟨fn', hfn⟩ : ∃ x, x = (rnOf L fn).1 := ⟨_, rfl⟩
  obtain ⟨L1, hL1⟩ : ∃ x, x = (rnOf L fn).2 := ⟨_, rfl⟩
  rw [← hfn] at a1 ⊢
  rw [← hL1] at w1 p1 l1 ⊢
  rw [scFun_eq, scFun_eq, a1]
  by_cases hd : ((P.take F).any fun g => sq g.name fn) = true
  · rw [if_pos hd, if_pos hd]; exact ⟨rfl, fun m h => by cases h⟩
  · rw [if_neg hd, if_neg hd]
    have r1 := scParams_rn fp L1 ⟨[], [], n⟩ ⟨[], [], n⟩ g7 w1 ⟨rfl, rfl, rfl, (fun x hx => by cases hx), fun x hx => by cases hx⟩ (by omega)
    have w2 := rnPa_wf fp L1 w1
    obtain ⟨fp', hfp⟩ : ∃ x, x = (Pa.rnSs fp L1).1 := ⟨_, rfl⟩
    obtain ⟨L2, hL2⟩ : ∃ x, x = (Pa.rnSs fp L1).2 := ⟨_, rfl⟩
    rw [← hfp] at r1 ⊢
    rw [← hL2] at r1 w2 ⊢
    revert r1
    cases scParams fp ⟨[], [], n⟩ with
    | error y => cases scParams fp' ⟨[], [], n⟩ with
      | error z => rintro rfl; exact ⟨rfl, fun m h => by cases h⟩
      | ok q => exact fun r => r.elim
    | ok p => cases scParams fp' ⟨[], [], n⟩ with
      | error z => exact fun r => r.elim
      | ok q =>
        rintro ⟨h2, hl2⟩
        simp only
        have r2 := scStmts_rn (P := P) (P' := P') (F := F) fb 1 L2 p q [] [] g1 w2.1 (hF.pre (p1.trans w2.2)) h2 rfl (fun x hx => by cases hx) (by omega)
        have w3 := rnSts_wf fb L2 w2.1
        obtain ⟨fb', hfb⟩ : ∃ x, x = (St.rnSs fb L2).1 := ⟨_, rfl⟩
        obtain ⟨L3, hL3⟩ : ∃ x, x = (St.rnSs fb L2).2 := ⟨_, rfl⟩
        rw [← hfb] at r2 ⊢
        rw [← hL3] at r2 w3 ⊢
        revert r2
        cases scStmts P F fb p [] with
        | error y => cases scStmts P' F fb' q [] with
          | error z => rintro rfl; exact ⟨rfl, fun m h => by cases h⟩
          | ok q' => exact fun r => r.elim
        | ok p' => cases scStmts P' F fb' q [] with
          | error z => exact fun r => r.elim
          | ok q' =>
            obtain ⟨a3, aw3⟩ := p'; obtain ⟨b3, bw3⟩ := q'
            rintro ⟨h3, rfl, hm3, hl3⟩
            simp only
            have r4 := askss_rn w3.1 (by omega) h3.k fr
            rw [← h3.kn] at r4
            rw [r4.1, h3.n]
            refine ⟨rfl, fun m h => ?_⟩
            cases he : Ex.askss (inM a3.kn) fr
            · rw [he] at h; simp at h
            · rw [r4.2 he]; omega
theorem rnFus_append : ∀ (l r : List Fu) (L : List ByteArray), Fu.rnSs (l ++ r) L = ((Fu.rnSs l L).1 ++ (Fu.rnSs r (Fu.rnSs l L).2).1, (Fu.rnSs r (Fu.rnSs l L).2).2)
  | [], r, L => by rw [List.nil_append]; rfl
  | f :: l, r, L => by rw [List.cons_append, Fu.rnSs, rnFus_append l r, Fu.rnSs]; rfl
theorem renP_take (P : List Fu) (i : Nat) (h : i ≤ P.length) : (renP P).take i = (Fu.rnSs (P.take i) []).1 := by
  unfold renP
  conv => lhs; rw [← List.take_append_drop i P, rnFus_append]
  simp only
  rw [List.take_append_of_le_length (by rw [rnFuS_length, List.length_take]; omega)]
  exact List.take_of_length_le (by rw [rnFuS_length, List.length_take]; omega)
theorem renP_getD (P : List Fu) (i : Nat) (h : i < P.length) : (renP P).getD i Fu.zero = ((P.getD i Fu.zero).rnS (Fu.rnSs (P.take i) []).2).1 := by
  have e : (renP P).take (i + 1) = (Fu.rnSs (P.take i) []).1 ++ [((P.getD i Fu.zero).rnS (Fu.rnSs (P.take i) []).2).1] := by
    rw [renP_take P (i + 1) h, take_snoc P i h, rnFuS_snoc, show P.getD i Fu.zero = P[i] by simp [List.getD_eq_getElem?_getD, h]]
  have hl : (Fu.rnSs (P.take i) []).1.length = i := by rw [rnFuS_length, List.length_take]; omega
  have g : ∀ l : List Fu, l.getD i Fu.zero = (l.take (i + 1)).getD i Fu.zero := fun l => by
    rw [List.getD_eq_getElem?_getD, List.getD_eq_getElem?_getD, List.getElem?_take, if_pos (Nat.lt_succ_self i)]
  rw [g, e, List.getD_eq_getElem?_getD, List.getElem?_append_right (by omega), hl]
  simp
theorem rn_names (l : List Fu) : ∀ (L : List ByteArray), Wf L → l.all okF = true → (Fu.rnSs l L).1.map Fu.name = (l.map Fu.name).map (rho (Fu.rnSs l L).2) ∧ ∀ x ∈ l.map Fu.name, x ∈ (Fu.rnSs l L).2 := by
  induction l with
  | nil => intro L _ _; exact ⟨rfl, fun x hx => by cases hx⟩
  | cons f l ih =>
    intro L hL hok
    simp only [List.all_cons, Bool.and_eq_true] at hok
    have w := rnFu_wf f L hL
    have h := ih (f.rnS L).2 w.1 hok.2
    have w2 := rnFus_wf l (f.rnS L).2 w.1
    have hn : emp f.name = false := by
      have := hok.1; unfold okF funM fheadM at this; simp only [Bool.and_eq_true] at this
      exact emp_of_named this.2.1.1.1.1.1
    have m := rnOf_mem (L := L) f.name hn
    have pf : Pre (rnOf L f.name).2 (f.rnS L).2 := by
      unfold Fu.rnS
      have h1 := rnOf_wf hL f.name
      have h2 := rnPa_wf f.params _ h1
      have h3 := rnSts_wf f.body _ h2.1
      have h4 := rnEs_wf f.ret _ h3.1
      exact h2.2.trans (h3.2.trans h4.2)
    have pp := pf.trans w2.2
    rw [Fu.rnSs]
    simp only [List.map_cons, List.mem_cons]
    refine ⟨?_, fun x hx => ?_⟩
    · rw [h.1]
      have : (f.rnS L).1.name = rho (Fu.rnSs l (f.rnS L).2).2 f.name := by
        rw [pp.rho m.1]; exact m.2
      rw [this]
    · rcases hx with rfl | hx
      · exact pp.mem m.1
      · exact h.2 x hx
/-- scope.Check says the same of a program with other names. -/
theorem law_names (P : List Fu) (hm : mayM P = true) : scCheck (renP P) = scCheck P := by
  have hm' := mayM_rn P hm
  have hm0 := hm
  unfold mayM at hm
  simp only [Bool.and_eq_true, decide_eq_true_eq] at hm
  obtain ⟨hok, h16, h400⟩ := hm
  have key : ∀ i, i ≤ P.length → scWalk (renP P) i = scWalk P i ∧ (∀ n, scWalk P i = .ok n → (Fu.rnSs (P.take i) []).2.length ≤ 9 * i + 2 * Fu.sizes (P.take i)) := by
    intro i
    induction i with
    | zero => intro _; refine ⟨by rw [scWalk, scWalk], fun n _ => by simp [Fu.rnSs]⟩
    | succ i ih =>
      intro hi
      obtain ⟨e1, e2⟩ := ih (by omega)
      rw [scWalk, scWalk, e1]
      cases hw : scWalk P i with
      | error x => exact ⟨rfl, fun n h => by cases h⟩
      | ok n =>
        have hlen := e2 n hw
        simp only
        have hg : P.getD i Fu.zero = P[i] := by rw [List.getD_eq_getElem?_getD, List.getElem?_eq_getElem (show i < P.length by omega)]; rfl
        have hokt : (P.take i).all okF = true := by
          rw [List.all_eq_true] at hok ⊢
          exact fun x hx => hok x (List.mem_of_mem_take hx)
        have hokf : okF P[i] = true := List.all_eq_true.1 hok _ (List.getElem_mem _)
        have hwf := (rnFus_wf (P.take i) [] Wf.nil).1
        have hF : FunR (Fu.rnSs (P.take i) []).2 P (renP P) i := by
          have := rn_names (P.take i) [] Wf.nil hokt
          exact ⟨by rw [renP_take P i (by omega)]; exact this.1, this.2⟩
        have hs1 := fsizes_take P i hi
        have hs2 := fsizes_take_le P (i + 1)
        have r := scFun_rn P[i] _ n hokf hwf hF (by omega)
        rw [renP_getD P i hi, hg]
        refine ⟨r.1, fun m h => ?_⟩
        have := r.2 m h
        rw [take_snoc P i hi, rnFuS_snoc]
        simp only
        rw [← take_snoc P i hi]
        omega
  unfold scCheck
  rw [hm0, hm', renP_length, (key P.length (Nat.le_refl _)).1]
end Go.Proofs.YtfncbemligfloaaGreatDoor
/- Bounds: of the place and the number of an error of scope.Check, of the names of a program. -/
namespace Go.Proofs.YtfncbemligfloaaGreatDoor
open Go.RowKit
set_option linter.unusedVariables false
set_option linter.unusedSimpArgs false
def bdR (a : Int) (n : Nat) (x : Int × Int) : Prop := a ≤ x.1 ∧ x.1 ≤ a + n ∧ (x.2 = 3 ∨ x.2 = 9)
theorem give_bd {a : Sc} {s : ByteArray} {x : Int × Int} (h : a.give s = .error x) : x = (a.n, 9) := by
  unfold Sc.give at h; split at h
  · cases h; rfl
  · cases h
theorem give_sn {a b : Sc} {s : ByteArray} (h : a.give s = .ok b) : b.n = a.n := by
  unfold Sc.give at h; split at h
  · cases h
  · cases h; rfl
theorem gives_bd {a : Sc} {k : UInt8} {s : ByteArray} {x : Int × Int} (h : a.gives k s = .error x) : x = (a.n, 9) := by
  unfold Sc.gives at h; split at h
  · cases h
  · split at h
    · rename_i hg; cases h; exact give_bd hg
    · cases h
theorem gives_bn {a b : Sc} {k : UInt8} {s : ByteArray} {aw : List ByteArray} (h : a.gives k s = .ok (b, aw)) : b.n = a.n := by
  unfold Sc.gives at h; split at h
  · cases h; rfl
  · split at h
    · cases h
    · rename_i hg; cases h; exact give_sn hg
def OutN (a : Int) (n : Nat) (r : Except (Int × Int) (Sc × List ByteArray)) : Prop := match r with
  | .error x => bdR a n x
  | .ok (b, _) => b.n = a + n
mutual
theorem scStmt_bd (P : List Fu) (F : Nat) : ∀ (s : St) (a : Sc), OutN a.n (s.size - 1) (scStmt P F s a)
  | .mk k nm fr se mt ex args body els, a => by
    rw [scStmt, St.size]
    split
    · exact ⟨by simp, by simp; omega, .inl rfl⟩
    · split
      · rename_i x hg; rw [gives_bd hg]; exact ⟨by simp, by simp; omega, .inr rfl⟩
      · rename_i a1 aw hg
        have h0 := gives_bn hg
        have h1 := scStmts_bd P F body a1 []
        revert h1
        cases scStmts P F body a1 [] with
        | error x => rintro ⟨g1, g2, g3⟩; exact ⟨by omega, by omega, g3⟩
        | ok p =>
          obtain ⟨a2, aw2⟩ := p
          intro g
          have g : a2.n = a1.n + St.sizes body := g
          simp only
          have h2 := scStmts_bd P F els (a2.dels aw2) []
          have e2 := (dels_gi aw2 a2).2
          revert h2
          cases scStmts P F els (a2.dels aw2) [] with
          | error x => rintro ⟨g1, g2, g3⟩; exact ⟨by omega, by omega, g3⟩
          | ok p =>
            obtain ⟨a3, aw3⟩ := p
            intro g'
            have g' : a3.n = (a2.dels aw2).n + St.sizes els := g'
            have e3 := (dels_gi aw3 a3).2
            simp only
            split
            · show (a3.dels aw3).n = _; omega
            · show (a3.dels aw3).n = _; omega
theorem scStmts_bd (P : List Fu) (F : Nat) : ∀ (l : List St) (a : Sc) (aw : List ByteArray), OutN a.n (St.sizes l) (scStmts P F l a aw)
  | [], a, aw => by rw [scStmts]; simp [OutN, St.sizes]
  | s :: l, a, aw => by
    rw [scStmts, St.sizes]
    have hs : 1 ≤ s.size := by cases s; simp [St.size]; omega
    have h1 := scStmt_bd P F s ⟨a.kn, a.gi, a.n + 1⟩
    revert h1
    cases scStmt P F s ⟨a.kn, a.gi, a.n + 1⟩ with
    | error x => rintro ⟨g1, g2, g3⟩; simp only at g1 g2; exact ⟨by omega, by omega, g3⟩
    | ok p =>
      obtain ⟨a2, aw2⟩ := p
      intro g
      have g : a2.n = a.n + 1 + ((s.size - 1 : Nat) : Int) := g
      simp only
      have h2 := scStmts_bd P F l a2 (aw ++ aw2)
      revert h2
      cases scStmts P F l a2 (aw ++ aw2) with
      | error x => rintro ⟨g1, g2, g3⟩; exact ⟨by omega, by omega, g3⟩
      | ok p => intro g'; have g' : p.1.n = a2.n + St.sizes l := g'; show p.1.n = _; omega
end
theorem scParams_bd : ∀ (l : List Pa) (a : Sc), match scParams l a with
    | .error x => x = (a.n, 9)
    | .ok b => b.n = a.n
  | [], a => by rw [scParams]
  | x :: l, a => by
    rw [scParams]
    cases hg : a.give x.name with
    | error y => exact give_bd hg
    | ok a1 => have := scParams_bd l a1; rw [give_sn hg] at this; exact this
theorem scFun_eq' (P : List Fu) (F : Nat) (f : Fu) (n : Int) : scFun P F f n =
    if ((P.take F).any fun g => sq g.name f.name) = true then .error (n, 9) else match scParams f.params ⟨[], [], n⟩ with
    | .error x => .error x
    | .ok a => match scStmts P F f.body a [] with
      | .error x => .error x
      | .ok (a1, _) => if Ex.askss (inM a1.kn) f.ret then .ok (a1.n + 1 + 1) else .error (a1.n + 1, 3) := rfl
theorem scFun_bd (P : List Fu) (F : Nat) (f : Fu) (n : Int) : match scFun P F f n with
    | .error x => bdR n (St.sizes f.body + 1) x
    | .ok m => m = n + (St.sizes f.body + 2 : Nat) := by
  rw [scFun_eq']
  by_cases hd : ((P.take F).any fun g => sq g.name f.name) = true
  · rw [if_pos hd]; show bdR n (St.sizes f.body + 1) (n, 9); exact ⟨by simp, by simp; omega, .inr rfl⟩
  · rw [if_neg hd]
    have h1 := scParams_bd f.params ⟨[], [], n⟩
    revert h1
    cases scParams f.params ⟨[], [], n⟩ with
    | error x =>
      intro hx
      have hx : x = (n, 9) := hx
      subst hx
      show bdR n (St.sizes f.body + 1) (n, 9)
      exact ⟨by simp, by simp; omega, .inr rfl⟩
    | ok a =>
      intro ha
      have ha : a.n = n := ha
      simp only
      have h2 := scStmts_bd P F f.body a []
      revert h2
      cases scStmts P F f.body a [] with
      | error x => intro g; have g : bdR a.n (St.sizes f.body) x := g; show bdR n (St.sizes f.body + 1) x; exact ⟨by have := g.1; omega, by have := g.2.1; omega, g.2.2⟩
      | ok p =>
        obtain ⟨a2, aw2⟩ := p
        intro g
        have g : a2.n = a.n + St.sizes f.body := g
        simp only
        cases Ex.askss (inM a2.kn) f.ret
        · show bdR n (St.sizes f.body + 1) (a2.n + 1, 3); exact ⟨by simp; omega, by simp; omega, .inl rfl⟩
        · show a2.n + 1 + 1 = n + (St.sizes f.body + 2 : Nat); omega
theorem scWalk_bd (P : List Fu) : ∀ i, i ≤ P.length → match scWalk P i with
    | .error x => bdR 0 (Fu.sizes (P.take i) + 2 * i) x
    | .ok n => n = (Fu.sizes (P.take i) + 2 * i : Nat) := by
  intro i
  induction i with
  | zero => intro _; rw [scWalk]; simp [Fu.sizes]
  | succ i ih =>
    intro hi
    have h := ih (by omega)
    have hs := fsizes_take P i hi
    rw [scWalk]
    revert h
    cases scWalk P i with
    | error x => rintro ⟨g1, g2, g3⟩; exact ⟨g1, by rw [hs]; omega, g3⟩
    | ok n =>
      intro hn
      have hn : n = (Fu.sizes (P.take i) + 2 * i : Nat) := hn
      simp only
      have hg : P.getD i Fu.zero = P[i] := by rw [List.getD_eq_getElem?_getD, List.getElem?_eq_getElem (show i < P.length by omega)]; rfl
      have h2 := scFun_bd P i (P.getD i Fu.zero) n
      rw [hg] at h2 ⊢
      revert h2
      cases scFun P i P[i] n with
      | error x => rintro ⟨g1, g2, g3⟩; exact ⟨by omega, by rw [hs]; omega, g3⟩
      | ok m => intro h; have h : m = n + (St.sizes P[i].body + 2 : Nat) := h; show m = _; rw [hs]; omega
theorem scCheck_bd (P : List Fu) (hm : mayM P = true) : 0 ≤ (scCheck P).1 ∧ (scCheck P).1 < 512 ∧ 0 ≤ (scCheck P).2 ∧ (scCheck P).2 < 512 := by
  have h := scWalk_bd P P.length (Nat.le_refl _)
  have hm0 := hm
  unfold mayM at hm
  simp only [Bool.and_eq_true, decide_eq_true_eq] at hm
  rw [List.take_length] at h
  unfold scCheck
  rw [if_pos hm0]
  revert h
  cases scWalk P P.length with
  | error x => rintro ⟨g1, g2, g3⟩; simp only; omega
  | ok n => intro _; simp

theorem exs_sizes_le : ∀ (l : List Ex), (∀ e ∈ l, e.size ≤ 2000) → Ex.sizes l ≤ 2000 * l.length
  | [], _ => by simp [Ex.sizes]
  | e :: l, h => by
    have h1 := h e (by simp)
    have h2 := exs_sizes_le l fun x hx => h x (by simp [hx])
    simp only [Ex.sizes, List.length_cons]; omega
theorem nEx_le (k : UInt8) : nEx k ≤ 2 := by unfold nEx; split <;> (try split) <;> (try split) <;> omega
theorem form_lens {k : UInt8} {nm fr : ByteArray} {sec mt : Bool} {ex : List Ex} {args : List ByteArray} {body els : List St} (h : formM (.mk k nm fr sec mt ex args body els) = true) : ex.length ≤ 8 ∧ args.length ≤ 8 := by
  rw [form_mk, Bool.and_eq_true] at h
  obtain ⟨_, hr⟩ := h
  split at hr
  · simp only [callM, Bool.and_eq_true, decide_eq_true_eq] at hr
    exact ⟨hr.1.1.2, hr.2⟩
  · simp only [restM, Bool.and_eq_true, beq_iff_eq] at hr
    have := nEx_le k
    omega
mutual
theorem nms_le : ∀ (s : St) (d : Nat), St.ok s d = true → s.light → s.nms ≤ 17000 * s.size
  | .mk k nm fr se mt ex args body els, d, hok, hl => by
    simp only [St.ok, Bool.and_eq_true] at hok
    simp only [St.light] at hl
    have h1 := form_lens hok.1.1.2
    have h2 := exs_sizes_le ex hl.1
    have h3 := nmss_le body _ hok.1.2 hl.2.1
    have h4 := nmss_le els _ hok.2 hl.2.2
    simp only [St.nms, St.size]; omega
theorem nmss_le : ∀ (l : List St) (d : Nat), St.oks l d = true → St.lights l → St.nmss l ≤ 17000 * St.sizes l
  | [], _, _, _ => by simp [St.nmss]
  | s :: l, d, hok, hl => by
    simp only [St.oks, Bool.and_eq_true] at hok
    simp only [St.lights] at hl
    have h1 := nms_le s d hok.1 hl.1
    have h2 := nmss_le l d hok.2 hl.2
    simp only [St.nmss, St.sizes]; omega
end
theorem fnmss_le : ∀ (P : List Fu), P.all okF = true → (∀ f ∈ P, f.light) → Fu.nmss P ≤ 17000 * Fu.sizes P + 3000 * P.length
  | [], _, _ => by simp [Fu.nmss]
  | f :: P, hok, hl => by
    simp only [List.all_cons, Bool.and_eq_true] at hok
    have h1 := fnmss_le P hok.2 fun g hg => hl g (by simp [hg])
    have hf := hl f (by simp)
    have hk := hok.1
    unfold okF funM fheadM at hk
    simp only [Bool.and_eq_true, decide_eq_true_eq] at hk
    have h2 := nmss_le f.body 1 hk.1 hf.1
    have h3 := exs_sizes_le f.ret hf.2
    have h4 := hk.2.1.1.1.1.2
    have h5 := hk.2.1.1.1.2
    simp only [Fu.nmss, Fu.nms, Fu.sizes, Fu.size, List.length_cons]; omega
theorem nmss_bd (P : List Fu) (hm : mayM P = true) (hl : ∀ f ∈ P, f.light) : Fu.nmss P ≤ 1099511627776 := by
  unfold mayM at hm
  simp only [Bool.and_eq_true, decide_eq_true_eq] at hm
  have := fnmss_le P hm.1 hl
  omega
end Go.Proofs.YtfncbemligfloaaGreatDoor
/- ScopeNames of a program that lies in memory: it answers true, and what was there stays. -/
namespace Go.Proofs.YtfncbemligfloaaGreatDoor
open Go.RowKit
set_option linter.unusedVariables false
set_option linter.unusedSimpArgs false
theorem scGive_ne {a : Sc} {s : ByteArray} {x : Int × Int} (h : a.give s = .error x) : x.2 ≠ 0 := by rw [give_bd h]; simp
theorem scCheck_errV (P : List Fu) : scCheckV P = errV (scCheck P) := by
  have hb := scWalk_bd P P.length (Nat.le_refl _)
  unfold scCheckV scCheck
  cases hm : mayM P
  · rfl
  · simp only [if_true]
    revert hb
    cases hw : scWalk P P.length with
    | ok n => intro _; rfl
    | error x => rintro ⟨_, _, g⟩; simp only [errV, if_neg (show ¬ x.2 = 0 by omega)]

set_option maxRecDepth 100000 in
set_option maxHeartbeats 8000000 in
theorem scopeNames_any (P : List Fu) (ok : Nat → Prop) (A : Option Addr) (c : Nat) (w : World) (hr : RdRows ok w 5 A 0 (P.map Fu.d)) (hc : P.length * 96 ≤ reach) (hpc : P.length ≤ c) (hok : ∀ q, ok q → q < w.heap.size)
    (hg : w.cell? ⟨0, 0, none⟩ = some (rty 30)) (tb : Int) (ht : w.cell? ⟨1, 2, none⟩ = some (.int .u64 tb)) :
   Calls Tryz.prog 3 #[.agg #[.slice A P.length c]] w fun e w' => e = .returned (.bool true) ∧ Fr Non w w' := by
  obtain ⟨W1, HW1⟩ : ∃ W1, W1 = w.alloc (.cells #[.slice A P.length c] 24) := ⟨_, rfl⟩
  have hf1 : Fr Non w W1 := by rw [HW1]; exact (fr_refl w).alloc _
  have B1 := Lib.hid (show W1.heap[w.heap.size]? = some (.cells #[.slice A P.length c] 24 (0, 0)) by rw [HW1]; exact blk_new _ _ _)
  have R1 := Lib.hid (hr.fr hf1 (fun _ _ => non _) fun _ h => h)
  have G1 := Lib.hid (hf1.cell' hg (non _))
  have T1 := Lib.hid (hf1.cell' ht (non _))
  have F1 := Lib.hid hf1
  have hok1 := Lib.hid (show ∀ q, ok q → q < W1.heap.size from fun q hq => by have := hok q hq; have := hf1.size; omega)
  clear hf1 hr hg ht
  have x1 := (cells_of B1.out).1 0 _ rfl
  have HC := Lib.hid hc; have HPC := Lib.hid hpc
  clear hc hpc hok
  go_enter Tryz.func3, Tryz.ntmps3
  go_upto_region 1 with fail
  rw [← HW1]; clear HW1
  go_wp2_with fail
  refine (large08_any P ok A c W1 R1.out HC.out hok1.out).mono ?_
  rintro e w2 ⟨⟨b, rfl, hb⟩, hf2⟩
  have F2 := Lib.hid (F1.out.trans hf2)
  have G2 := Lib.hid (hf2.cell' G1.out (non _))
  have T2 := Lib.hid (hf2.cell' T1.out (non _))
  have R2 := Lib.hid (R1.out.fr hf2 (fun _ _ => non _) fun _ h => h)
  have B2 := Lib.hid (blk_fr B1.out hf2 (non _))
  have hok2 := Lib.hid (show ∀ q, ok q → q < w2.heap.size from fun q hq => by have := hok1.out q hq; have := hf2.size; omega)
  clear hf2 F1 G1 T1 R1 B1 x1
  cases b
  case true =>
    go_wp2_with fail
    refine (alive_any w2 G2.out).mono ?_
    rintro e w3 ⟨rfl, hf3⟩
    have F3 := Lib.hid (F2.out.trans hf3); clear hf3
    go_wp2_with fail
    go_ret
    exact ⟨rfl, F3.out⟩
  case false =>
    obtain ⟨hl30, hs9, hli⟩ := hb rfl
    have HS := Lib.hid hs9; have HLI := Lib.hid hli; clear hs9 hli hb
    have x2 := (cells_of B2.out).1 0 _ rfl
    go_wp2_with fail
    refine (mayP_any P ok A c w2 R2.out HC.out (by have := HS.out; omega)).mono ?_
    rintro e w3 ⟨rfl, hf3⟩
    have F3 := Lib.hid (F2.out.trans hf3)
    have G3 := Lib.hid (hf3.cell' G2.out (non _))
    have T3 := Lib.hid (hf3.cell' T2.out (non _))
    have R3 := Lib.hid (R2.out.fr hf3 (fun _ _ => non _) fun _ h => h)
    have B3 := Lib.hid (blk_fr B2.out hf3 (non _))
    have hok3 := Lib.hid (show ∀ q, ok q → q < w3.heap.size from fun q hq => by have := hok2.out q hq; have := hf3.size; omega)
    clear hf3 F2 G2 T2 R2 B2 x2 hok2
    cases hm : mayM P
    · go_wp2_with fail
      refine (alive_any w3 G3.out).mono ?_
      rintro e w4 ⟨rfl, hf4⟩
      have F4 := Lib.hid (F3.out.trans hf4); clear hf4
      go_wp2_with fail
      go_ret
      exact ⟨rfl, F4.out⟩
    · have HM := Lib.hid hm
      have HMR := Lib.hid (mayM_rn P hm)
      have HNM := Lib.hid (nmss_bd P hm HLI.out)
      clear hm
      have x3 := (cells_of B3.out).1 0 _ rfl
      go_wp2_with fail
      refine (renamed_any P ok A c w3 R3.out HPC.out HC.out hok3.out HNM.out).mono ?_
      rintro e w4 ⟨A4, c4, rfl, hf4, hc4, hr4⟩
      have F4 := Lib.hid (F3.out.trans hf4)
      have G4 := Lib.hid (hf4.cell' G3.out (non _))
      have T4 := Lib.hid (hf4.cell' T3.out (non _))
      have R4 := Lib.hid (R3.out.fr hf4 (fun _ _ => non _) fun _ h => h)
      have B4 := Lib.hid (blk_fr B3.out hf4 (non _))
      have hok4 := Lib.hid (show ∀ q, ok q → q < w4.heap.size from fun q hq => by have := hok3.out q hq; have := hf4.size; omega)
      have O4 := Lib.hid hr4
      have hon4 := Lib.hid (show ∀ q, New w3.heap.size w4 q → q < w4.heap.size from fun q hq => hq.2)
      have HC4 := Lib.hid (show (renP P).length ≤ c4 by rw [renP_length]; exact hc4)
      have HCR := Lib.hid (show (renP P).length * 96 ≤ reach by rw [renP_length]; exact HC.out)
      have HSR := Lib.hid (show Fu.sizes (renP P) ≤ 900 by unfold renP; rw [fsizes_rn]; exact HS.out)
      have hln : P.length = (renP P).length := (renP_length P).symm
      clear hf4 hr4 hc4 F3 G3 T3 R3 B3 x3 hok3
      obtain ⟨w5, HW5⟩ : ∃ w5, w5 = w4.alloc (.cells #[.slice A4 P.length c4] 24) := ⟨_, rfl⟩
      have hf5 : Fr Non w4 w5 := by rw [HW5]; exact (fr_refl w4).alloc _
      have C5 := Lib.hid (show w5.heap[w4.heap.size]? = some (.cells #[.slice A4 (renP P).length c4] 24 (0, 0)) by rw [HW5, ← hln]; exact blk_new _ _ _)
      have F5 := Lib.hid (F4.out.trans hf5)
      have G5 := Lib.hid (hf5.cell' G4.out (non _))
      have T5 := Lib.hid (hf5.cell' T4.out (non _))
      have R5 := Lib.hid (R4.out.fr hf5 (fun _ _ => non _) fun _ h => h)
      have B5 := Lib.hid (blk_fr B4.out hf5 (non _))
      have O5 := Lib.hid (O4.out.fr hf5 (fun _ _ => non _) fun _ h => h)
      have hok5 := Lib.hid (show ∀ q, ok q → q < w5.heap.size from fun q hq => by have := hok4.out q hq; have := hf5.size; omega)
      have hon5 := Lib.hid (show ∀ q, New w3.heap.size w4 q → q < w5.heap.size from fun q hq => by have := hon4.out q hq; have := hf5.size; omega)
      clear hf5 F4 G4 T4 R4 B4 O4 hok4 hon4 hln
      go_upto_region 4 with fail
      rw [← HW5]; clear HW5
      have x5 := ext_cell ((cells_of C5.out).1 0 _ rfl)
      have y5 := ext_cell ((cells_of B5.out).1 0 _ rfl)
      have bd := scCheck_bd P HM.out
      have M5 := Lib.hid (fun x => mayP_any (renP P) _ A4 c4 (ext w5 x) (O5.out.fr (ext_fr w5 x) (fun _ _ => non _) fun _ h => h) HCR.out (by have := HSR.out; omega))
      have K5 := Lib.hid (fun x => scheck_any P ok A c (ext w5 x) (R5.out.fr (ext_fr w5 x) (fun _ _ => non _) fun _ h => h) HC.out HPC.out (by have := HS.out; omega) (fun q hq => by have := hok5.out q hq; have := (ext_fr w5 x).size; omega))
      have N5 := Lib.hid (fun x => scheck_any (renP P) _ A4 c4 (ext w5 x) (O5.out.fr (ext_fr w5 x) (fun _ _ => non _) fun _ h => h) HCR.out HC4.out (by have := HSR.out; omega) (fun q hq => by have := hon5.out q hq; have := (ext_fr w5 x).size; omega))
      have V5 := Lib.hid (fun x => alive_any (ext w5 x) (ext_cell G5.out x))
      have S5 := Lib.hid (fun x => alike_any (scCheck P) bd.1 bd.2.1 bd.2.2.1 bd.2.2.2 tb (ext w5 x) (ext_cell T5.out x))
      rw [HMR.out] at M5
      rw [scCheck_errV] at K5 N5
      rw [law_names P HM.out] at N5
      generalize errV (scCheck P) = EV at K5 N5 S5
      clear bd
      refine wp_region_ext (by kernel_rfl) (by kernel_rfl) ?_
      repeat (go_big_quiet_step (fail))
      go_big_quiet_want
      go_big_quiet_op
      apply Exists.intro
      refine ⟨fun x => ?_, ?_⟩
      · exact calls_ext (M5.out x)
      go_big_quiet_on
      repeat (go_big_quiet_step (fail))
      go_big_quiet_want
      go_big_quiet_op
      apply Exists.intro
      refine ⟨fun x => ?_, ?_⟩
      · exact calls_ext (K5.out x)
      go_big_quiet_on
      repeat (go_big_quiet_step (fail))
      go_big_quiet_want
      go_big_quiet_op
      apply Exists.intro
      refine ⟨fun x => ?_, ?_⟩
      · exact calls_ext (N5.out x)
      go_big_quiet_on
      repeat (go_big_quiet_step (fail))
      go_big_quiet_want
      go_big_quiet_op
      apply Exists.intro
      refine ⟨fun x => ?_, ?_⟩
      · exact calls_ext (S5.out x)
      go_big_quiet_on
      repeat (go_big_quiet_step (fail))
      go_big_quiet_want
      go_big_quiet_op
      apply Exists.intro
      refine ⟨fun x => ?_, ?_⟩
      · exact calls_ext (V5.out x)
      go_big_quiet_on
      repeat (go_big_quiet_step (fail))
      refine wpQuiet_nil ?_
      intro w6 hf6
      have F6 := Lib.hid (F5.out.trans hf6); clear hf6
      go_wp2_with fail
      go_ret
      exact ⟨rfl, F6.out⟩
end Go.Proofs.YtfncbemligfloaaGreatDoor
/- The row of ScopeNames, proved: for every program that comes in the call returns true, and the program reads as it did. Conditions: those of the row (errors.errorType holds the handle of the type error). -/
namespace Go.Proofs.YtfncbemligfloaaGreatDoor
open Go.RowKit
set_option linter.unusedVariables false
set_option linter.unusedSimpArgs false
open Go.ChangeShapes Go.WideShapes
set_option maxRecDepth 100000 in
set_option maxHeartbeats 4000000 in
theorem names_lifted (os : Os) (started : os.Started) (H : Type) (enc : TypeId × Value → H) :
    ReturnsInHanded {} Tryz.checked os 3 .any (fun w args => (Rows.scopeNamesSpec.pre enc Tryz.prog Tryz.f3 [] false w args ∧ laidMetH Tryz.prog [("errors.errorType", Rows.laid_errors_errorType)] w) ∧ sizedMet enc Tryz.prog Tryz.f3 (OpenSpec.ofChange Rows.scopeNamesSpec) false w args)
      (Rows.scopeNamesSpec.post enc Tryz.prog Tryz.f3 false true false false) := by
  refine lifted_shaped (C := Tryz.checked) (X := fun w _ => laidMetH Tryz.prog [("errors.errorType", Rows.laid_errors_errorType)] w) (fun _ _ _ hh h => h.of_heap hh) own_knob started (by kernel_rfl) Tryz.func3
    (ChangeSpec.witness_at (enc := enc) (C := Tryz.checked) (os := os) (X := fun w _ => laidMetH Tryz.prog [("errors.errorType", Rows.laid_errors_errorType)] w) false (laidWorld os) #[.agg #[.slice none 0 0]] 8 rfl (by kernel_rfl) (by kernel_rfl) (by kernel_rfl) (by kernel_rfl) (by kernel_rfl) (laidWorld_met os _)) ?_
  intro W base args ds gs before hsh hval0 hW hsz hL
  obtain ⟨tb, htb⟩ := tab_of_shaped hsh
  have hval : ∀ (j : Nat) t v, Tryz.f3.params[j]? = some t → args[j]? = some v → Value.okWide Tryz.prog W .any base t v := hval0
  have hW' := hW
  obtain ⟨p, q, hA0, hV0, rfl, hfz, hnd⟩ := hW
  have hA : DataW.TrodAll enc Tryz.prog W 0 (fun _ => true) true Tryz.f3.params.toList args.toList ds p := hA0
  have hV : DataW.TrodVars enc Tryz.prog W (fun _ => true) [] gs q := hV0
  rw [Tryz.params3] at hA hval
  obtain ⟨v0, d0, rfl, rfl, h0⟩ := trodAll_one hA
  obtain ⟨rfl, rfl⟩ : gs = [] ∧ q = [] := by
    cases gs with
    | nil => exact ⟨rfl, hV⟩
    | cons g r => exact absurd hV (by intro h; cases h)
  have hval1 := hval 0 24 v0 rfl rfl
  obtain ⟨cs, rfl⟩ : ∃ cs, v0 = .agg cs := by
    unfold Value.okWide at hval1
    rw [Tryz.underlying24] at hval1
    obtain ⟨cs, h, _⟩ := hval1
    exact ⟨cs, h⟩
  have h0k := h0
  obtain ⟨fuel, hf⟩ := h0
  have hlight : Light (d0.weights Tryz.prog 24) := by
    have hsz' : (DataW.weightsEach Tryz.prog (Tryz.f3.params.toList ++ Rows.scopeNamesSpec.plain.varTypes Tryz.prog) ([d0] ++ [])).all (· ≤ reachBytes) = true := hsz
    rw [Tryz.params3] at hsz'
    have : Light (DataW.weightsEach Tryz.prog (#[24].toList ++ Rows.scopeNamesSpec.plain.varTypes Tryz.prog) ([d0] ++ [])) := hsz'
    exact Light.left this
  obtain ⟨P, A, c, hcs, hc1, hc2, hrd⟩ := op_prog fuel (.agg cs) _ _ hf hlight
  have hcs' : cs = #[.slice A P.length c] := by
    have : cs.toList = [.slice A P.length c] := hcs
    rw [← Array.toList_inj]; exact this
  subst hcs'
  refine (scopeNames_any P (InW W) A c W hrd hc2 hc1 (fun q hq => hq) (handle_of_laid hL) tb htb).mono fun e W' ⟨he, hw⟩ => ?_
  subst he
  have e1 : Rows.scopeNamesSpec.fn H ([d0] ++ []) = { results := [.lit (.bool true)], args := [d0] } := by simp [Rows.scopeNamesSpec]
  have hlt : ∀ x ∈ p, x.block < W.heap.size := fun x hx => hW'.lt x (by simpa using hx)
  refine ⟨_, rfl, post_of_fr hw hW' ?_ ?_ ?_ ?_⟩
  · intro b sp hd
    rw [e1]
    exact trodAll_mk1 (shut_bool Tryz.underlying4 true)
  · intro sp hsp
    rw [e1, List.append_nil, Tryz.params3]
    exact trodAll_mk1 (WideElems.Trod_stays laidOut readProg rowProg h0k (fun x hx => hw.below.same (hlt x hx)) (fun x hx => hsp x (by simpa using hx)))
  · intro sp
    rw [e1]; rfl
  · exact ok_one (by kernel_rfl) rfl (okWide_bool_mk Tryz.underlying4 true)
end Go.Proofs.YtfncbemligfloaaGreatDoor
