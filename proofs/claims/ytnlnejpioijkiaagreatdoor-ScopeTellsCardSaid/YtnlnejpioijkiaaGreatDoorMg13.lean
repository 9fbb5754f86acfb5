/- Contracts and laws, file 13: ScH, ScI, AlA, AsA, AsB, AlB, LgA, LgB -/
import Derived.Test.YtnlnejpioijkiaaGreatDoorMg12
import Derived.Recover
import Derived.Defers
import Derived.WalkKit
import Derived.LaidEql
import Derived.LaidHandle
import Derived.Stop.Asserts
import Derived.RowKitTokens
import Derived.Laws.StructEq
import Derived.Deep.DeepCutAuto
import Derived.IntWalk
import Derived.Deep.CutBlock
/- The program's scope.Check: the closure that recovers, the answer. -/
namespace Go.Proofs.YtnlnejpioijkiaaGreatDoor
open Go.RowKit
set_option linter.unusedVariables false
set_option linter.unusedSimpArgs false
set_option maxRecDepth 100000 in
set_option maxHeartbeats 4000000 in
theorem check_catch (b : Nat) (old : Value) (T : TypeId) (x y : Int) (w : World) (hb : w.heap[b]? = some (.cells #[old] T (0, 0))) :
    CallsD Tryz.prog 19 #[.pointer (some ⟨b, 0, none⟩)] (.panicking [{ v := faultV x y, recovered := false }]) w fun e u' w' =>
      e = .returned (.tuple #[]) ∧ u' = .panicking [{ v := faultV x y, recovered := true }] ∧ w'.heap[b]? = some (.cells #[faultV x y] T (0, 0)) ∧ Fr (fun k => k = b) w w' := by
  have hta : ∀ w : World, (Instr.typeAssert (.iface 36 (.agg #[.int .i64 x, .int .i64 y])) 20 36 true).run Tryz.prog w = .ok (.tuple #[.agg #[.int .i64 x, .int .i64 y], .bool true]) w := fun w => by kernel_rfl
  have hmi : ∀ w : World, (Instr.makeInterface 36 (.agg #[.int .i64 x, .int .i64 y])).run Tryz.prog w = .ok (.iface 36 (.agg #[.int .i64 x, .int .i64 y])) w := fun w => by kernel_rfl
  have hf1 := (Fr.refl (fun k => k = b) w).alloc (.cells #[.int .i64 x, .int .i64 y] 36)
  have hb1 := blk_fr hb ((fr_refl w).alloc (.cells #[.int .i64 x, .int .i64 y] 36)) (non _)
  have hb2 := blk_set hb1 0 (faultV x y)
  have hf3 := hf1.setCell ⟨b, 0, none⟩ (faultV x y) (.inl rfl)
  have c1 := (cells_of hb1).1 0 _ rfl
  have z1 := (cells_of hb1).2 0
  refine callsD_of_wpS Tryz.func19 rfl fun c₀ cs hu => ?_
  apply wpS_seq
  apply wpS_region
  unfold faultV at *
  simp [wpOpsS, go_sem, recoverD, hu, Tryz.ntmps19, Exit.thenS]
  refine wpS_of_wp ?_
  go_wp2_with fail
  refine ⟨rfl, _, rfl, _, by simp [results, Tryz.results19, go_sem], rfl, rfl, ?_, ?_⟩
  · simpa using hb2
  · exact hf3

set_option maxRecDepth 100000 in
set_option maxHeartbeats 4000000 in
theorem check_idle (b : Nat) (w : World) :
    CallsD Tryz.prog 19 #[.pointer (some ⟨b, 0, none⟩)] .returning w fun e u' w' => e = .returned (.tuple #[]) ∧ u' = .returning ∧ w = w' := by
  refine callsD_of_wpS Tryz.func19 rfl fun c₀ cs hu => ?_
  apply wpS_seq
  apply wpS_region
  simp [wpOpsS, go_sem, recoverD, hu, Tryz.ntmps19, Exit.thenS]
  refine wpS_of_wp ?_
  go_wp2_with fail
  refine ⟨rfl, _, ?_, _, by simp [results, Tryz.results19, go_sem], rfl, rfl, rfl⟩
  rw [← hu]

theorem scFun_n (P : List Fu) (F : Nat) (f : Fu) (n m : Int) (h : scFun P F f n = .ok m) : n ≤ m ∧ m ≤ n + St.sizes f.body + 2 := by
  unfold scFun at h
  split at h
  · cases h
  split at h
  · cases h
  rename_i a ha
  have h1 := scParams_n _ _ _ ha
  split at h
  · cases h
  rename_i a1 aw hb
  have h2 := scStmts_n P F _ _ _ _ _ hb
  split at h
  · cases h; simp only at h1; omega
  · cases h
theorem scWalk_n (P : List Fu) : ∀ (i : Nat) (n : Int), i ≤ P.length → scWalk P i = .ok n → 0 ≤ n ∧ n ≤ 2 * i + Fu.sizes (P.take i)
  | 0, n, _, h => by cases h; simp [Fu.sizes]
  | i + 1, n, hi, h => by
    rw [scWalk] at h
    split at h
    · cases h
    rename_i m hm
    have h1 := scWalk_n P i m (by omega) hm
    have h2 := scFun_n _ _ _ _ _ h
    have h3 := fsizes_take P i (by omega)
    rw [List.getD_eq_getElem?_getD, List.getElem?_eq_getElem (by omega), Option.getD_some] at h2
    push_cast
    omega
theorem scWalk_mono (P : List Fu) (x : Int × Int) : ∀ (i j : Nat), i ≤ j → scWalk P i = .error x → scWalk P j = .error x
  | i, j, hij, h => by
    induction hij with
    | refl => exact h
    | step _ ih => rw [scWalk, ih]
/-- What scope.Check hands back. -/
def scCheckV (P : List Fu) : Value := if mayM P then (match scWalk P P.length with
  | .error x => faultV x.1 x.2
  | .ok _ => .nilIface) else faultV 0 2

set_option maxRecDepth 100000 in
set_option maxHeartbeats 4000000 in
theorem scheck_any (P : List Fu) (ok : Nat → Prop) (A : Option Addr) (c : Nat) (w : World) (hr : RdRows ok w 5 A 0 (P.map Fu.d)) (hc : P.length * 96 ≤ reach) (hpc : P.length ≤ c) (hs : Fu.sizes P ≤ 1099511620000) (hok : ∀ q, ok q → q < w.heap.size) :
   Calls Tryz.prog 7 #[.agg #[.slice A P.length c]] w fun e w' => e = .returned (scCheckV P) ∧ Fr Non w w' := by
  have hlen : P.length ≤ 140737488355328 := by unfold reach at hc; omega
  have hmf : ∀ (fn : Fn) (first cap : Array Value) (w : World), (Instr.makeFunc fn first cap).run Tryz.prog w = .ok (.func fn first cap) w := fun _ _ _ _ => rfl
  have hmi : ∀ w : World, (Instr.makeInterface 36 (.agg #[.int .i64 0, .int .i64 2])).run Tryz.prog w = .ok (.iface 36 (.agg #[.int .i64 0, .int .i64 2])) w := fun w => by kernel_rfl
  obtain ⟨W1, HW1⟩ : ∃ W1, W1 = (w.alloc (.cells #[.slice A P.length c] 24)).alloc (.cells #[.nilIface] 29) := ⟨_, rfl⟩
  have hfw : Fr Non w W1 := by rw [HW1]; exact ((fr_refl w).alloc _).alloc _
  have hbp : W1.heap[w.heap.size]? = some (.cells #[.slice A P.length c] 24 (0, 0)) := by rw [HW1]; exact blk_old (blk_new _ _ _)
  have hbr : W1.heap[w.heap.size + 1]? = some (.cells #[.nilIface] 29 (0, 0)) := by rw [HW1]; exact blk_new' (by simp) _ _
  have HC := Lib.hid (pcheck_any P ok A c W1 (hr.fr hfw (fun _ _ => non _) (fun _ h => h)) hc (by omega))
  have HR := Lib.hid hr; clear hr
  have g0 := (cells_of hbp).1 0 _ rfl
  have HBP := Lib.hid hbp; clear hbp
  have HBR := Lib.hid hbr; clear hbr
  have HFW := Lib.hid hfw; clear hfw
  have HW1L := Lib.hid HW1
  obtain ⟨r, hR⟩ : ∃ r : Value, scCheckV P = r := ⟨_, rfl⟩
  rw [hR]
  have HRR := Lib.hid hR; clear hR
  go_enter_defers Tryz.func7, Tryz.ntmps7
  go_upto_region 1 with fail
  rw [show ((w.alloc (.cells #[.slice A P.length c] 24)).alloc (.cells #[.nilIface] 29)) = W1 from HW1.symm]
  clear HW1
  go_wp2_with fail
  refine HC.out.mono ?_
  rintro e w2 ⟨rfl, hf2⟩
  have hbr2 := blk_fr HBR.out hf2 (non _)
  have c2 := (cells_of hbr2).1 0 _ rfl
  have z2 := (cells_of hbr2).2 0
  have hbp2 := blk_fr HBP.out hf2 (non _)
  have p2 := (cells_of hbp2).1 0 _ rfl
  clear g0
  cases hm : mayM P with
  | false =>
    have HM := Lib.hid hm; clear hm
    simp only [Bool.false_eq_true, if_false]
    have hb3 := blk_set hbr2 0 (faultV 0 2)
    go_wp2_with fail
    have c3 := (cells_of hb3).1 0 _ rfl
    have HF := Lib.hid (HFW.out.trans hf2)
    have HFF := Lib.hid (show Fr Non w (w2.setCell ⟨w.heap.size + 1, 0, none⟩ (faultV 0 2)) from HF.out.setCell _ _ (.inr (Nat.le_succ _)))
    unfold faultV at c3 HFF
    simp [bodyPostD, Leaves, settle, results, Tryz.results7, go_sem, c3]
    exact ⟨by rw [← HRR.out, scCheckV, HM.out]; rfl, HFF.out⟩
  | true =>
    have HM := Lib.hid hm; clear hm
    simp only [if_true]
    go_upto_region 6 with fail
    obtain ⟨W3, HW3⟩ : ∃ W3, W3 = w2.alloc (.cells #[.slice A P.length c, .int .i64 0, .map none, .map none] 61) := ⟨_, rfl⟩
    rw [← HW3]
    have hf3 : Fr Non w2 W3 := by rw [HW3]; exact (fr_refl w2).alloc _
    have hbw : W3.heap[w2.heap.size]? = some (.cells #[.slice A P.length c, .int .i64 0, .map none, .map none] 61 (0, 0)) := by rw [HW3]; exact blk_new _ _ _
    clear HW3 c2 z2 p2
    have hbr3 := blk_fr hbr2 hf3 (non _)
    have hbp3 := blk_fr hbp2 hf3 (non _)
    have p3 := (cells_of hbp3).1 0 _ rfl
    have hz12 : w.heap.size ≤ W1.heap.size := HFW.out.size
    have hz2 : W1.heap.size ≤ w2.heap.size := hf2.size
    have hrl := blk_lt HBR.out
    have HF3 := Lib.hid ((HFW.out.trans hf2).trans hf3); clear hf2 hf3
    have HBW := Lib.hid hbw; clear hbw
    have HBR3 := Lib.hid hbr3; clear hbr3 hbr2 hbp2 hbp3
    go_wp2_with fail
    go_loopw [20] (fun i wr => ∃ (j : Nat) (n : Int) (v2 v3 : Value), i = .int .i64 j ∧ j ≤ P.length ∧ scWalk P j = .ok n ∧ wr.heap[w2.heap.size]? = some (.cells #[.slice A P.length c, .int .i64 n, v2, v3] 61 (0, 0)) ∧ Fr (fun k => k = w2.heap.size) W3 wr) (fun i _ => P.length - (intOf i).toNat)
    case atStart => exact ⟨0, 0, _, _, rfl, by omega, rfl, HBW.out, Fr.refl _ _⟩
    case round =>
      obtain ⟨j, n, v2, v3, rfl, hj, hwk, hbw, hfr⟩ := hrel
      have HWK := Lib.hid hwk; clear hwk
      have HNB := Lib.hid (scWalk_n P j n hj HWK.out)
      have HBJ := Lib.hid hbw; clear hbw
      have hbr4 := blk_fr HBR3.out hfr (by omega)
      have HFJ := Lib.hid (HF3.out.then hfr fun k hk e => by omega)
      have HFW3 := Lib.hid hfr; clear hfr
      by_cases hlt : j < P.length
      · have hokF : okF P[j] = true := by
          have h := HM.out
          simp only [mayM, Bool.and_eq_true, List.all_eq_true] at h
          exact h.1 _ (List.getElem_mem hlt)
        have HSF := Lib.hid (scfun_any w.heap.size w2.heap.size ok A c P j hlt wr n v2 v3 HBJ.out (by omega) ⟨HR.out.fr HFJ.out (fun _ _ => non _) (fun _ h => h), hc, hlt, hpc, hok⟩ hokF (HNB.out.1) (by have := HNB.out.2; have := fsizes_take P j hlt; have := fsizes_take_le P (j + 1); have h16 := HM.out; simp only [mayM, Bool.and_eq_true, decide_eq_true_eq] at h16; omega))
        clear hokF
        go_wp2_with fail
        refine HSF.out.mono ?_
        intro e w4 he
        unfold FnR at he
        have HST := Lib.hid (show scWalk P (j + 1) = scFun P j P[j] n by rw [scWalk, HWK.out]; simp only; rw [List.getD_eq_getElem?_getD, List.getElem?_eq_getElem hlt, Option.getD_some])
        cases hf : scFun P j P[j] n with
        | error x =>
          rw [hf] at he
          simp only at he
          obtain ⟨rfl, hf4⟩ := he
          have HX := Lib.hid (scWalk_mono P x (j + 1) P.length (by omega) (HST.out.trans hf)); clear hf
          have hbr5 := blk_fr hbr4 hf4 (by omega)
          have HF5 := Lib.hid (HFJ.out.then hf4 fun k hk e => by omega); clear hf4 hbr4
          go_wp2_with fail
          refine leaves_cons (f := 19) (args := #[.pointer (some ⟨w.heap.size + 1, 0, none⟩)]) (by simp) (by simp [go_sem]) ?_
          refine (check_catch (w.heap.size + 1) _ _ x.1 x.2 _ hbr5).mono ?_
          rintro e u' w'' ⟨rfl, rfl, hb6, hf6⟩
          have c6 := (cells_of hb6).1 0 _ rfl
          have HF6 := Lib.hid (HF5.out.then hf6 fun k hk e => by omega); clear hf6
          simp [Leaves, settle, results, Tryz.results7, go_sem, c6]
          exact ⟨by rw [← HRR.out, scCheckV, HM.out, HX.out]; rfl, HF6.out⟩
        | ok m =>
          rw [hf] at he
          simp only at he
          obtain ⟨rfl, hf4, v2', v3', hb4⟩ := he
          have HX := Lib.hid (HST.out.trans hf); clear hf hbr4
          have HF4 := Lib.hid hf4; clear hf4
          have HB4 := Lib.hid hb4; clear hb4
          go_wp2_with fail
          go_roundw
          case rel => exact ⟨j + 1, m, v2', v3', by go_num, by omega, HX.out, HB4.out, HFW3.out.trans HF4.out⟩
          case measure => simp [intOf]; omega
      · have hje : j = P.length := by omega
        subst hje
        have c4 := (cells_of hbr4).1 0 _ rfl
        have z4 := (cells_of hbr4).2 0
        have hb5 := blk_set hbr4 0 .nilIface
        have HF5 := Lib.hid (show Fr Non w (wr.setCell ⟨w.heap.size + 1, 0, none⟩ .nilIface) from HFJ.out.setCell _ _ (.inr (Nat.le_succ _)))
        go_wp2_with fail
        refine leaves_cons (f := 19) (args := #[.pointer (some ⟨w.heap.size + 1, 0, none⟩)]) (by simp) (by simp [go_sem]) ?_
        refine (check_idle (w.heap.size + 1) _).mono ?_
        rintro e u' w'' ⟨rfl, rfl, rfl⟩
        have c6 := (cells_of hb5).1 0 _ rfl
        simp [Leaves, settle, results, Tryz.results7, go_sem, c6]
        exact ⟨by rw [← HRR.out, scCheckV, HM.out, HWK.out]; rfl, HF5.out⟩
end Go.Proofs.YtnlnejpioijkiaaGreatDoor
/- The program's scope.Items. -/
namespace Go.Proofs.YtnlnejpioijkiaaGreatDoor
open Go.RowKit
set_option linter.unusedVariables false
set_option linter.unusedSimpArgs false
set_option maxRecDepth 100000 in
set_option maxHeartbeats 4000000 in
theorem sitems_any (N : Nat) : ∀ (l : List St) (ok : Nat → Prop) (A : Option Addr) (c : Nat) (w : World), St.sizes l < N → St.sizes l ≤ 1099511627776 → RdRows ok w 9 A 0 (St.ds l) → l.length * 144 ≤ reach →
   Calls Tryz.prog 21 #[.slice A l.length c] w fun e w' => e = .returned (.int .i64 (St.sizes l)) ∧ Fr Non w w' := by
  induction N with
  | zero => intro l ok A c w hN; omega
  | succ N ih =>
  intro l ok A c w hN hN2 hr hc
  have hlen : l.length ≤ 140737488355328 := by unfold reach at hc; omega
  have IH := Lib.hid ih; clear ih
  have HR := Lib.hid hr; clear hr
  have HC := Lib.hid hc; clear hc
  have HNN := Lib.hid hN; clear hN
  have HIA := Lib.hid (inner_all l)
  go_enter Tryz.func21, Tryz.ntmps21
  go_wp2_with fail
  go_loopw [3, 10] (fun t i wr => ∃ j : Nat, i = .int .i64 j ∧ t = .int .i64 ((l.length + inner (l.take j) : Nat) : Int) ∧ j ≤ l.length ∧ Fr Non w wr) (fun _ i _ => l.length - (intOf i).toNat)
  case atStart => exact ⟨0, rfl, by simp [inner], by omega, fr_refl _⟩
  case round =>
    obtain ⟨j, rfl, rfl, hj, hfr⟩ := hrel
    by_cases hlt : j < l.length
    · obtain ⟨b, o1, A1, c1, A2, c2, A3, c3, A4, c4, rfl, hb, e0, e1, e2, e3, e4, e5, e6, e7, e8, r1, r2, r3, r4⟩ := at_st (HR.out.fr hfr (fun _ _ => non _) (fun _ h => h)) j hlt
      have HSR := Lib.hid (⟨r1, r2, r3, r4⟩ : StRd ok wr l[j] A1 A2 A3 A4 c1 c2 c3 c4)
      clear r1 r2 r3 r4
      have HQ := Lib.hid (ssize_le l j hlt)
      have HT := Lib.hid (inner_take l j hlt)
      have HT2 := Lib.hid (inner_le l (j + 1))
      have HF := Lib.hid hfr; clear hfr
      generalize hx : l[j] = x at *
      have HX := Lib.hid hx; clear hx
      obtain ⟨w2, HW2⟩ : ∃ w2, w2 = wr.alloc (.cells #[vu8 x.kind, .string x.name, .string x.frm, .bool x.sec, .bool x.mt, .slice A1 x.ex.length c1, .slice A2 x.args.length c2, .slice A3 x.body.length c3, .slice A4 x.els.length c4] 53) := ⟨_, rfl⟩
      have hf2 : Fr Non wr w2 := by rw [HW2]; exact (fr_refl wr).alloc _
      have hbz : w2.heap[wr.heap.size]? = some (.cells #[vu8 x.kind, .string x.name, .string x.frm, .bool x.sec, .bool x.mt, .slice A1 x.ex.length c1, .slice A2 x.args.length c2, .slice A3 x.body.length c3, .slice A4 x.els.length c4] 53 (0, 0)) := by rw [HW2]; exact blk_new _ _ _
      have y7 := (cells_of hbz).1 7 _ rfl
      have y8 := (cells_of hbz).1 8 _ rfl
      have HS2 := Lib.hid (HSR.out.fr hf2 fun _ _ => non _)
      have HF2 := Lib.hid (HF.out.trans hf2); clear hf2 hbz
      have hbod := fun (w1 : World) (hf1 : Fr Non w2 w1) => IH.out x.body ok A3 c3 w1 (by have := HNN.out; have := HQ.out; rw [St.size_eq] at this; omega) (by have := HQ.out; rw [St.size_eq] at this; omega) (HS2.out.body.2.2.fr hf1 (fun _ _ => non _) (fun _ h => h)) HS2.out.body.2.1
      have hels := fun (w1 : World) (hf1 : Fr Non w2 w1) => IH.out x.els ok A4 c4 w1 (by have := HNN.out; have := HQ.out; rw [St.size_eq] at this; omega) (by have := HQ.out; rw [St.size_eq] at this; omega) (HS2.out.els.2.2.fr hf1 (fun _ _ => non _) (fun _ h => h)) HS2.out.els.2.1
      have HBOD := Lib.hid hbod; clear hbod
      have HELS := Lib.hid hels; clear hels
      have hs1 : l.length + inner (l.take j) + (St.sizes x.body + St.sizes x.els) ≤ 1099511627776 := by have := HT.out; have := HT2.out; have := HIA.out; omega
      have x7 := ext_cell y7
      have x8 := ext_cell y8
      clear y7 y8
      go_upto_region 5 with fail
      rw [← HW2]; clear HW2
      clear e0 e1 e2 e3 e4 e5 e6 e7 e8
      refine wp_region_ext (by kernel_rfl) (by kernel_rfl) ?_
      repeat (go_big_quiet_step (fail))
      go_big_quiet_want
      go_big_quiet_op
      apply Exists.intro
      refine ⟨fun y => ?_, ?_⟩
      · exact calls_ext (v := .int .i64 (St.sizes x.body)) (HBOD.out _ (ext_fr _ _))
      go_big_quiet_on
      repeat (go_big_quiet_step (fail))
      go_big_quiet_want
      go_big_quiet_op
      apply Exists.intro
      refine ⟨fun y => ?_, ?_⟩
      · exact calls_ext (v := .int .i64 (St.sizes x.els)) (HELS.out _ (ext_fr _ _))
      go_big_quiet_on
      repeat (go_big_quiet_step (fail))
      refine wpQuiet_nil ?_
      intro w3 hf3
      clear x7 x8
      have HF3 := Lib.hid (HF2.out.trans hf3); clear hf3
      go_wp2_with fail
      go_roundw
      case rel => exact ⟨j + 1, by go_num, by have := HT.out; have := hs1; go_num, by omega, HF3.out⟩
      case measure => simp [intOf]; omega
    · have hje : j = l.length := by omega
      subst hje
      rw [List.take_length]
      have hs1 : l.length + inner l = St.sizes l := HIA.out
      go_wp2_with fail
      go_ret
      exact ⟨ret_int (by rw [← hs1]), hfr⟩

theorem scItems_take (P : List Fu) (j : Nat) (h : j < P.length) : scItems (P.take (j + 1)) = scItems (P.take j) + (2 + St.sizes P[j].body) := by
  rw [take_snoc P j h, scItems, scItems, List.map_append, List.sum_append]; simp
theorem scItems_eq (P : List Fu) : ∀ j, j ≤ P.length → scItems (P.take j) = 2 * j + Fu.sizes (P.take j)
  | 0, _ => by simp [scItems, Fu.sizes]
  | j + 1, h => by
    have h1 := scItems_take P j (by omega)
    have h2 := fsizes_take P j (by omega)
    have h3 := scItems_eq P j (by omega)
    rw [h1, h2, h3]; push_cast; omega

set_option maxRecDepth 100000 in
set_option maxHeartbeats 4000000 in
theorem sItems_any (P : List Fu) (ok : Nat → Prop) (A : Option Addr) (c : Nat) (w : World) (hr : RdRows ok w 5 A 0 (P.map Fu.d)) (hc : P.length * 96 ≤ reach) (hs : Fu.sizes P ≤ 1099511620000) :
   Calls Tryz.prog 8 #[.agg #[.slice A P.length c]] w fun e w' => e = .returned (.tuple #[.int .i64 (if mayM P then scItems P else 0), .int .i64 (if mayM P then 0 else 2)]) ∧ Fr Non w w' := by
  have hlen : P.length ≤ 140737488355328 := by unfold reach at hc; omega
  obtain ⟨W1, HW1⟩ : ∃ W1, W1 = w.alloc (.cells #[.slice A P.length c] 24) := ⟨_, rfl⟩
  have hfw : Fr Non w W1 := by rw [HW1]; exact (fr_refl w).alloc _
  have hbp : W1.heap[w.heap.size]? = some (.cells #[.slice A P.length c] 24 (0, 0)) := by rw [HW1]; exact blk_new _ _ _
  have HC := Lib.hid (pcheck_any P ok A c W1 (hr.fr hfw (fun _ _ => non _) (fun _ h => h)) hc (by omega))
  have HR := Lib.hid hr; clear hr
  have g0 := (cells_of hbp).1 0 _ rfl
  have HBP := Lib.hid hbp; clear hbp
  have HFW := Lib.hid hfw; clear hfw
  have HEQ := Lib.hid (scItems_eq P)
  cases hm : mayM P with
  | false =>
    rw [hm] at HC
    have HM := Lib.hid hm; clear hm
    simp only [Bool.false_eq_true, if_false] at HC ⊢
    go_enter Tryz.func8, Tryz.ntmps8
    go_upto_region 1 with fail
    rw [← HW1]; clear HW1
    go_wp2_with fail
    refine HC.out.mono ?_
    rintro e w2 ⟨rfl, hf2⟩
    go_wp2_with fail
    refine bodyPost_ret (v := .tuple #[.int .i64 0, .int .i64 2]) (by simp [results, Tryz.results8, go_sem]) rfl ⟨rfl, HFW.out.trans hf2⟩
  | true =>
    rw [hm] at HC
    have HM := Lib.hid hm
    simp only [if_true] at HC ⊢
    have h16 : P.length ≤ 16 := by simp only [mayM, Bool.and_eq_true, decide_eq_true_eq] at hm; omega
    clear hm
    go_enter Tryz.func8, Tryz.ntmps8
    go_upto_region 1 with fail
    rw [← HW1]; clear HW1
    go_wp2_with fail
    refine HC.out.mono ?_
    rintro e w2 ⟨rfl, hf2⟩
    have hbp2 := blk_fr HBP.out hf2 (non _)
    clear g0
    have g0 := (cells_of hbp2).1 0 _ rfl
    have HF2 := Lib.hid (HFW.out.trans hf2); clear hf2 hbp2
    go_wp2_with fail
    go_loopw [5, 16] (fun t i wr => ∃ j : Nat, i = .int .i64 j ∧ t = .int .i64 (2 * j + Fu.sizes (P.take j) : Int) ∧ j ≤ P.length ∧ Fr Non w2 wr) (fun _ i _ => P.length - (intOf i).toNat)
    case atStart => exact ⟨0, rfl, by simp [Fu.sizes], by omega, fr_refl _⟩
    case round =>
      obtain ⟨j, rfl, rfl, hj, hfr⟩ := hrel
      by_cases hlt : j < P.length
      · obtain ⟨b, o1, A1, c1, A2, c2, A3, c3, rfl, hb, e0, e1, e2, e3, e4, ⟨p1, q1, r1⟩, ⟨p2, q2, r2⟩, ⟨p3, q3, r3⟩⟩ := at_fu (HR.out.fr (HF2.out.trans hfr) (fun _ _ => non _) (fun _ h => h)) j hlt
        have HF := Lib.hid hfr; clear hfr
        have hf0 := (fr_refl wr).alloc (.cells #[.string P[j].name, .slice A1 P[j].params.length c1, .slice A2 P[j].body.length c2, .bool P[j].sec, .slice A3 P[j].ret.length c3] 44)
        have HT := Lib.hid (fsizes_take P j hlt)
        have HT2 := Lib.hid (fsizes_take_le P (j + 1))
        have HIT := Lib.hid (sitems_any (St.sizes P[j].body + 1) P[j].body ok A2 c2 _ (by omega) (by have := fsize_le P j hlt; omega) (r2.fr hf0 (fun _ _ => non _) (fun _ h => h)) q2)
        clear hf0 r1 r2 r3
        have hs1 : Fu.sizes (P.take j) + St.sizes P[j].body ≤ 1099511620000 := by have := HT.out; have := HT2.out; omega
        go_wp2_with fail
        refine HIT.out.mono ?_
        rintro e w3 ⟨rfl, hf3⟩
        have HF3 := Lib.hid (HF.out.trans (box_fr hf3)); clear hf3
        go_wp2_with fail
        go_roundw
        case rel => exact ⟨j + 1, by go_num, by have := HT.out; go_num, by omega, HF3.out⟩
        case measure => simp [intOf]; omega
      · have hje : j = P.length := by omega
        subst hje
        rw [List.take_length]
        have HE := Lib.hid (HEQ.out P.length (Nat.le_refl _))
        rw [List.take_length] at HE
        go_wp2_with fail
        refine bodyPost_ret (v := .tuple #[.int .i64 (2 * P.length + Fu.sizes P), .int .i64 0]) (by simp [results, Tryz.results8, go_sem]) rfl ⟨by rw [HE.out], HF2.out.trans hfr⟩
end Go.Proofs.YtnlnejpioijkiaaGreatDoor
/- The four programs that the chapter on scope shows: how they read, and what is said of them. -/
namespace Go.Proofs.YtnlnejpioijkiaaGreatDoor
open Go.RowKit
set_option linter.unusedVariables false
set_option linter.unusedSimpArgs false
def alT_a : ByteArray := ⟨#[102, 110, 32, 102, 40, 41, 32, 123, 32, 108, 101, 116, 32, 120, 32, 61, 32, 121, 59, 32, 125, 59]⟩
def alF_a : Fu := ⟨⟨#[102]⟩, [], [.mk 1 ⟨#[120]⟩ ⟨#[]⟩ false false [.mk 2 0 ⟨#[121]⟩ 0 []] [] [] []], false, []⟩
def alT_b : ByteArray := ⟨#[102, 110, 32, 102, 40, 41, 32, 123, 32, 105, 102, 32, 49, 32, 123, 32, 108, 101, 116, 32, 120, 32, 61, 32, 49, 59, 32, 125, 32, 108, 101, 116, 32, 120, 32, 61, 32, 50, 59, 32, 125, 59]⟩
def alF_b : Fu := ⟨⟨#[102]⟩, [], [.mk 5 ⟨#[]⟩ ⟨#[]⟩ false false [.mk 1 1 ⟨#[]⟩ 0 []] [] [.mk 1 ⟨#[120]⟩ ⟨#[]⟩ false false [.mk 1 1 ⟨#[]⟩ 0 []] [] [] []] [], .mk 1 ⟨#[120]⟩ ⟨#[]⟩ false false [.mk 1 2 ⟨#[]⟩ 0 []] [] [] []], false, []⟩
def alT_c : ByteArray := ⟨#[102, 110, 32, 102, 40, 41, 32, 123, 32, 105, 102, 32, 49, 32, 123, 32, 108, 101, 116, 32, 120, 32, 61, 32, 49, 59, 32, 125, 32, 120, 32, 61, 32, 50, 59, 32, 125, 59]⟩
def alF_c : Fu := ⟨⟨#[102]⟩, [], [.mk 5 ⟨#[]⟩ ⟨#[]⟩ false false [.mk 1 1 ⟨#[]⟩ 0 []] [] [.mk 1 ⟨#[120]⟩ ⟨#[]⟩ false false [.mk 1 1 ⟨#[]⟩ 0 []] [] [] []] [], .mk 2 ⟨#[120]⟩ ⟨#[]⟩ false false [.mk 1 2 ⟨#[]⟩ 0 []] [] [] []], false, []⟩
def alT_d : ByteArray := ⟨#[102, 110, 32, 102, 40, 110, 117, 109, 32, 110, 41, 32, 123, 32, 102, 111, 114, 32, 105, 32, 60, 32, 110, 32, 123, 32, 108, 101, 116, 32, 120, 32, 61, 32, 105, 59, 32, 125, 32, 125, 32, 61, 32, 110, 59]⟩
def alF_d : Fu := ⟨⟨#[102]⟩, [⟨⟨#[110]⟩, false, false, false⟩], [.mk 7 ⟨#[105]⟩ ⟨#[]⟩ false false [.mk 2 0 ⟨#[110]⟩ 0 []] [] [.mk 1 ⟨#[120]⟩ ⟨#[]⟩ false false [.mk 2 0 ⟨#[105]⟩ 0 []] [] [] []] []], false, [.mk 2 0 ⟨#[110]⟩ 0 []]⟩
theorem alP_a : parseP alT_a = some alF_a := by kernel_rfl
theorem alC_a : scCheckV [alF_a] = faultV 1 3 := by kernel_rfl
theorem alZ_a : Fu.sizes [alF_a] ≤ 1000 := by rw [show Fu.sizes [alF_a] = _ from rfl]; decide
theorem alP_b : parseP alT_b = some alF_b := by kernel_rfl
theorem alC_b : scCheckV [alF_b] = faultV 3 9 := by kernel_rfl
theorem alZ_b : Fu.sizes [alF_b] ≤ 1000 := by rw [show Fu.sizes [alF_b] = _ from rfl]; decide
theorem alP_c : parseP alT_c = some alF_c := by kernel_rfl
theorem alC_c : scCheckV [alF_c] = faultV 3 3 := by kernel_rfl
theorem alZ_c : Fu.sizes [alF_c] ≤ 1000 := by rw [show Fu.sizes [alF_c] = _ from rfl]; decide
theorem alP_d : parseP alT_d = some alF_d := by kernel_rfl
theorem alC_d : scCheckV [alF_d] = .nilIface := by kernel_rfl
theorem alZ_d : Fu.sizes [alF_d] ≤ 1000 := by rw [show Fu.sizes [alF_d] = _ from rfl]; decide
theorem alM_d : mayM [alF_d] = true := by kernel_rfl
theorem alI_d : scItems [alF_d] = 4 := by kernel_rfl
end Go.Proofs.YtnlnejpioijkiaaGreatDoor
/- errors.As and errors.Is at the program's faults: contracts after Go's own text. -/
namespace Go.Proofs.YtnlnejpioijkiaaGreatDoor
open Go.RowKit
set_option linter.unusedVariables false
set_option linter.unusedSimpArgs false
open Go.Extern.Stop Go.Stop Go.Extern

theorem as_nil (t : Value) (w : World) : Calls Tryz.prog 22 #[.nilIface, t] w fun e w' => e = .returned (.bool false) ∧ w = w' := by
  go_enter Tryz.func22, Tryz.ntmps22
  go_wp2_with fail
  go_ret
  exact ⟨rfl, rfl⟩
theorem th29 : typeHandle Tryz.prog 29 = .pointer (some ⟨1, 29, none⟩) := by kernel_rfl
abbrev hdl (t : Nat) : Value := .pointer (some ⟨1, t, none⟩)
abbrev rty (t : Nat) : Value := .iface 130 (.agg #[hdl t])
abbrev FT : Nat := 36
abbrev PT : Nat := 65
theorem fx1 (t : Addr) (w : World) : (ReflectliteValue.unpack (.iface PT (.pointer (some t)))).run Tryz.prog w
    = .ok (.agg #[hdl PT, .pointer (some ⟨w.heap.size, 0, none⟩), .int .u64 150]) (w.alloc (.cells #[.pointer (some t)] PT)) := by kernel_rfl
theorem fx2 (a : Addr) (w : World) : (ReflectliteValue.methodAny (ReflectliteValue.valueError "reflectlite.Value.Type" 0) (fun t _ _ _ => ReflectliteType.toType t) #[.agg #[hdl PT, .pointer (some a), .int .u64 150]]).run Tryz.prog w
    = .ok (rty PT) w := by kernel_rfl
theorem fx3 (h : Value) (w : World) : (Go.method 325 130 (.agg #[h]) "Kind").run Tryz.prog w = .ok (150, h) w := by kernel_rfl
theorem fx4 (w : World) : ((ReflectliteType.abiMethod fun t => (fun a : Nat => Value.int IntKind.u8 (a : Int)) <$> Rtype.kind t) #[hdl PT]).run Tryz.prog w = .ok (.int .u8 22) w := by kernel_rfl
theorem fx5 (w : World) : ((ReflectliteType.abiMethod fun t => (fun a : Nat => Value.int IntKind.u8 (a : Int)) <$> Rtype.kind t) #[hdl FT]).run Tryz.prog w = .ok (.int .u8 25) w := by kernel_rfl
theorem rlm (z : Sem Value) (f : TypeId → Addr → Nat → Nat → Sem Value) (v : Value) :
    ReflectliteValue.method z f #[v] = (do match ← ReflectliteValue.parts v with | none => z | some (t, a, fl) => f t a fl (fl % 32)) := rfl
theorem fx6 (a : Addr) (w : World) : (ReflectliteValue.parts (.agg #[hdl PT, .pointer (some a), .int .u64 150])).run Tryz.prog w = .ok (some (PT, a, 150)) w := by kernel_rfl
theorem fx7 (a p : Addr) (W : World) (ha : W.cell? a = some (.pointer (some p))) :
    (ReflectliteValue.method (ReflectliteValue.valueError "reflectlite.Value.IsNil" 0) ReflectliteValue.isNil #[.agg #[hdl PT, .pointer (some a), .int .u64 150]]).run Tryz.prog W = .ok (.bool false) W := by
  rw [rlm]
  simp only [Sem.run_bind, fx6, Result.andThen]
  simp [ReflectliteValue.isNil, loadVar, isAgg, underlying, Tryz.underlying65, ha, Result.andThen]
theorem fx8 (h : Value) (w : World) : (Go.method 325 130 (.agg #[h]) "Elem").run Tryz.prog w = .ok (162, .agg #[h]) w := by kernel_rfl
theorem fx9 (h : Value) (w : World) : (Go.method 325 130 (.agg #[h]) "Implements").run Tryz.prog w = .ok (163, .agg #[h]) w := by kernel_rfl
theorem fx10 (h : Value) (w : World) : (Go.method 325 130 (.agg #[h]) "AssignableTo").run Tryz.prog w = .ok (160, .agg #[h]) w := by kernel_rfl
theorem fx10c (h : Value) (w : World) : (Go.method 325 130 (.agg #[h]) "Comparable").run Tryz.prog w = .ok (161, .agg #[h]) w := by kernel_rfl
theorem fx11 (w : World) : (ReflectliteType.method ReflectliteType.elem #[.agg #[hdl PT]]).run Tryz.prog w = .ok (rty FT) w := by kernel_rfl
theorem fx12 (w : World) : (ReflectliteType.relation "Implements" ReflectliteType.implements_ #[.agg #[hdl FT], rty 29]).run Tryz.prog w = .ok (.bool true) w := by kernel_rfl
theorem fx13 (v : Value) (w : World) : (ReflectliteType.typeOf #[.iface FT v]).run Tryz.prog w = .ok (rty FT) w := by kernel_rfl
theorem fx13e (v : Value) (w : World) : (ReflectliteType.typeOf #[.iface 31 v]).run Tryz.prog w = .ok (rty 31) w := by kernel_rfl
theorem fx14 (w : World) : (ReflectliteType.relation "AssignableTo" ReflectliteType.assignableTo #[.agg #[hdl FT], rty FT]).run Tryz.prog w = .ok (.bool true) w := by kernel_rfl
theorem fx15 (x y : Int) (w : World) : (ReflectliteValue.unpack (.iface FT (.agg #[.int .i64 x, .int .i64 y]))).run Tryz.prog w
    = .ok (.agg #[hdl FT, .pointer (some ⟨w.heap.size, 0, none⟩), .int .u64 153]) (w.alloc (.cells #[.int .i64 x, .int .i64 y] FT)) := by kernel_rfl
theorem fx16 (w : World) : (Rtype.elem? PT).run Tryz.prog w = .ok (some FT) w := by kernel_rfl
theorem fx17 (p : Addr) (w : World) : (ReflectliteValue.mk FT p ReflectliteValue.flagAddr).run Tryz.prog w = .ok (.agg #[hdl FT, .pointer (some p), .int .u64 409]) w := by kernel_rfl
theorem fx18 (a p : Addr) (W : World) (ha : W.cell? a = some (.pointer (some p))) :
    (ReflectliteValue.method (ReflectliteValue.valueError "reflectlite.Value.Elem" 0) ReflectliteValue.elem #[.agg #[hdl PT, .pointer (some a), .int .u64 150]]).run Tryz.prog W
      = .ok (.agg #[hdl FT, .pointer (some p), .int .u64 409]) W := by
  rw [rlm]
  simp only [Sem.run_bind, fx6, Result.andThen]
  simp [ReflectliteValue.elem, loadVar, isAgg, underlying, Tryz.underlying65, ha, Result.andThen, fx16, fx17]
theorem rls (v x : Value) : ReflectliteValue.set #[v, x] = (do
    let (some (dst, a, fl), some (src, b, _)) := (← ReflectliteValue.parts v, ← ReflectliteValue.parts x)
      | unsupported (.noEntry "extern/(internal/reflectlite.Value).Set.zeroValue")
    if fl / ReflectliteValue.flagAddr % 2 == 0 then unsupported (.noEntry "extern/(internal/reflectlite.Value).Set.unaddressable")
    let val ← loadVar src b
    if ← Rtype.directlyAssignable dst src then storeVar dst a val
    else if ← Rtype.implements dst src then
      if (← Rtype.kind src) == 20 then
        match val with
        | .nilIface => unsupported (.noEntry "extern/reflectlite: a nil value of one interface type handed on as a value of another")
        | _ => storeVar dst a val
      else storeVar dst a (.iface src val)
    else panicString ("reflectlite.Set: value of type " ++ (← Rtype.spelt src) ++ " is not assignable to type " ++ (← Rtype.spelt dst))
    pure (.tuple #[])) := rfl
theorem fx19 (a : Addr) (w : World) : (ReflectliteValue.parts (.agg #[hdl FT, .pointer (some a), .int .u64 409])).run Tryz.prog w = .ok (some (FT, a, 409)) w := by kernel_rfl
theorem fx20 (a : Addr) (w : World) : (ReflectliteValue.parts (.agg #[hdl FT, .pointer (some a), .int .u64 153])).run Tryz.prog w = .ok (some (FT, a, 153)) w := by kernel_rfl
theorem fx21 (w : World) : (Rtype.directlyAssignable FT FT).run Tryz.prog w = .ok true w := by kernel_rfl
theorem fx22 (w : World) : (ReflectliteType.method (fun t => do Rtype.noPackHeld "Comparable" t; pure (.bool (← typeInfo t).comparable)) #[.agg #[hdl 31]]).run Tryz.prog w = .ok (.bool true) w := by kernel_rfl
theorem fx23a (b : Nat) (x y : Int) (W : World) (T : TypeId) (hb : W.heap[b]? = some (.cells #[.int .i64 x, .int .i64 y] T (0, 0))) :
    (loadVar FT ⟨b, 0, none⟩).run Tryz.prog W = .ok (.agg #[.int .i64 x, .int .i64 y]) W := by
  have c0 := (cells_of hb).1 0 _ rfl
  have c1 := (cells_of hb).1 1 _ rfl
  have hs : ∀ w : World, (sizeOf FT).run Tryz.prog w = .ok 2 w := fun w => by kernel_rfl
  simp [loadVar, isAgg, underlying, Tryz.underlying36, c0, c1, Result.andThen, hs, loadCells, loadCellsFrom, Addr.add]
theorem fx23b (ta : Nat) (x y x0 y0 : Int) (W : World) (ht : W.heap[ta]? = some (.cells #[.int .i64 x0, .int .i64 y0] FT (0, 0))) :
    (storeVar FT ⟨ta, 0, none⟩ (.agg #[.int .i64 x, .int .i64 y])).run Tryz.prog W = .ok () ((W.setCell ⟨ta, 0, none⟩ (.int .i64 x)).setCell ⟨ta, 1, none⟩ (.int .i64 y)) := by
  have t0 := (cells_of ht).1 0 _ rfl
  have z0 := (cells_of ht).2 0
  have ht1 := blk_set ht 0 (.int .i64 x)
  have t1 := (cells_of ht1).1 1 _ rfl
  have z1 := (cells_of ht1).2 1
  have hs : ∀ w : World, (sizeOf FT).run Tryz.prog w = .ok 2 w := fun w => by kernel_rfl
  simp [storeVar, Value.cells, storeCells, Addr.add, hs, Result.andThen]
  rw [run_store Tryz.prog W ⟨ta, 0, none⟩ _ _ (by rfl)]
  simp [t0, z0]
  rw [run_store Tryz.prog _ ⟨ta, 1, none⟩ _ _ (by rfl)]
  simp [t1, z1]
theorem fx23 (ta b : Nat) (x y x0 y0 : Int) (W : World) (T : TypeId) (hb : W.heap[b]? = some (.cells #[.int .i64 x, .int .i64 y] T (0, 0))) (ht : W.heap[ta]? = some (.cells #[.int .i64 x0, .int .i64 y0] FT (0, 0))) :
    (ReflectliteValue.set #[.agg #[hdl FT, .pointer (some ⟨ta, 0, none⟩), .int .u64 409], .agg #[hdl FT, .pointer (some ⟨b, 0, none⟩), .int .u64 153]]).run Tryz.prog W
      = .ok (.tuple #[]) ((W.setCell ⟨ta, 0, none⟩ (.int .i64 x)).setCell ⟨ta, 1, none⟩ (.int .i64 y)) := by
  have h1 := fx23a b x y W T hb
  have h2 := fx23b ta x y x0 y0 W ht
  rw [rls]
  simp only [Sem.run_bind, fx19, fx20, Result.andThen]
  simp [ReflectliteValue.flagAddr, h1, h2, Result.andThen, fx21]

/-- The four copies that errors.As makes. -/
def asW (w : World) (t : Nat) (x y : Int) : World := (((w.alloc (.cells #[.pointer (some ⟨t, 0, none⟩)] PT)).alloc (.cells #[hdl PT, .pointer (some ⟨w.heap.size, 0, none⟩), .int .u64 150] 90)).alloc (.cells #[hdl PT, .pointer (some ⟨w.heap.size, 0, none⟩), .int .u64 150] 90)).alloc (.cells #[.int .i64 x, .int .i64 y] FT)

set_option maxRecDepth 100000 in
set_option maxHeartbeats 4000000 in
theorem as_hit (t : Nat) (x y x0 y0 : Int) (w : World) (hg : w.cell? ⟨0, 0, none⟩ = some (rty 29)) (ht0 : w.heap[t]? = some (.cells #[.int .i64 x0, .int .i64 y0] FT (0, 0))) :
    Calls Tryz.prog 22 #[.iface FT (.agg #[.int .i64 x, .int .i64 y]), .iface PT (.pointer (some ⟨t, 0, none⟩))] w fun ev w' => ev = .returned (.bool true) ∧ w' = ((asW w t x y).setCell ⟨t, 0, none⟩ (.int .i64 x)).setCell ⟨t, 1, none⟩ (.int .i64 y) := by
  unfold asW
  have h6 := @run_callFunc_extern Tryz.prog 42 _ (fun args => ReflectliteValue.unpack (args.getD 0 (.tuple #[]))) Tryz.func42 (by kernel_rfl) (by kernel_rfl) (by kernel_rfl) (by kernel_rfl)
  have h7 := @run_callFunc_extern Tryz.prog 43 _ (ReflectliteValue.methodAny (ReflectliteValue.valueError "reflectlite.Value.Type" 0) (fun t _ _ _ => ReflectliteType.toType t)) Tryz.func43 (by kernel_rfl) (by kernel_rfl) (by kernel_rfl) (by kernel_rfl)
  have h8 := @run_callFunc_extern Tryz.prog 44 _ (ReflectliteValue.method (ReflectliteValue.valueError "reflectlite.Value.IsNil" 0) ReflectliteValue.isNil) Tryz.func44 (by kernel_rfl) (by kernel_rfl) (by kernel_rfl) (by kernel_rfl)
  have h27 := @run_callFunc_extern Tryz.prog 150 _ (ReflectliteType.abiMethod fun t => do pure (.int .u8 (← Rtype.kind t))) Tryz.func150 (by kernel_rfl) (by kernel_rfl) (by kernel_rfl) (by kernel_rfl)
  have h37 := @run_callFunc_extern Tryz.prog 162 _ (ReflectliteType.method ReflectliteType.elem) Tryz.func162 (by kernel_rfl) (by kernel_rfl) (by kernel_rfl) (by kernel_rfl)
  have h38 := @run_callFunc_extern Tryz.prog 163 _ (ReflectliteType.relation "Implements" ReflectliteType.implements_) Tryz.func163 (by kernel_rfl) (by kernel_rfl) (by kernel_rfl) (by kernel_rfl)
  have h10 := @run_callFunc_extern Tryz.prog 46 _ ReflectliteType.typeOf Tryz.func46 (by kernel_rfl) (by kernel_rfl) (by kernel_rfl) (by kernel_rfl)
  have h35 := @run_callFunc_extern Tryz.prog 160 _ (ReflectliteType.relation "AssignableTo" ReflectliteType.assignableTo) Tryz.func160 (by kernel_rfl) (by kernel_rfl) (by kernel_rfl) (by kernel_rfl)
  have h11 := @run_callFunc_extern Tryz.prog 71 _ (ReflectliteValue.method (ReflectliteValue.valueError "reflectlite.Value.Elem" 0) ReflectliteValue.elem) Tryz.func71 (by kernel_rfl) (by kernel_rfl) (by kernel_rfl) (by kernel_rfl)
  have h12 := @run_callFunc_extern Tryz.prog 72 _ ReflectliteValue.set Tryz.func72 (by kernel_rfl) (by kernel_rfl) (by kernel_rfl) (by kernel_rfl)
  have tO := fx13
  have mA := fx10
  have a25 := fx14
  have v25 := fx15
  have f6 := fx1
  have f7 := fx2
  have mK := fx3
  have mE := fx8
  have mI := fx9
  have k27 := fx4
  have k25 := fx5
  have e27 := fx11
  have i25 := fx12
  have n8 := fx7 ⟨w.heap.size, 0, none⟩ ⟨t, 0, none⟩ ((w.alloc (.cells #[.pointer (some ⟨t, 0, none⟩)] PT)).alloc (.cells #[hdl PT, .pointer (some ⟨w.heap.size, 0, none⟩), .int .u64 150] 90)) (by simp)
  have hlt : 0 < w.heap.size := by
    rcases Nat.eq_zero_or_pos w.heap.size with h0 | h
    · simp [World.cell?, h0] at hg
    · exact h
  have hg2 : ((w.alloc (.cells #[.pointer (some ⟨t, 0, none⟩)] PT)).alloc (.cells #[hdl PT, .pointer (some ⟨w.heap.size, 0, none⟩), .int .u64 150] 90)).cell? ⟨0, 0, none⟩ = some (rty 29) := by
    rw [World.cell?_alloc_lt _ _ ⟨0, 0, none⟩ (by simp), World.cell?_alloc_lt _ _ ⟨0, 0, none⟩ hlt]; exact hg
  have el := fx18 ⟨w.heap.size, 0, none⟩ ⟨t, 0, none⟩ (((w.alloc (.cells #[.pointer (some ⟨t, 0, none⟩)] PT)).alloc (.cells #[hdl PT, .pointer (some ⟨w.heap.size, 0, none⟩), .int .u64 150] 90)).alloc (.cells #[hdl PT, .pointer (some ⟨w.heap.size, 0, none⟩), .int .u64 150] 90)) (by rw [World.cell?_alloc_lt _ _ ⟨w.heap.size, 0, none⟩ (by simp; omega)]; simp)
  have st := fx23 t (w.heap.size + 1 + 1 + 1) x y x0 y0 ((((w.alloc (.cells #[.pointer (some ⟨t, 0, none⟩)] PT)).alloc (.cells #[hdl PT, .pointer (some ⟨w.heap.size, 0, none⟩), .int .u64 150] 90)).alloc (.cells #[hdl PT, .pointer (some ⟨w.heap.size, 0, none⟩), .int .u64 150] 90)).alloc (.cells #[.int .i64 x, .int .i64 y] FT)) FT
    (blk_new' (by simp) _ _) (blk_old (blk_old (blk_old (blk_old ht0))))
  go_enter Tryz.func22, Tryz.ntmps22
  go_wp2
  refine wp_loop_rounds 1 ?_
  rw [rounds_succ]
  go_wp2
  go_ret
  exact ⟨rfl, rfl⟩
end Go.Proofs.YtnlnejpioijkiaaGreatDoor
/- errors.Is at the program's faults; Told. -/
namespace Go.Proofs.YtnlnejpioijkiaaGreatDoor
open Go.RowKit
set_option linter.unusedVariables false
set_option linter.unusedSimpArgs false
open Go.Extern.Stop Go.Stop Go.Extern
theorem feq (x y : Int) (w : World) : (binOp .eql FT (.agg #[.int .i64 x, .int .i64 y]) (.agg #[.int .i64 x, .int .i64 y])).run Tryz.prog w = .ok (.bool true) w := by
  have u3 := Tryz.underlying3
  have a3 := Tryz.isAgg3
  have z3 := Tryz.sizeOf3
  have u31 := Tryz.underlying31
  have a31 := Tryz.isAgg31
  have z31 := Tryz.sizeOf31
  have hS : Program.underlying Tryz.prog FT = some (.struct (Program.fieldsOf Tryz.prog FT)) := by kernel_rfl
  have hp : Program.stoodInHeld Tryz.prog FT = false := by kernel_rfl
  rw [run_eql_struct, show (10000 : Nat) = 9999 + 1 from rfl, run_equalIn_agg w 9999 FT _ _ hS hp]
  simp only [Program.fieldsOf, Tryz.underlying36]
  go_simp
theorem tno (v : Value) (w : World) : (Instr.typeAssert (.iface FT v) 29 142 true).run Tryz.prog w = .ok (.tuple #[.nilIface, .bool false]) w := run_typeAssert_lacksB Tryz.underlying142 (by kernel_rfl) (by kernel_rfl) v 29 w
theorem eqa (v u : Value) (w : World) : (binOp .eql 29 (.iface FT v) (.iface 31 u)).run Tryz.prog w = .ok (.bool false) w := run_eql_iface_types _ _ _ _ Tryz.underlying29 (by decide) w
theorem eqb (x : Int) (w : World) : (binOp .eql 29 (.iface 31 (.int .i64 x)) (.iface 31 (.int .i64 x))).run Tryz.prog w = .ok (.bool true) w := by
  have h : (binOp .eql 29 (.iface 31 (.int .i64 x)) (.iface 31 (.int .i64 x))).run Tryz.prog w = .ok (.bool (x == x)) w := by kernel_rfl
  rw [h, beq_self_eq_true]
set_option maxRecDepth 100000 in
set_option maxHeartbeats 4000000 in
theorem is_hit (x y : Int) (w : World) :
    Calls Tryz.prog 23 #[.iface FT (.agg #[.int .i64 x, .int .i64 y]), .iface 31 (.int .i64 y)] w fun ev w' => ev = .returned (.bool true) ∧ Fr Non w w' := by
  have h10 := @run_callFunc_extern Tryz.prog 46 _ ReflectliteType.typeOf Tryz.func46 (by kernel_rfl) (by kernel_rfl) (by kernel_rfl) (by kernel_rfl)
  have h11 := @run_callFunc_extern Tryz.prog 161 _ (ReflectliteType.method (fun t => do Rtype.noPackHeld "Comparable" t; pure (.bool (← typeInfo t).comparable))) Tryz.func161 (by kernel_rfl) (by kernel_rfl) (by kernel_rfl) (by kernel_rfl)
  have tO := fx13e
  have mC := fx10c
  have cC : ∀ w : World, (ReflectliteType.method (fun t => do Rtype.noPackHeld "Comparable" t; (fun a => Value.bool a.comparable) <$> typeInfo t) #[.agg #[hdl 31]]).run Tryz.prog w = .ok (.bool true) w := fun w => by kernel_rfl
  have ta1 := tno
  have ea := eqa
  have eb := eqb
  have ta2 : ∀ w : World, (Instr.typeAssert (.iface FT (.agg #[.int .i64 x, .int .i64 y])) 29 137 true).run Tryz.prog w = .ok (.tuple #[.iface FT (.agg #[.int .i64 x, .int .i64 y]), .bool true]) w := fun w => by kernel_rfl
  have mU : ∀ (w : World), (Go.method 325 FT (.agg #[.int .i64 x, .int .i64 y]) "Unwrap").run Tryz.prog w = .ok (155, .agg #[.int .i64 x, .int .i64 y]) w := fun w => by kernel_rfl
  have mi : ∀ w : World, (Instr.makeInterface 31 (.int .i64 y)).run Tryz.prog w = .ok (.iface 31 (.int .i64 y)) w := fun w => by kernel_rfl
  go_enter Tryz.func23, Tryz.ntmps23
  go_wp2
  refine wp_loop_rounds 2 ?_
  rw [rounds_succ]
  go_wp2
  rw [rounds_succ]
  go_wp2
  go_ret
  exact ⟨rfl, (fr_refl w).alloc _⟩

/-- A fault as an error: nil where it is none. -/
def errV (r : Int × Int) : Value := if r.2 = 0 then .nilIface else faultV r.1 r.2

set_option maxRecDepth 100000 in
set_option maxHeartbeats 4000000 in
theorem told_any (r : Int × Int) (w : World) (hg : w.cell? ⟨0, 0, none⟩ = some (rty 29)) :
    Calls Tryz.prog 9 #[errV r, .agg #[.int .i64 r.1, .int .i64 r.2]] w fun ev w' => ev = .returned (.bool true) ∧ Fr Non w w' := by
  obtain ⟨x, y⟩ := r
  by_cases hy : y = 0
  · subst hy
    simp only [errV, if_true]
    go_enter Tryz.func9, Tryz.ntmps9
    go_wp2_with fail
    go_ret
    exact ⟨rfl, (fr_refl w).alloc _⟩
  · simp only [errV, if_neg hy, faultV]
    have hy' : (y == 0) = false := by simpa using hy
    obtain ⟨W1, HW1⟩ : ∃ W1, W1 = (w.alloc (.cells #[.int .i64 x, .int .i64 y] FT)).alloc (.cells #[.int .i64 0, .int .i64 0] FT) := ⟨_, rfl⟩
    have hf1 : Fr Non w W1 := by rw [HW1]; exact ((fr_refl w).alloc _).alloc _
    have hb0 : W1.heap[w.heap.size]? = some (.cells #[.int .i64 x, .int .i64 y] FT (0, 0)) := by rw [HW1]; exact blk_old (blk_new _ _ _)
    have hb1 : W1.heap[w.heap.size + 1]? = some (.cells #[.int .i64 0, .int .i64 0] FT (0, 0)) := by rw [HW1]; exact blk_new' (by simp) _ _
    have hg1 := hf1.cell' hg (non _)
    have HAS := Lib.hid (as_hit (w.heap.size + 1) x y 0 0 W1 hg1 hb1)
    have HB0 := Lib.hid hb0; clear hb0
    have HB1 := Lib.hid hb1; clear hb1
    have HF1 := Lib.hid hf1; clear hf1 hg hg1
    have hfe := feq
    go_enter Tryz.func9, Tryz.ntmps9
    go_upto_region 4 with fail
    rw [show ((w.alloc (.cells #[.int .i64 x, .int .i64 y] 36)).alloc (.cells #[.int .i64 0, .int .i64 0] 36)) = W1 from HW1.symm]
    clear HW1
    go_wp2_with fail
    refine HAS.out.mono ?_
    rintro e w2 ⟨rfl, hw2⟩
    have hfa : Fr (fun k => k = w.heap.size + 1) W1 (asW W1 (w.heap.size + 1) x y) := by unfold asW; exact (((((Fr.refl _ W1).alloc _).alloc _).alloc _).alloc _)
    have hf2 : Fr (fun k => k = w.heap.size + 1) W1 w2 := by rw [hw2]; exact (hfa.setCell _ _ (.inl rfl)).setCell _ _ (.inl rfl)
    have hb2 : w2.heap[w.heap.size + 1]? = some (.cells #[.int .i64 x, .int .i64 y] FT (0, 0)) := by
      rw [hw2]
      have h0 : (asW W1 (w.heap.size + 1) x y).heap[w.heap.size + 1]? = some (.cells #[.int .i64 0, .int .i64 0] FT (0, 0)) := by unfold asW; exact blk_old (blk_old (blk_old (blk_old HB1.out)))
      have := blk_set (blk_set h0 0 (.int .i64 x)) 1 (.int .i64 y)
      simpa using this
    have hb3 := blk_fr HB0.out hf2 (by omega)
    have HF2 := Lib.hid (show Fr Non w w2 from HF1.out.then hf2 fun k hk e => by omega)
    clear hf2 hfa hw2
    have c0 := (cells_of hb2).1 0 _ rfl
    have c1 := (cells_of hb2).1 1 _ rfl
    have d0 := (cells_of hb3).1 0 _ rfl
    have d1 := (cells_of hb3).1 1 _ rfl
    clear hb2 hb3
    go_wp2_with fail
    refine (is_hit x y w2).mono ?_
    rintro e w3 ⟨rfl, hf3⟩
    go_wp2_with fail
    go_ret
    exact ⟨rfl, HF2.out.trans hf3⟩
end Go.Proofs.YtnlnejpioijkiaaGreatDoor
/- Contract of sacristylaw10.alive: it answers true wherever the type's handle stands. -/
namespace Go.Proofs.YtnlnejpioijkiaaGreatDoor
open Go.RowKit
set_option linter.unusedVariables false
set_option linter.unusedSimpArgs false
theorem eq_nil (w : World) : (binOp .eql 29 .nilIface .nilIface).run Tryz.prog w = .ok (.bool true) w := by kernel_rfl

set_option maxRecDepth 100000 in
set_option maxHeartbeats 8000000 in
theorem alive_any (w : World) (hg : w.cell? ⟨0, 0, none⟩ = some (rty 29)) : Calls Tryz.prog 5 #[] w fun e w' => e = .returned (.bool true) ∧ Fr Non w w' := by
  have hq1 := Lib.hid (fun w => parsed_any alT_a alF_a w alP_a)
  have hq2 := Lib.hid (fun w => parsed_any alT_b alF_b w alP_b)
  have hq3 := Lib.hid (fun w => parsed_any alT_c alF_c w alP_c)
  have hq4 := Lib.hid (fun w => parsed_any alT_d alF_d w alP_d)
  have een := eq_nil
  simp only [alT_a, alT_b, alT_c, alT_d] at hq1 hq2 hq3 hq4
  have HG := Lib.hid hg; clear hg
  go_enter Tryz.func5, Tryz.ntmps5
  go_wp2_with fail
  refine (hq1.out _).mono ?_
  rintro e w1 ⟨A1, c1, rfl, hc1, hf1, hr1⟩
  have F1 := Lib.hid hf1
  have S1 := Lib.hid (scheck_any [alF_a] _ A1 c1 w1 hr1 (by unfold reach; simp) hc1 (by have := alZ_a; omega) fun q hq => hq.2)
  rw [alC_a] at S1
  clear hf1 hr1 hq1
  go_wp2_with fail
  refine S1.out.mono ?_
  rintro e w2 ⟨rfl, hf2⟩
  have F2 := Lib.hid (F1.out.trans hf2); clear hf2 F1 S1
  go_wp2_with fail
  refine (hq2.out _).mono ?_
  rintro e w3 ⟨A2, c2, rfl, hc2, hf3, hr3⟩
  have F3 := Lib.hid (F2.out.trans hf3)
  have S3 := Lib.hid (scheck_any [alF_b] _ A2 c2 w3 hr3 (by unfold reach; simp) hc2 (by have := alZ_b; omega) fun q hq => hq.2)
  rw [alC_b] at S3
  clear hf3 hr3 hq2 F2
  go_wp2_with fail
  refine S3.out.mono ?_
  rintro e w4 ⟨rfl, hf4⟩
  have F4 := Lib.hid (F3.out.trans hf4); clear hf4 F3 S3
  go_wp2_with fail
  refine (hq3.out _).mono ?_
  rintro e w5 ⟨A3, c3, rfl, hc3, hf5, hr5⟩
  have F5 := Lib.hid (F4.out.trans hf5)
  have S5 := Lib.hid (scheck_any [alF_c] _ A3 c3 w5 hr5 (by unfold reach; simp) hc3 (by have := alZ_c; omega) fun q hq => hq.2)
  rw [alC_c] at S5
  clear hf5 hr5 hq3 F4
  go_wp2_with fail
  refine S5.out.mono ?_
  rintro e w6 ⟨rfl, hf6⟩
  have F6 := Lib.hid (F5.out.trans hf6); clear hf6 F5 S5
  go_wp2_with fail
  refine (hq4.out _).mono ?_
  rintro e w7 ⟨A4, c4, rfl, hc4, hf7, hr7⟩
  have F7 := Lib.hid (F6.out.trans hf7); clear F6 hq4 hf7
  obtain ⟨W8, HW8⟩ : ∃ W8, W8 = w7.alloc (.cells #[.slice A4 1 c4] 24) := ⟨_, rfl⟩
  have hf8 : Fr Non w7 W8 := by rw [HW8]; exact (fr_refl w7).alloc _
  have R8 := Lib.hid (show W8.heap[w7.heap.size]? = some (.cells #[.slice A4 1 c4] 24 (0, 0)) by rw [HW8]; exact blk_new _ _ _)
  have D8 := Lib.hid (hr7.fr hf8 (fun _ _ => non _) fun _ h => h)
  have F8 := Lib.hid (F7.out.trans hf8)
  have hok : ∀ q, New w6.heap.size w7 q → q < w7.heap.size := fun q hq => hq.2
  have I8 := Lib.hid (sItems_any [alF_d] _ A4 c4 W8 D8.out (by unfold reach; simp) (by have := alZ_d; omega))
  rw [alM_d, alI_d] at I8
  simp only [if_true] at I8
  have hz8 := hf8.size
  clear hf8 hr7 F7
  go_upto_region 5 with fail
  rw [← HW8]; clear HW8
  have x8 := (cells_of R8.out).1 0 _ rfl
  go_wp2_with fail
  refine I8.out.mono ?_
  rintro e w9 ⟨rfl, hf9⟩
  have F9 := Lib.hid (F8.out.trans hf9)
  have R9 := Lib.hid (blk_fr R8.out hf9 (non _))
  have D9 := Lib.hid (D8.out.fr hf9 (fun _ _ => non _) fun _ h => h)
  have hz9 := hf9.size
  clear hf9 I8 F8 D8 R8 x8
  go_wp2_with fail
  have T9 := Lib.hid (told_any (1, 3) w9 (F9.out.cell' HG.out (non _)))
  rw [show errV (1, 3) = faultV 1 3 from rfl] at T9
  refine T9.out.mono ?_
  rintro e w10 ⟨rfl, hf10⟩
  have F10 := Lib.hid (F9.out.trans hf10)
  have R10 := Lib.hid (blk_fr R9.out hf10 (non _))
  have D10 := Lib.hid (D9.out.fr hf10 (fun _ _ => non _) fun _ h => h)
  have hz10 := hf10.size
  clear hf10 T9 F9 D9 R9
  go_wp2_with fail
  have T10 := Lib.hid (told_any (3, 9) w10 (F10.out.cell' HG.out (non _)))
  rw [show errV (3, 9) = faultV 3 9 from rfl] at T10
  refine T10.out.mono ?_
  rintro e w11 ⟨rfl, hf11⟩
  have F11 := Lib.hid (F10.out.trans hf11)
  have R11 := Lib.hid (blk_fr R10.out hf11 (non _))
  have D11 := Lib.hid (D10.out.fr hf11 (fun _ _ => non _) fun _ h => h)
  have hz11 := hf11.size
  clear hf11 T10 F10 D10 R10
  go_wp2_with fail
  have T11 := Lib.hid (told_any (3, 3) w11 (F11.out.cell' HG.out (non _)))
  rw [show errV (3, 3) = faultV 3 3 from rfl] at T11
  refine T11.out.mono ?_
  rintro e w12 ⟨rfl, hf12⟩
  have F12 := Lib.hid (F11.out.trans hf12)
  have R12 := Lib.hid (blk_fr R11.out hf12 (non _))
  have D12 := Lib.hid (D11.out.fr hf12 (fun _ _ => non _) fun _ h => h)
  have hz12 := hf12.size
  clear hf12 T11 F11 D11 R11
  have x12 := (cells_of R12.out).1 0 _ rfl
  go_wp2_with fail
  have S12 := Lib.hid (scheck_any [alF_d] _ A4 c4 w12 D12.out (by unfold reach; simp) hc4 (by have := alZ_d; omega) fun q hq => by have := hok q hq; omega)
  rw [alC_d] at S12
  refine S12.out.mono ?_
  rintro e w13 ⟨rfl, hf13⟩
  have F13 := Lib.hid (F12.out.trans hf13)
  clear hf13
  go_wp2_with fail
  go_ret
  exact ⟨rfl, F13.out⟩
end Go.Proofs.YtnlnejpioijkiaaGreatDoor
/- Contracts of the laws' bounds: sacristylaw07.Large. -/
namespace Go.Proofs.YtnlnejpioijkiaaGreatDoor
open Go.RowKit
set_option linter.unusedVariables false
set_option linter.unusedSimpArgs false
theorem Chunks.at {ok : Nat → Prop} {w : World} {sz : Nat} : ∀ {l : List (List D)} {xs : List Value} (k : Nat) (hk : k < l.length), Chunks ok w sz l xs → ∃ us, RdL ok w l[k] us ∧ us.length = sz ∧ ∀ i u, us[i]? = some u → xs[k * sz + i]? = some u
  | ds :: l, _, 0, _, ⟨us, r, rfl, h1, h2, h3, h4⟩ => ⟨us, h3, h1, fun i u h => by
      rw [Nat.zero_mul, Nat.zero_add, List.getElem?_append_left (by have := (List.getElem?_eq_some_iff.1 h).1; exact this)]; exact h⟩
  | ds :: l, _, k + 1, hk, ⟨us, r, rfl, h1, h2, h3, h4⟩ => by
    obtain ⟨vs, g1, g2, g3⟩ := Chunks.at k (by simpa using hk) h4
    refine ⟨vs, by simpa using g1, g2, fun i u h => ?_⟩
    rw [List.getElem?_append_right (by rw [h1, Nat.succ_mul]; omega), h1]
    rw [show (k + 1) * sz + i - sz = k * sz + i by rw [Nat.succ_mul]; omega]
    exact g3 i u h
/-- One element of an own row: its cells, what it leads to. -/
theorem OwnX.at {ok : Nat → Prop} {base : Nat} {e : TypeId} {sz : Nat} {w : World} {A : Option Addr} {c n : Nat} {l : List (List D)} (h : OwnX ok base e sz w (.slice A n c) l) (k : Nat) (hk : k < l.length) :
    ∃ g us, A = some ⟨g, 0, none⟩ ∧ base ≤ g ∧ RdL ok w l[k] us ∧ ∀ i u, us[i]? = some u → w.cell? ⟨g, k * sz + i, none⟩ = some u := by
  obtain ⟨xs, h1, h2⟩ := h
  obtain ⟨us, g1, g2, g3⟩ := Chunks.at k hk h2
  have h1' := h1
  obtain ⟨_, h3⟩ := h1
  rcases h3 with ⟨hv, h3⟩ | ⟨g, cap, cur, hv, hb, hh, _⟩
  · omega
  · obtain ⟨rfl, rfl, rfl⟩ : A = some ⟨g, 0, none⟩ ∧ n = l.length ∧ c = cap := by cases hv; exact ⟨rfl, rfl, rfl⟩
    refine ⟨g, us, rfl, hb, g1, fun i u hu => ?_⟩
    have := h1'.cells (g := g) rfl (k * sz + i) u (g3 i u hu)
    simpa [Addr.add_lit] using this
theorem own_new {ok : Nat → Prop} {base : Nat} {e : TypeId} {sz g : Nat} {w : World} {cur : Array Value} {ds : List D} (hb : base ≤ g) (hh : w.heap[g]? = some (.cells cur e (0, 0))) (hs : cur.size = sz) (hd : ds.length = sz) (hr : RdL ok w ds cur.toList) :
    OwnX ok base e sz w (.slice (some ⟨g, 0, none⟩) 1 1) [ds] :=
  ⟨cur.toList, ⟨by simp [hs], .inr ⟨g, 1, cur, rfl, hb, hh, Nat.le_refl _, by decide, by simp [hs], by rw [List.length_singleton, Nat.one_mul]; exact List.take_of_length_le (by simp [hs])⟩⟩, cur.toList, [], by simp, by simp [hs], hd, hr, rfl⟩

theorem Ex.ds_append (l r : List Ex) : Ex.ds (l ++ r) = Ex.ds l ++ Ex.ds r := by rw [Ex.ds_eq, Ex.ds_eq, Ex.ds_eq, List.map_append]
/-- Some answer. -/
def SomeB (e : Ending) : Prop := ∃ b, e = .returned (.bool b)
theorem someB {b : Bool} {v : Value} (h : v = .bool b) : SomeB (.returned v) := ⟨b, by rw [h]⟩

set_option maxRecDepth 100000 in
set_option maxHeartbeats 4000000 in
theorem large07_any (e : Ex) (ok : Nat → Prop) (A : Option Addr) (c : Nat) (w : World) (hr : RdRows ok w 5 A 0 (Ex.ds e.kids)) (h1 : e.kids.length ≤ c) (h2 : e.kids.length * 64 ≤ reach) (hok : ∀ q, ok q → q < w.heap.size) :
   Calls Tryz.prog 14 #[exV e.kind e.num e.name e.op A e.kids.length c] w fun r w' => SomeB r ∧ Fr Non w w' := by
  have HOK := Lib.hid hok; clear hok
  obtain ⟨W1, HW1⟩ : ∃ W1, W1 = (w.alloc (.cells #[vu8 e.kind, vu64 e.num, .string e.name, vu8 e.op, .slice A e.kids.length c] 48)).alloc (.cells #[vu8 e.kind, vu64 e.num, .string e.name, vu8 e.op, .slice A e.kids.length c] 48) := ⟨_, rfl⟩
  have hf1 : Fr Non w W1 := by rw [HW1]; exact ((fr_refl w).alloc _).alloc _
  have hb1 : W1.heap[w.heap.size + 1]? = some (.cells #[vu8 e.kind, vu64 e.num, .string e.name, vu8 e.op, .slice A e.kids.length c] 48 (0, 0)) := by rw [HW1]; exact blk_new' (by simp) _ _
  have HOW := Lib.hid (own_new (ok := ok) (base := w.heap.size) (ds := e.d) (sz := 5) (by omega) hb1 rfl (by cases e; rfl) (by
    have hr1 := hr.fr hf1 (fun _ _ => non _) (fun _ h => h)
    cases e with
    | mk k n s o l =>
      have hlen : (Ex.ds l).length = l.length := by rw [Ex.ds_eq, List.length_map]
      refine ⟨_, _, rfl, rfl, _, _, rfl, rfl, _, _, rfl, rfl, _, _, rfl, rfl, _, _, rfl, ⟨A, c, ?_, ?_, ?_, hr1⟩, rfl⟩
      · show Value.slice A l.length c = _; rw [hlen]
      · rw [hlen]; exact h1
      · rw [hlen]; exact h2))
  have HF1 := Lib.hid hf1; clear hf1 hb1 hr h1 h2
  go_enter Tryz.func14, Tryz.ntmps14
  go_upto_region 2 with fail
  rw [show ((w.alloc (.cells #[vu8 e.kind, vu64 e.num, .string e.name, vu8 e.op, .slice A e.kids.length c] 48)).alloc (.cells #[vu8 e.kind, vu64 e.num, .string e.name, vu8 e.op, .slice A e.kids.length c] 48)) = W1 from HW1.symm]
  clear HW1
  go_wp2_with fail
  go_loopw [3, 4, 5] (fun v t i wr => ∃ (l : List Ex) (j : Nat) (n : Int), i = .int .i64 j ∧ t = .int .i64 n ∧ j ≤ l.length ∧ l.length ≤ 2000 ∧ OwnX ok w.heap.size 48 5 wr v (Ex.ds l) ∧ Fr Non w wr) (fun _ _ i _ => 2001 - (intOf i).toNat)
  case atStart => exact ⟨[e], 0, 0, rfl, rfl, by simp, by simp, HOW.out, HF1.out⟩
  case round =>
    obtain ⟨l, j, n, rfl, rfl, hj, hl2, how, hfr⟩ := hrel
    obtain ⟨A1, c1, hv, hc1⟩ := how.slice
    rw [Ex.ds_length] at hv hc1
    subst hv
    have HOX := Lib.hid how
    by_cases hlt : j < l.length
    · obtain ⟨g, us, rfl, hg, hrd, hce⟩ := how.at j (by rw [Ex.ds_length]; exact hlt)
      have hd : (Ex.ds l)[j]'(by rw [Ex.ds_length]; exact hlt) = l[j].d := by simp [Ex.ds_eq]
      rw [hd] at hrd
      have HX := Lib.hid (take_snoc l j hlt)
      generalize l[j] = x at *
      obtain ⟨xk, xn, xs, xo, xl⟩ := x
      obtain ⟨_, _, rfl, rfl, _, _, rfl, rfl, _, _, rfl, rfl, _, _, rfl, rfl, _, _, rfl, ⟨A2, c2, rfl, hk1, hk2, hk3⟩, rfl⟩ := hrd
      have e2 := hce 2 _ rfl
      have e4 := hce 4 _ rfl
      rw [Ex.ds_length] at e4 hk1 hk2
      have hl9 : xl.length ≤ 140737488355328 := by unfold reach at hk2; omega
      clear hce how
      have HK3 := Lib.hid hk3; clear hk3
      have HF := Lib.hid hfr; clear hfr
      go_upto_region 9 with fail
      all_goals try (go_ret; exact ⟨someB rfl, HF.out⟩)
      · rename_i hA hB
        have hsum : l.length + xl.length ≤ 2000 := by omega
        have HSUM := Lib.hid hsum; clear hsum hA hB
        go_wp2_with (at_builtin; (refine appX_ex rfl _ _ rfl ok w.heap.size (.slice (some ⟨g, 0, none⟩) l.length c1) (Ex.ds l) rfl HOX.out HOK.out A2 c2 (Ex.ds xl) (by rw [Ex.ds_length]; rfl) HK3.out (one_exs _) ?b1 ?b2 ?b3 ?k))
        case b1 => rw [Ex.ds_length, Ex.ds_length]; have := HSUM.out; unfold maxLen; omega
        case b2 => rw [Ex.ds_length, Ex.ds_length]; have := HSUM.out; omega
        case b3 => exact HF.out.size
        case k =>
        intro v3 w3 hown3 hf3
        rw [← Ex.ds_append] at hown3
        have HF3 := Lib.hid (HF.out.then hf3 fun k hk h => by omega)
        have HO3 := Lib.hid hown3; clear hown3 hf3
        go_wp2_with fail
        go_roundw
        case rel => exact ⟨l ++ xl, j + 1, _, by go_num, rfl, by rw [List.length_append]; omega, by rw [List.length_append]; exact HSUM.out, HO3.out, HF3.out⟩
        case measure => simp [intOf]; omega
    · go_wp2_with fail
      go_ret
      exact ⟨someB rfl, hfr⟩
end Go.Proofs.YtnlnejpioijkiaaGreatDoor
/- Contracts of the laws' bounds: sacristylaw08.Large. -/
namespace Go.Proofs.YtnlnejpioijkiaaGreatDoor
open Go.RowKit
set_option linter.unusedVariables false
set_option linter.unusedSimpArgs false
/-- What append(own, row...) comes to, as an equation of its run. -/
theorem appR_of {t e : TypeId} {z : Value} {size bytes : Nat} (ht : Tryz.prog.underlying t = some (.slice e)) (hi : (Tryz.prog.info? e).map (fun i => (i.zero, i.size, i.bytes)) = some (some z, size, bytes)) (hzs : z.cells.size = size) (hsz : 0 < size) (ty : TypeId)
    (ok : Nat → Prop) (base : Nat) (v : Value) (w : World) (l : List (List D)) (hown : OwnX ok base e size w v l) (hokb : ∀ k, ok k → k < base) (A : Option Addr) (c : Nat) (l' : List (List D)) (hrd : RdRows ok w size A 0 l') (hone : ∀ ds ∈ l', ∀ d ∈ ds, d.one)
    (h63 : l.length + l'.length ≤ maxLen) (hbytes : ((l.length + l'.length) + (l.length + l'.length) / 4 + 192) * bytes ≤ 281474976710656) (hbase : base ≤ w.heap.size) :
    ∃ v' w', (Builtin.append_ #[t, t] ty #[v, .slice A l'.length c]).run Tryz.prog w = .ok v' w' ∧ OwnX ok base e size w' v' (l ++ l') ∧ Fr (fun k => base ≤ k ∧ v.ownBlock = some k) w w' := by
  obtain ⟨i0, h0, h1, h2, h3⟩ := info_parts hi
  obtain ⟨xs, hrow, hcs⟩ := hown
  cases A with
  | some ad =>
    obtain ⟨us, hch, hce⟩ : ∃ us, Chunks ok w size l' us ∧ ∀ j u, us[j]? = some u → w.cell? (ad.add j) = some u := by
      by_cases hne : l' = []
      · subst hne; exact ⟨[], rfl, fun j u hu => by simp at hu⟩
      · obtain ⟨ad', us, e, g1, g2⟩ := hrd.src hne
        cases e; exact ⟨us, g1, g2⟩
    obtain ⟨v', w', hr, hrow', hg, hwh⟩ := run_append_where (P := Tryz.prog) w base t ty e i0 z size bytes ht h0 h1 h2 h3 hzs hsz v l.length xs hrow ad l'.length c us hch.length hce (hch.ones hone) h63 hbytes hbase
    have hfr : Fr (fun k => base ≤ k ∧ v.ownBlock = some k) w w' := ⟨hg.os, hg.tape, hg.output, hg.size, fun k hk hn => hg.block k hk fun e => hn ⟨(hrow.lt k e.symm).1, e.symm⟩⟩
    have key : ∀ b o u, ok b → w.cell? ⟨b, o, none⟩ = some u → w'.cell? ⟨b, o, none⟩ = some u := fun b o u hb hc => hfr.cell' hc fun hx => by have h8 := hokb b hb; have h9 : base ≤ b := hx.1; omega
    exact ⟨v', w', hr, ⟨xs ++ us, by rw [List.length_append]; exact hrow', Chunks.append (hch.mono key fun _ h => h) (hcs.mono key fun _ h => h)⟩, hfr⟩
  | none =>
    have hne : l' = [] := by
      cases l' with
      | nil => rfl
      | cons ds l' => obtain ⟨⟨b, o, e, _⟩, _⟩ := hrd; cases e
    subst hne
    have hr : (Builtin.append_ #[t, t] ty #[v, .slice none ([] : List (List D)).length c]).run Tryz.prog w = .ok v w := by
      rcases hrow.2 with ⟨rfl, h9⟩ | ⟨g, cap, cur, rfl, _, _, hnc, _⟩
      · simp [Builtin.append_, run_underlying ht, sizeOf, typeInfo, h0, Builtin.lenOf, Builtin.firstCells]
      · simp [Builtin.append_, run_underlying ht, sizeOf, typeInfo, h0, Builtin.lenOf, Builtin.firstCells, hnc, storeCells]
    exact ⟨v, w, hr, by rw [List.append_nil]; exact ⟨xs, hrow, hcs⟩, Fr.refl _ _⟩
theorem appR_st (ok : Nat → Prop) (base : Nat) (v : Value) (w : World) (l : List St) (hown : OwnX ok base 53 9 w v (St.ds l)) (hokb : ∀ k, ok k → k < base) (A : Option Addr) (c : Nat) (l' : List St) (hrd : RdRows ok w 9 A 0 (St.ds l'))
    (hl : l.length ≤ 900) (hq : l'.length * 144 ≤ reach) (hbase : base ≤ w.heap.size) :
    ∃ A' c' w', (Builtin.append_ #[40, 40] 40 #[v, .slice A l'.length c]).run Tryz.prog w = .ok (.slice A' (l ++ l').length c') w' ∧ OwnX ok base 53 9 w' (.slice A' (l ++ l').length c') (St.ds (l ++ l')) ∧ Fr (fun k => base ≤ k ∧ v.ownBlock = some k) w w' := by
  have h1 : (St.ds l).length = l.length := by rw [St.ds_eq, List.length_map]
  have h2 : (St.ds l').length = l'.length := by rw [St.ds_eq, List.length_map]
  have h3 : St.ds l ++ St.ds l' = St.ds (l ++ l') := by rw [St.ds_eq, St.ds_eq, St.ds_eq, List.map_append]
  have h4 : (St.ds (l ++ l')).length = (l ++ l').length := by rw [St.ds_eq, List.length_map]
  obtain ⟨v', w', g1, g2, g3⟩ := appR_of (z := stZ) (t := 40) (e := 53) (size := 9) (bytes := 144) (by kernel_rfl) (by kernel_rfl) rfl (by decide) 40 ok base v w (St.ds l) hown hokb A c (St.ds l') hrd (one_sts _) (by rw [h1, h2]; unfold reach at hq; unfold maxLen; omega) (by rw [h1, h2]; unfold reach at hq; omega) hbase
  rw [h2] at g1
  rw [h3] at g2
  obtain ⟨A', c', rfl, _⟩ := g2.slice
  rw [h4] at g1 g2
  exact ⟨A', c', w', g1, g2, g3⟩

theorem inner_append (l r : List St) : inner (l ++ r) = inner l + inner r := by simp [inner]
theorem inner_drop (l : List St) (j : Nat) (h : j < l.length) : inner (l.drop j) = (St.sizes l[j].body + St.sizes l[j].els) + inner (l.drop (j + 1)) := by
  rw [List.drop_eq_getElem_cons h, inner, List.map_cons, List.sum_cons]; rfl
theorem sizes_append (l r : List St) : St.sizes (l ++ r) = St.sizes l + St.sizes r := by rw [← inner_all, ← inner_all l, ← inner_all r, inner_append, List.length_append]; omega
/-- The worklist's law: what is still to come, counted. -/
theorem work_step (l : List St) (j : Nat) (h : j < l.length) : (l ++ l[j].body ++ l[j].els).length + inner ((l ++ l[j].body ++ l[j].els).drop (j + 1)) = l.length + inner (l.drop j) := by
  rw [inner_drop l j h, List.append_assoc, List.drop_append_of_le_length (by omega), inner_append, inner_append, List.length_append, List.length_append, ← inner_all l[j].body, ← inner_all l[j].els]
  omega
theorem fsizes_top (P : List Fu) : ∀ j, St.sizes ((P.take j).flatMap fun f => f.body) = Fu.sizes (P.take j) := by
  intro j
  generalize P.take j = l
  induction l with
  | nil => rfl
  | cons f l ih => simp only [List.flatMap_cons, Fu.sizes, Fu.size] at ih ⊢; rw [sizes_append, ih]

theorem OwnX.lt {ok : Nat → Prop} {base : Nat} {e : TypeId} {sz : Nat} {w : World} {v : Value} {l : List (List D)} (h : OwnX ok base e sz w v l) (k : Nat) (hk : v.ownBlock = some k) : k < w.heap.size := by
  obtain ⟨xs, h1, _⟩ := h
  exact (h1.lt k hk).2
theorem app_step {P : Program} {ops : Array Oper} {o : Oper} {a : Act} {K : Act → World → Prop} {Q : Exit → Act → World → Prop} {w w' : World} {t : TypeId} {v u v' : Value} (hgd : o.guard = none) (s x : Operand)
    (ho : o.op = .call { callee := .builtin .append, args := #[s, x], argTypes := #[t, t] }) (hs : a.eval s = v) (hx : a.eval x = u) (hr : (Builtin.append_ #[t, t] o.type #[v, u]).run P w = .ok v' w')
    (h : K (a.put o.dst v') w') : if Region.wanted o (yielded ops a.tmps) = true then Oper.wp P o a w K Q else K (a.put o.dst undef) w := by
  rw [if_pos (by simp [Region.wanted, hgd])]
  unfold Oper.wp execOp
  simp only [ho, resolve, invoke, builtin, Sem.run_bind, Sem.run_pure, Result.andThen_ok, List.map_toArray, List.map_cons, List.map_nil, hs, hx, hr]
  exact h
/-- What Large tells, if it says no. -/
def LargeR (P : List Fu) (e : Ending) : Prop := ∃ b, e = .returned (.bool b) ∧ (b = false → P.length ≤ 30 ∧ Fu.sizes P ≤ 900)
theorem largeT {P : List Fu} {v : Value} (h : v = .bool true) : LargeR P (.returned v) := ⟨true, by rw [h], fun h => by cases h⟩
theorem largeB {P : List Fu} {b : Bool} {v : Value} (h : v = .bool b) (hb : b = false → P.length ≤ 30 ∧ Fu.sizes P ≤ 900) : LargeR P (.returned v) := ⟨b, by rw [h], hb⟩

set_option maxRecDepth 100000 in
set_option maxHeartbeats 4000000 in
theorem large08_any (P : List Fu) (ok : Nat → Prop) (A : Option Addr) (c : Nat) (w : World) (hr : RdRows ok w 5 A 0 (P.map Fu.d)) (hc : P.length * 96 ≤ reach) (hok : ∀ q, ok q → q < w.heap.size) :
   Calls Tryz.prog 4 #[.agg #[.slice A P.length c]] w fun e w' => LargeR P e ∧ Fr Non w w' := by
  have hlen : P.length ≤ 140737488355328 := by unfold reach at hc; omega
  have HOK := Lib.hid hok; clear hok
  obtain ⟨W1, HW1⟩ : ∃ W1, W1 = w.alloc (.cells #[.slice A P.length c] 24) := ⟨_, rfl⟩
  have hf1 : Fr Non w W1 := by rw [HW1]; exact (fr_refl w).alloc _
  have hb1 : W1.heap[w.heap.size]? = some (.cells #[.slice A P.length c] 24 (0, 0)) := by rw [HW1]; exact blk_new _ _ _
  have hzW : W1.heap.size = w.heap.size + 1 := by rw [HW1]; simp
  have HR := Lib.hid (hr.fr hf1 (fun _ _ => non _) (fun _ h => h)); clear hr
  have HF1 := Lib.hid hf1; clear hf1
  have HB1 := Lib.hid hb1; clear hb1
  go_enter Tryz.func4, Tryz.ntmps4
  go_upto_region 1 with fail
  rw [← HW1]; clear HW1
  go_upto_block 0 with fail
  go_cut [3, 4, 5] (fun v3 v4 v5 wx => ∃ (R : List St) (n : Int), v3 = .int .i64 n ∧ R.length ≤ 900 ∧ (P.length ≤ 30 → St.sizes R = Fu.sizes P) ∧ OwnX ok (w.heap.size + 1) 53 9 wx v4 (St.ds R) ∧ Fr Non W1 wx)
  case first =>
    have hz1 : w.heap.size < W1.heap.size := blk_lt HB1.out
    go_wp2_with fail
    go_loopw [3, 4, 5] (fun t v i wr => ∃ (j : Nat) (n : Int), i = .int .i64 j ∧ t = .int .i64 n ∧ j ≤ P.length ∧ j ≤ 40 ∧ ((P.take j).flatMap fun f => f.body).length ≤ 900 ∧ OwnX ok (w.heap.size + 1) 53 9 wr v (St.ds ((P.take j).flatMap fun f => f.body)) ∧ Fr Non W1 wr) (fun _ _ i _ => P.length - (intOf i).toNat)
    case atStart => exact ⟨0, 0, rfl, rfl, by omega, by omega, by simp, OwnX.nil _ _ _ _ _, fr_refl _⟩
    case round =>
      obtain ⟨j, n, rfl, rfl, hj, hj4, hl9, how, hfr⟩ := hrel
      have g0 := hfr.cell' ((cells_of HB1.out).1 0 _ rfl) (non _)
      have HTF := Lib.hid (fsizes_top P j)
      by_cases hlt : j < P.length
      · by_cases h40 : j < 40
        · obtain ⟨b, o1, A1, c1, A2, c2, A3, c3, rfl, hb, e0, e1, e2, e3, e4, ⟨p1, q1, r1⟩, ⟨p2, q2, r2⟩, ⟨p3, q3, r3⟩⟩ := at_fu (HR.out.fr hfr (fun _ _ => non _) (fun _ h => h)) j hlt
          have HTS := Lib.hid (take_snoc P j hlt)
          have hl1 : P[j].params.length ≤ 140737488355328 := by unfold reach at q1; omega
          have hl2 : P[j].body.length ≤ 140737488355328 := by unfold reach at q2; omega
          have hl3 : P[j].ret.length ≤ 140737488355328 := by unfold reach at q3; omega
          generalize hf : P[j] = f at *
          clear hf
          go_upto_region 8 with fail
          obtain ⟨W2, HW2⟩ : ∃ W2, W2 = wr.alloc (.cells #[.string f.name, .slice A1 f.params.length c1, .slice A2 f.body.length c2, .bool f.sec, .slice A3 f.ret.length c3] 44) := ⟨_, rfl⟩
          rw [← HW2]
          have hf2 : Fr Non wr W2 := by rw [HW2]; exact (fr_refl wr).alloc _
          have hbx : W2.heap[wr.heap.size]? = some (.cells #[.string f.name, .slice A1 f.params.length c1, .slice A2 f.body.length c2, .bool f.sec, .slice A3 f.ret.length c3] 44 (0, 0)) := by rw [HW2]; exact blk_new _ _ _
          clear HW2
          have x2 := (cells_of hbx).1 2 _ rfl
          have hzr : W1.heap.size ≤ wr.heap.size := hfr.size
          have hz2 := hf2.size
          have HBX := Lib.hid hbx; clear hbx
          have HR1 := Lib.hid (r1.fr hf2 (fun _ _ => non _) (fun _ h => h)); clear r1
          have HR2 := Lib.hid (r2.fr hf2 (fun _ _ => non _) (fun _ h => h)); clear r2
          have HR3 := Lib.hid (r3.fr hf2 (fun _ _ => non _) (fun _ h => h)); clear r3
          have HOW := Lib.hid (how.fr hf2 (fun k _ => non k) (fun k _ => non k))
          have HLT := Lib.hid how.lt; clear how
          have HF2 := Lib.hid (hfr.trans hf2); clear hfr hf2 g0 e0 e1 e2 e3 e4
          have hdl : (St.ds f.body).length = f.body.length := by rw [St.ds_eq, List.length_map]
          go_wp2_with (at_builtin; refine appX_st rfl _ _ rfl ok (w.heap.size + 1) u4 (St.ds ((P.take j).flatMap fun f => f.body)) rfl HOW.out ?okb A2 c2 (St.ds f.body) (by rw [hdl]; rfl) HR2.out (one_sts _) ?b1 ?b2 ?b3 ?k)
          case okb => intro k hk; have := HOK.out k hk; omega
          case b1 => rw [hdl, St.ds_eq, List.length_map]; unfold reach at q2; unfold maxLen; omega
          case b2 => rw [hdl, St.ds_eq, List.length_map]; unfold reach at q2; omega
          case b3 => omega
          case k =>
          intro v3 w3 hown3 hf3
          have hbx3 := blk_fr HBX.out hf3 (by rintro ⟨_, h2⟩; have := HLT.out _ h2; omega)
          have HF3 := Lib.hid (HF2.out.then hf3 fun k hk h => by omega)
          have HR1' := Lib.hid (HR1.out.fr hf3 (fun q hq h => by have := HOK.out q hq; omega) (fun _ h => h))
          have HR3' := Lib.hid (HR3.out.fr hf3 (fun q hq h => by have := HOK.out q hq; omega) (fun _ h => h))
          have hz3 := hf3.size
          clear hf3 x2
          have hcat : St.ds ((P.take j).flatMap fun f => f.body) ++ St.ds f.body = St.ds ((P.take (j + 1)).flatMap fun f => f.body) := by
            rw [HTS.out, List.flatMap_append, St.ds_eq, St.ds_eq, St.ds_eq, List.map_append]; simp
          rw [hcat] at hown3
          obtain ⟨A4, c4, hv3, hc4⟩ := hown3.slice
          have hdl4 : (St.ds ((P.take (j + 1)).flatMap fun f => f.body)).length = ((P.take (j + 1)).flatMap fun f => f.body).length := by rw [St.ds_eq, List.length_map]
          rw [hdl4] at hv3 hc4
          subst hv3
          generalize hR : ((P.take (j + 1)).flatMap fun f => f.body) = R at *
          have HRR := Lib.hid hR; clear hR hdl4 hcat hdl
          have HO3 := Lib.hid hown3; clear hown3
          have HBX3 := Lib.hid hbx3; clear hbx3
          obtain ⟨wp, rfl⟩ : ∃ wp : World, wp = wr := ⟨_, rfl⟩
          go_upto_block 2 with fail
          go_cut [7] (fun v7 wx => Fr Non w3 wx)
          case first =>
            go_wp2_with fail
            go_loopw [7] (fun i wq => ∃ k : Nat, i = .int .i64 k ∧ k ≤ f.ret.length ∧ Fr Non w3 wq) (fun i _ => f.ret.length - (intOf i).toNat)
            case atStart => exact ⟨0, rfl, by omega, fr_refl _⟩
            case round =>
              obtain ⟨k, rfl, hk, hfq⟩ := hrel
              have hbq := blk_fr HBX3.out hfq (non _)
              have x4 := (cells_of hbq).1 4 _ rfl
              by_cases hk1 : k < f.ret.length
              · by_cases hk2 : k < 20
                · obtain ⟨b5, o5, A5, c5, rfl, hb5, y0, y1, y2, y3, y4, y5, y6, y7⟩ := at_ex (HR3'.out.fr hfq (fun _ _ => non _) (fun _ h => h)) k hk1
                  have HFQ := Lib.hid hfq; clear hfq
                  have HLG := Lib.hid (large07_any f.ret[k] ok A5 c5 wr y7 y5 y6 (fun q hq => by have := HOK.out q hq; have := HFQ.out.size; omega))
                  clear y5 y6 y7 hbq
                  go_wp2_with fail
                  refine HLG.out.mono ?_
                  rintro e w5 ⟨⟨b6, rfl⟩, hf5⟩
                  have HF5 := Lib.hid (HFQ.out.trans hf5); clear hf5
                  cases b6 with
                  | true =>
                    go_wp2_with fail
                    go_ret
                    exact ⟨largeT rfl, HF1.out.trans (HF3.out.trans HF5.out)⟩
                  | false =>
                    go_wp2_with fail
                    go_roundw
                    case rel => exact ⟨k + 1, by go_num, by omega, HF5.out⟩
                    case measure => simp [intOf]; omega
                · go_wp2_with fail
                  go_meet
                  exact hfq
              · go_wp2_with fail
                go_meet
                exact hfq
          case rest =>
            have HF4 := Lib.hid (HF3.out.trans hcut)
            have hb4 := blk_fr HBX3.out hcut (non _)
            have HO4 := Lib.hid (HO3.out.fr hcut (fun k _ => non k) (fun k _ => non k))
            have HR1q := Lib.hid (HR1'.out.fr hcut (fun _ _ => non _) (fun _ h => h))
            have x1 := (cells_of hb4).1 1 _ rfl
            have x4 := (cells_of hb4).1 4 _ rfl
            clear hcut hb4
            obtain ⟨wq, rfl⟩ : ∃ wq : World, wq = wc := ⟨_, rfl⟩
            go_upto_block 4 with fail
            go_cut [3, 8] (fun v3 v8 wx => wx = wq ∧ ∃ n : Int, v3 = .int .i64 n)
            case first =>
              go_wp2_with fail
              go_loop [3, 8] (fun t i => ∃ (k : Nat) (n : Int), i = .int .i64 k ∧ t = .int .i64 n ∧ k ≤ f.params.length) (fun _ i => f.params.length - (intOf i).toNat)
              case atStart => exact ⟨0, _, rfl, rfl, by omega⟩
              case round =>
                obtain ⟨k, n2, rfl, rfl, hk⟩ := hrel
                by_cases hk1 : k < f.params.length
                · by_cases hk2 : k < 40
                  · obtain ⟨b5, o5, rfl, hb5, y0, y1, y2, y3⟩ := at_pa HR1q.out k hk1
                    go_wp2_with fail
                    go_round
                    case rel => exact ⟨k + 1, _, by go_num, rfl, by omega⟩
                    case measure => simp [intOf]; omega
                  · go_wp2_with fail
                    go_meet
                    exact ⟨rfl, _, rfl⟩
                · go_wp2_with fail
                  go_meet
                  exact ⟨rfl, _, rfl⟩
            case rest =>
              obtain ⟨rfl, n2, rfl⟩ := hcut
              by_cases h9 : R.length ≤ 900
              · go_wp2_with fail
                all_goals first
                  | (go_ret; exact ⟨largeT rfl, HF1.out.trans HF4.out⟩)
                  | (go_roundw; (case rel => exact ⟨j + 1, _, by go_num, rfl, by omega, by omega, by rw [HRR.out]; exact h9, by rw [HRR.out]; exact HO4.out, HF4.out⟩); (case measure => simp [intOf]; omega))
              · go_wp2_with fail
                all_goals
                  go_ret
                  exact ⟨largeT rfl, HF1.out.trans HF4.out⟩
        · go_wp2_with fail
          go_meet
          exact ⟨_, _, rfl, hl9, fun h => by omega, how, hfr⟩
      · go_wp2_with fail
        go_meet
        have hje : j = P.length := by omega
        subst hje
        exact ⟨_, _, rfl, hl9, fun h => by rw [HTF.out, List.take_length], how, hfr⟩
  case rest =>
    obtain ⟨R0, n0, rfl, hR0, hsz0, how0, hf0⟩ := hcut
    have HOW0 := Lib.hid how0; clear how0
    have HF0 := Lib.hid hf0; clear hf0
    have HSZ0 := Lib.hid hsz0; clear hsz0
    obtain ⟨wz, rfl⟩ : ∃ wz : World, wz = wc := ⟨_, rfl⟩
    go_upto_block 6 with fail
    go_cut [3, 4, 9] (fun v3 v4 v9 wx => ∃ n : Int, v3 = .int .i64 n ∧ St.sizes R0 ≤ 900 ∧ Fr Non W1 wx)
    case first =>
      go_wp2_with fail
      go_loopw [3, 4, 9] (fun t v i wr => ∃ (R : List St) (j : Nat) (n : Int), i = .int .i64 j ∧ t = .int .i64 n ∧ j ≤ R.length ∧ R.length ≤ 900 ∧ R.length + inner (R.drop j) = St.sizes R0 ∧ OwnX ok (w.heap.size + 1) 53 9 wr v (St.ds R) ∧ Fr Non W1 wr) (fun _ _ i _ => 901 - (intOf i).toNat)
      case atStart => exact ⟨R0, 0, _, rfl, rfl, by omega, hR0, by rw [List.drop_zero]; exact inner_all R0, HOW0.out, HF0.out⟩
      case round =>
        obtain ⟨R, j, n, rfl, rfl, hj, hR, hin, how, hfr⟩ := hrel
        have hdR : (St.ds R).length = R.length := by rw [St.ds_eq, List.length_map]
        obtain ⟨A1, c1, hv, hc1⟩ := how.slice
        rw [hdR] at hv hc1
        subst hv
        by_cases hlt : j < R.length
        · obtain ⟨g, us, rfl, hg, hrd, hce⟩ := how.at j (by rw [hdR]; exact hlt)
          have hd : (St.ds R)[j]'(by rw [hdR]; exact hlt) = R[j].d := by simp [St.ds_eq]
          rw [hd] at hrd
          have HWS := Lib.hid (work_step R j hlt)
          generalize R[j] = x at *
          obtain ⟨xk, xn, xf, xs, xm, xe, xa, xb, xl⟩ := x
          obtain ⟨_, _, rfl, rfl, _, _, rfl, rfl, _, _, rfl, rfl, _, _, rfl, rfl, _, _, rfl, rfl, _, _, rfl, ⟨B1, d1, rfl, k1, l1, r1⟩, _, _, rfl, ⟨B2, d2, rfl, k2, l2, r2⟩, _, _, rfl, ⟨B3, d3, rfl, k3, l3, r3⟩, _, _, rfl, ⟨B4, d4, rfl, k4, l4, r4⟩, rfl⟩ := hrd
          have e0 := hce 0 _ rfl
          have e1 := hce 1 _ rfl
          have e2 := hce 2 _ rfl
          have e3 := hce 3 _ rfl
          have e4 := hce 4 _ rfl
          have e5 := hce 5 _ rfl
          have e6 := hce 6 _ rfl
          have e7 := hce 7 _ rfl
          have e8 := hce 8 _ rfl
          clear hce
          rw [Nat.add_zero] at e0
          have hdb : (St.ds xb).length = xb.length := by rw [St.ds_eq, List.length_map]
          have hdc : (St.ds xl).length = xl.length := by rw [St.ds_eq, List.length_map]
          rw [Ex.ds_length] at e5 k1 l1
          rw [List.length_map] at e6 k2 l2
          rw [hdb] at e7 k3 l3
          rw [hdc] at e8 k4 l4
          have m1 : xe.length ≤ 140737488355328 := by unfold reach at l1; omega
          have m2 : xa.length ≤ 140737488355328 := by unfold reach at l2; omega
          have m3 : xb.length ≤ 140737488355328 := by unfold reach at l3; omega
          have m4 : xl.length ≤ 140737488355328 := by unfold reach at l4; omega
          go_upto_region 24 with fail
          obtain ⟨W2, HW2⟩ : ∃ W2, W2 = wr.alloc (.cells #[vu8 xk, .string xn, .string xf, .bool xs, .bool xm, .slice B1 xe.length d1, .slice B2 xa.length d2, .slice B3 xb.length d3, .slice B4 xl.length d4] 53) := ⟨_, rfl⟩
          rw [← HW2]
          have hf2 : Fr Non wr W2 := by rw [HW2]; exact (fr_refl wr).alloc _
          have hbx : W2.heap[wr.heap.size]? = some (.cells #[vu8 xk, .string xn, .string xf, .bool xs, .bool xm, .slice B1 xe.length d1, .slice B2 xa.length d2, .slice B3 xb.length d3, .slice B4 xl.length d4] 53 (0, 0)) := by rw [HW2]; exact blk_new _ _ _
          clear HW2 e0 e1 e2 e3 e4 e5 e6 e7 e8
          have x1 := (cells_of hbx).1 1 _ rfl
          have x2 := (cells_of hbx).1 2 _ rfl
          have x5 := (cells_of hbx).1 5 _ rfl
          have x6 := (cells_of hbx).1 6 _ rfl
          have x7 := (cells_of hbx).1 7 _ rfl
          have x8 := (cells_of hbx).1 8 _ rfl
          have hzr : W1.heap.size ≤ wr.heap.size := hfr.size
          have hz2 := hf2.size
          have HBX := Lib.hid hbx; clear hbx
          have HR1 := Lib.hid (r1.fr hf2 (fun _ _ => non _) (fun _ h => h)); clear r1
          have HR2 := Lib.hid (r2.fr hf2 (fun _ _ => non _) (fun _ h => h)); clear r2
          have HR3 := Lib.hid (r3.fr hf2 (fun _ _ => non _) (fun _ h => h)); clear r3
          have HR4 := Lib.hid (r4.fr hf2 (fun _ _ => non _) (fun _ h => h)); clear r4
          have HOW := Lib.hid (how.fr hf2 (fun k _ => non k) (fun k _ => non k))
          have HLT := Lib.hid how.lt; clear how
          have HF2 := Lib.hid (hfr.trans hf2); clear hfr hf2
          obtain ⟨wp, rfl⟩ : ∃ wp : World, wp = wr := ⟨_, rfl⟩
          by_cases h9 : R.length + xb.length + xl.length ≤ 900
          · go_upto_block 8 with fail
            all_goals try (go_ret; exact ⟨largeT rfl, HF1.out.trans HF2.out⟩)
            have HX := Lib.hid x1; clear x1 x2 x6
            have X7 := Lib.hid x7; clear x7 HX
            have X8 := Lib.hid x8; clear x8
            go_wp2_with fail
            go_loopw [11] (fun i wq => ∃ k : Nat, i = .int .i64 k ∧ k ≤ xe.length ∧ Fr Non W2 wq) (fun i _ => xe.length - (intOf i).toNat)
            case atStart => exact ⟨0, rfl, by omega, fr_refl _⟩
            case round =>
              obtain ⟨k, rfl, hk, hfq⟩ := hrel
              have hbq := blk_fr HBX.out hfq (non _)
              have y5 := (cells_of hbq).1 5 _ rfl
              by_cases hk1 : k < xe.length
              · obtain ⟨b5, o5, A5, c5, rfl, hb5, z0, z1, z2, z3, z4, z5, z6, z7⟩ := at_ex (HR1.out.fr hfq (fun _ _ => non _) (fun _ h => h)) k hk1
                have HFQ := Lib.hid hfq; clear hfq
                have HLG := Lib.hid (large07_any xe[k] ok A5 c5 wr z7 z5 z6 (fun q hq => by have := HOK.out q hq; have := HFQ.out.size; omega))
                clear z5 z6 z7 hbq
                go_wp2_with fail
                refine HLG.out.mono ?_
                rintro e w5 ⟨⟨b6, rfl⟩, hf5⟩
                have HF5 := Lib.hid (HFQ.out.trans hf5); clear hf5
                cases b6 with
                | true =>
                  go_wp2_with fail
                  go_ret
                  exact ⟨largeT rfl, HF1.out.trans (HF2.out.trans HF5.out)⟩
                | false =>
                  go_wp2_with fail
                  go_roundw
                  case rel => exact ⟨k + 1, by go_num, by omega, HF5.out⟩
                  case measure => simp [intOf]; omega
              · have y6 := (cells_of hbq).1 6 _ rfl
                have HFQ := Lib.hid hfq
                obtain ⟨wq, rfl⟩ : ∃ wq : World, wq = wr := ⟨_, rfl⟩
                have HA := Lib.hid (HR2.out.fr hfq (fun _ _ => non _) (fun _ h => h)); clear hfq
                go_upto_block 10 with fail
                go_cut [3, 12] (fun v3 v12 wx => wx = wq ∧ ∃ n : Int, v3 = .int .i64 n)
                case first =>
                  go_wp2_with fail
                  go_loop [3, 12] (fun t i => ∃ (k : Nat) (n : Int), i = .int .i64 k ∧ t = .int .i64 n ∧ k ≤ xa.length) (fun _ i => xa.length - (intOf i).toNat)
                  case atStart => exact ⟨0, _, rfl, rfl, by omega⟩
                  case round =>
                    obtain ⟨k, n2, rfl, rfl, hk⟩ := hrel
                    by_cases hk1 : k < xa.length
                    · obtain ⟨b5, o5, rfl, hb5, z0⟩ := at_str HA.out k hk1
                      go_wp2_with fail
                      go_round
                      case rel => exact ⟨k + 1, _, by go_num, rfl, by omega⟩
                      case measure => simp [intOf]; omega
                    · go_wp2_with fail
                      go_meet
                      exact ⟨rfl, _, rfl⟩
                case rest =>
                  obtain ⟨rfl, n2, rfl⟩ := hcut
                  have hbw := blk_fr HBX.out HFQ.out (non _)
                  have hfd := HFQ.out.drew
                  obtain ⟨wd, hwd⟩ : ∃ wd, wd = wc.drew := ⟨_, rfl⟩
                  rw [← hwd] at hfd
                  have hbd := blk_fr HBX.out hfd (non _)
                  have hzd : W2.heap.size ≤ wd.heap.size := hfd.size
                  obtain ⟨A5, c5, w5, hr5, ho5, hf5⟩ := appR_st ok (w.heap.size + 1) (.slice (some ⟨g, 0, none⟩) R.length c1) wd R (HOW.out.fr hfd (fun k _ => non k) (fun k _ => non k)) (fun k hk => by have := HOK.out k hk; omega) B3 d3 xb (HR3.out.fr hfd (fun _ _ => non _) (fun _ h => h)) hR l3 (by omega)
                  have hgl := HLT.out g rfl
                  have hb5 := blk_fr hbd hf5 (by rintro ⟨_, h2⟩; have h3 : g = wp.heap.size := by simpa [Value.ownBlock] using h2
                                                 omega)
                  have HFd := Lib.hid (HF2.out.trans hfd)
                  have HR4d := HR4.out.fr hfd (fun _ _ => non _) (fun _ h => h)
                  have HR45 := HR4d.fr hf5 (fun q hq h => by have := HOK.out q hq; have := h.1; omega) (fun _ h => h)
                  have HF5 := Lib.hid (HFd.out.then hf5 fun k hk h => by have := h.1; omega)
                  have hz5 := hf5.size
                  obtain ⟨R1, hR1⟩ : ∃ R1, R1 = R ++ xb := ⟨_, rfl⟩
                  rw [← hR1] at hr5 ho5
                  have hR1l : R1.length = R.length + xb.length := by rw [hR1, List.length_append]
                  obtain ⟨A6, c6, w6, hr6, ho6, hf6⟩ := appR_st ok (w.heap.size + 1) (.slice A5 R1.length c5) w5 R1 ho5 (fun k hk => by have := HOK.out k hk; omega) B4 d4 xl HR45 (by omega) l4 (by omega)
                  obtain ⟨R2, hR2⟩ : ∃ R2, R2 = R1 ++ xl := ⟨_, rfl⟩
                  rw [← hR2] at hr6 ho6
                  have hR2l : R2.length = R.length + xb.length + xl.length := by rw [hR2, List.length_append, hR1l]
                  have HR2L := Lib.hid hR2l; clear hR2l hR1l
                  have HF6 := Lib.hid (HF5.out.then hf6 fun k hk h => by have := h.1; omega)
                  have HO6 := Lib.hid ho6; clear ho6 ho5 hf6 hf5 HR45 HR4d
                  have HWS2 := Lib.hid (show R2.length + inner (R2.drop (j + 1)) = R.length + inner (R.drop j) by rw [hR2, hR1]; exact HWS.out)
                  have a7 := (cells_of hbw).1 7 _ rfl
                  have a8 := (cells_of hbw).1 8 _ rfl
                  have b7 := (cells_of hbd).1 7 _ rfl
                  have b8 := (cells_of hbd).1 8 _ rfl
                  have e8 := (cells_of hb5).1 8 _ rfl
                  clear hbw hbd hb5 hfd hR2 hR1 hgl
                  subst hwd
                  go_wp2_with fail
                  refine wp_region_any (by kernel_rfl) ?_
                  change wpAny _ _ _ _ _ _ _ (World.drew _)
                  refine wpAny_take (i := 0) (v := ?_) rfl (by kernel_rfl) (by kernel_rfl) (by kernel_rfl) (fun _ _ _ h => h) (Or.inl ⟨by rfl, ?hy0⟩) ?rst0
                  case hy0 => intro w; go_simp; first | done | with_reducible rfl
                  case rst0 =>
                  refine wpAny_take (i := 1) (v := ?_) rfl (by kernel_rfl) (by kernel_rfl) (by kernel_rfl) (fun _ _ _ h => h) (Or.inl ⟨by rfl, ?hy1⟩) ?rst1
                  case hy1 => intro w; go_simp; first | done | with_reducible rfl
                  case rst1 =>
                  refine wpAny_take (i := 4) (v := ?_) rfl (by kernel_rfl) (by kernel_rfl) (by kernel_rfl) (fun _ _ _ h => h) (Or.inl ⟨by rfl, ?hy4⟩) ?rst4
                  case hy4 => intro w; go_simp; first | done | with_reducible rfl
                  case rst4 =>
                  refine wpAny_ready (rs := [2, 5]) (by kernel_rfl) (by simp) (AllReady.cons rfl (fun K hK => ?br2) (AllReady.cons rfl (fun K hK => ?br5) AllReady.nil))
                  case br2 =>
                    go_simp
                    refine hK _ _ ?_
                    clear hK K
                    refine wpAny_ready (rs := [3, 5]) (by kernel_rfl) (by simp) (AllReady.cons rfl (fun K hK => ?br3) (AllReady.cons rfl (fun K hK => ?brr5) AllReady.nil))
                    case br3 =>
                      refine app_step rfl _ _ rfl rfl rfl hr5 ?_
                      refine hK _ _ ?_
                      clear hK K
                      refine wpAny_ready (rs := [5]) (by kernel_rfl) (by simp) (AllReady.cons rfl (fun K hK => ?_) AllReady.nil)
                      go_simp
                      refine hK _ _ ?_
                      clear hK K
                      refine wpAny_ready (rs := [6]) (by kernel_rfl) (by simp) (AllReady.cons rfl (fun K hK => ?_) AllReady.nil)
                      refine app_step rfl _ _ rfl rfl rfl hr6 ?_
                      refine hK _ _ ?_
                      clear hK K
                      refine wpAny_ready (rs := [7]) (by kernel_rfl) (by simp) (AllReady.cons rfl (fun K hK => ?_) AllReady.nil)
                      go_simp
                      refine hK _ _ ?_
                      clear hK K
                      refine wpAny_done (by kernel_rfl) ?_ _
                      go_wp2_with fail
                      go_roundw
                      case rel => exact ⟨R2, j + 1, _, by go_num, rfl, by have := HR2L.out; omega, by have := HR2L.out; omega, by rw [HWS2.out]; exact hin, HO6.out, HF6.out⟩
                      case measure => simp [intOf]; omega
                    case brr5 =>
                      go_simp
                      refine hK _ _ ?_
                      clear hK K
                      refine wpAny_ready (rs := [3]) (by kernel_rfl) (by simp) (AllReady.cons rfl (fun K hK => ?_) AllReady.nil)
                      refine app_step rfl _ _ rfl rfl rfl hr5 ?_
                      refine hK _ _ ?_
                      clear hK K
                      refine wpAny_ready (rs := [6]) (by kernel_rfl) (by simp) (AllReady.cons rfl (fun K hK => ?_) AllReady.nil)
                      refine app_step rfl _ _ rfl rfl rfl hr6 ?_
                      refine hK _ _ ?_
                      clear hK K
                      refine wpAny_ready (rs := [7]) (by kernel_rfl) (by simp) (AllReady.cons rfl (fun K hK => ?_) AllReady.nil)
                      go_simp
                      refine hK _ _ ?_
                      clear hK K
                      refine wpAny_done (by kernel_rfl) ?_ _
                      go_wp2_with fail
                      go_roundw
                      case rel => exact ⟨R2, j + 1, _, by go_num, rfl, by have := HR2L.out; omega, by have := HR2L.out; omega, by rw [HWS2.out]; exact hin, HO6.out, HF6.out⟩
                      case measure => simp [intOf]; omega
                  case br5 =>
                    go_simp
                    refine hK _ _ ?_
                    clear hK K
                    refine wpAny_ready (rs := [2]) (by kernel_rfl) (by simp) (AllReady.cons rfl (fun K hK => ?_) AllReady.nil)
                    go_simp
                    refine hK _ _ ?_
                    clear hK K
                    refine wpAny_ready (rs := [3]) (by kernel_rfl) (by simp) (AllReady.cons rfl (fun K hK => ?_) AllReady.nil)
                    refine app_step rfl _ _ rfl rfl rfl hr5 ?_
                    refine hK _ _ ?_
                    clear hK K
                    refine wpAny_ready (rs := [6]) (by kernel_rfl) (by simp) (AllReady.cons rfl (fun K hK => ?_) AllReady.nil)
                    refine app_step rfl _ _ rfl rfl rfl hr6 ?_
                    refine hK _ _ ?_
                    clear hK K
                    refine wpAny_ready (rs := [7]) (by kernel_rfl) (by simp) (AllReady.cons rfl (fun K hK => ?_) AllReady.nil)
                    go_simp
                    refine hK _ _ ?_
                    clear hK K
                    refine wpAny_done (by kernel_rfl) ?_ _
                    go_wp2_with fail
                    go_roundw
                    case rel => exact ⟨R2, j + 1, _, by go_num, rfl, by have := HR2L.out; omega, by have := HR2L.out; omega, by rw [HWS2.out]; exact hin, HO6.out, HF6.out⟩
                    case measure => simp [intOf]; omega
          · go_upto_block 8 with fail
            all_goals try (go_ret; exact ⟨largeT rfl, HF1.out.trans HF2.out⟩)
        · go_wp2_with fail
          go_meet
          have hje : j = R.length := by omega
          subst hje
          rw [List.drop_length] at hin
          exact ⟨_, rfl, by simp [inner] at hin; omega, hfr⟩
    case rest =>
      obtain ⟨n, rfl, hsz, hfx⟩ := hcut
      have x0 := hfx.cell' ((cells_of HB1.out).1 0 _ rfl) (non _)
      by_cases h30 : P.length ≤ 30
      · go_wp2_with fail
        go_ret
        exact ⟨largeB rfl fun _ => ⟨h30, by rw [← HSZ0.out h30]; exact hsz⟩, HF1.out.trans hfx⟩
      · go_wp2_with fail
        go_ret
        exact ⟨largeT rfl, HF1.out.trans hfx⟩
end Go.Proofs.YtnlnejpioijkiaaGreatDoor
