/- Contracts and laws, file 5: RefT, WkA, MapL, ScA, ScB, ScC, ScD -/
import Derived.Test.YtnlnejpioijkiaaGreatDoorMg04
import Derived.Deep.DeepCutAuto
import Derived.Deep.CutBlock
import Derived.MapKept
import Derived.Carry
import Derived.Recover
import Derived.Defers
import Derived.StillTailTactics
import Derived.Deep.RegionLaw
/- Contracts of the reference's walker: what a call hands over. -/
namespace Go.Proofs.YtnlnejpioijkiaaGreatDoor
open Go.RowKit
set_option linter.unusedVariables false
set_option linter.unusedSimpArgs false
theorem env_lentN (ru : Int) (args : List ByteArray) (k : Nat) (mt : Bool) (s : Wk) : ∀ j, (Wk.lentN ru args k mt s j).env = s.env
  | 0 => rfl
  | j + 1 => by rw [Wk.lentN, (bad_env ru _ _ _ _).1, env_lentN ru args k mt s j]
theorem env_hand1 (ru : Int) (args : List ByteArray) (k : Nat) (s : Wk) (x : Pa) : (Wk.hand1 ru args k s x).env = s.env := by
  unfold Wk.hand1; rw [env_lentN, (bad_env ru _ _ _ _).1, (bad_env ru _ _ _ _).1, (bad_env ru _ _ _ _).1]
theorem env_handN (ru : Int) (ps : List Pa) (args : List ByteArray) (s : Wk) : ∀ i, (Wk.handN ru ps args s i).2.env = s.env
  | 0 => rfl
  | i + 1 => by
    rw [Wk.handN]
    split
    · exact env_handN ru ps args s i
    · rw [env_hand1]; exact env_handN ru ps args s i
theorem handN_le (ru : Int) (ps : List Pa) (args : List ByteArray) (s : Wk) : ∀ i, (Wk.handN ru ps args s i).1 ≤ args.length
  | 0 => Nat.zero_le _
  | i + 1 => by
    rw [Wk.handN]
    split
    · exact handN_le ru ps args s i
    · rename_i h; simp only [Bool.or_eq_true, not_or, decide_eq_true_eq] at h; omega

/-- A quiet region, sealed: nothing looks into it but by its steps. -/
structure StillH (P : Program) (ops : Array Oper) (w : World) (Q : Act → Prop) (l : List Oper) (a : Act) : Prop where
  out : wpStill P ops w Q l a
theorem stillH_skip {P : Program} {ops : Array Oper} {w : World} {Q : Act → Prop} {a : Act} {o : Oper} {rest : List Oper} (h0 : Region.wanted o (yielded ops a.tmps) = false)
    (h : ∀ K : Act → Prop, (∀ a, StillH P ops w Q rest a → K a) → K (a.put o.dst undef)) : StillH P ops w Q (o :: rest) a :=
  ⟨by rw [wpStill, if_neg (by rw [h0]; exact Bool.false_ne_true)]; exact (h _ fun _ h => h).out⟩
theorem stillH_on {P : Program} {ops : Array Oper} {w : World} {Q : Act → Prop} {a : Act} {o : Oper} {rest : List Oper} (h0 : Region.wanted o (yielded ops a.tmps) = true)
    (h : ∀ K : Act → Prop, (∀ a, StillH P ops w Q rest a → K a) → o.still P a w K) : StillH P ops w Q (o :: rest) a :=
  ⟨by rw [wpStill, if_pos h0]; exact h _ fun _ h => h.out⟩
theorem stillH_nil {P : Program} {ops : Array Oper} {w : World} {Q : Act → Prop} {a : Act} (h : Q a) : StillH P ops w Q [] a := ⟨h⟩
theorem gen_still {P : Program} {ops : Array Oper} {w : World} {Q : Act → Prop} {l : List Oper} {a : Act} (h : ∀ Q' : Act → Prop, (∀ a, Q a → Q' a) → StillH P ops w Q' l a) : wpStill P ops w Q l a := (h Q fun _ h => h).out
set_option maxRecDepth 100000 in
set_option maxHeartbeats 4000000 in
theorem handed_any (base b : Nat) (PV : Value) (ru : Int) (w : World) (s : Wk) (ve vg : Value) (ps : List Pa) (args : List ByteArray) (ok : Nat → Prop) (nm : ByteArray) (sec : Bool) (A1 A2 A3 A4 : Option Addr) (c1 c2 c3 c4 n2 n3 : Nat)
   (h : WkAt base b PV ru w s ve vg) (hc : s.env.length ≤ 1099511627776) (r1 : RdRows ok w 4 A1 0 (ps.map Pa.d)) (q1 : ps.length * 24 ≤ reach) (r4 : RdRows ok w 1 A4 0 (args.map strD)) (q4 : args.length * 16 ≤ reach) (hok : ∀ q, ok q → q < base) :
   Calls Tryz.prog 112 #[.pointer (some ⟨b, 0, none⟩), .agg #[.string nm, .slice A1 ps.length c1, .slice A2 n2 c2, .bool sec, .slice A3 n3 c3], .slice A4 args.length c4] w fun e w' => e = .returned (.tuple #[]) ∧ Fr (fun k => k = b) w w' ∧ WkAt base b PV ru w' (s.handed ru ps args) ve vg := by
  have hl1 : ps.length ≤ 140737488355328 := by unfold reach at q1; omega
  have hl4 : args.length ≤ 140737488355328 := by unfold reach at q4; omega
  obtain ⟨W1, HW1⟩ : ∃ W1, W1 = w.alloc (.cells #[.string nm, .slice A1 ps.length c1, .slice A2 n2 c2, .bool sec, .slice A3 n3 c3] 44) := ⟨_, rfl⟩
  have hf1 : Fr Non w W1 := by rw [HW1]; exact (fr_refl w).alloc _
  have hb1 : W1.heap[w.heap.size]? = some (.cells #[.string nm, .slice A1 ps.length c1, .slice A2 n2 c2, .bool sec, .slice A3 n3 c3] 44 (0, 0)) := by rw [HW1]; exact blk_new _ _ _
  have hbw := blk_lt h.blk
  have H1 := Lib.hid (h.stay hf1); clear h
  have HR1 := Lib.hid (r1.fr hf1 (fun _ _ => non _) (fun _ h => h)); clear r1
  have HR4 := Lib.hid (r4.fr hf1 (fun _ _ => non _) (fun _ h => h)); clear r4
  have HB1 := Lib.hid hb1; clear hb1
  have HF1 := Lib.hid hf1; clear hf1
  have HOK := Lib.hid hok; clear hok
  have HB := Lib.hid H1.out.hb
  go_enter Tryz.func112, Tryz.ntmps112
  go_upto_region 1 with fail
  rw [← HW1]; clear HW1
  go_wp2_with fail
  go_loopw [6, 7] (fun t i wr => ∃ j : Nat, i = .int .i64 j ∧ t = .int .i64 (Wk.handN ru ps args s j).1 ∧ j ≤ ps.length ∧ Fr (fun k => k = b) W1 wr ∧ WkAt base b PV ru wr (Wk.handN ru ps args s j).2 ve vg) (fun _ i _ => ps.length - (intOf i).toNat)
  case atStart => exact ⟨0, rfl, rfl, by omega, Fr.refl _ _, H1.out⟩
  case round =>
    rename_i QA KA aA
    obtain ⟨j, rfl, rfl, hj, hfr, hw⟩ := hrel
    have hbr := blk_fr HB1.out hfr (by omega)
    have x1 := (cells_of hbr).1 1 _ rfl
    have HLE := handN_le ru ps args s j
    have HENV := Lib.hid (env_handN ru ps args s j)
    have HST := Lib.hid (show Wk.handN ru ps args s (j + 1) = if !(ps.getD j Pa.zero).buf || decide (args.length ≤ (Wk.handN ru ps args s j).1) then Wk.handN ru ps args s j else ((Wk.handN ru ps args s j).1 + 1, Wk.hand1 ru args (Wk.handN ru ps args s j).1 (Wk.handN ru ps args s j).2 (ps.getD j Pa.zero)) from rfl)
    have HWK := Lib.hid hw; clear hw
    by_cases hlt : j < ps.length
    · obtain ⟨b5, o5, rfl, hb5, y0, y1, y2, y3⟩ := at_pa (HR1.out.fr hfr (fun q hq h => by have := HOK.out q hq; have := HB.out; omega) (fun _ h => h)) j hlt
      have hgd : ps.getD j Pa.zero = ps[j] := by rw [List.getD_eq_getElem?_getD, List.getElem?_eq_getElem hlt, Option.getD_some]
      rw [hgd] at HST; clear hgd
      have HFR := Lib.hid hfr; clear hfr
      generalize ps[j] = x at *
      obtain ⟨xn, xb, xs, xm⟩ := x
      simp only at y0 y1 y2 y3 HST
      cases xb with
      | false =>
        go_wp2_with fail
        go_roundw
        case rel => exact ⟨j + 1, by go_num, by rw [HST.out]; rfl, by omega, HFR.out.alloc _, by rw [HST.out]; exact HWK.out.stay ((fr_refl _).alloc _)⟩
        case measure => simp [intOf]; omega
      | true =>
        by_cases hn : (Wk.handN ru ps args s j).1 < args.length
        · obtain ⟨b6, o6, rfl, hb6, z0⟩ := at_str (HR4.out.fr HFR.out (fun q hq h => by have := HOK.out q hq; have := HB.out; omega) (fun _ h => h)) (Wk.handN ru ps args s j).1 hn
          rw [if_neg (by simp; omega)] at HST
          have hgd : args.getD (Wk.handN ru ps args s j).1 nob = args[(Wk.handN ru ps args s j).1] := by rw [List.getD_eq_getElem?_getD, List.getElem?_eq_getElem hn, Option.getD_some]
          have HGD := Lib.hid hgd; clear hgd
          generalize (Wk.handN ru ps args s j).1 = k at *
          generalize (Wk.handN ru ps args s j).2 = t at *
          generalize args[k] = an at *
          obtain ⟨W2, HW2⟩ : ∃ W2, W2 = wr.alloc (.cells #[.string xn, .bool true, .bool xs, .bool xm] 50) := ⟨_, rfl⟩
          have hf2 : Fr Non wr W2 := by rw [HW2]; exact (fr_refl wr).alloc _
          have hb2 : W2.heap[wr.heap.size]? = some (.cells #[.string xn, .bool true, .bool xs, .bool xm] 50 (0, 0)) := by rw [HW2]; exact blk_new _ _ _
          have z1 := hf2.cell' z0 (non _)
          have HK2 := Lib.hid (HWK.out.stay hf2)
          have HB2 := Lib.hid hb2; clear hb2
          have HF2 := Lib.hid (HFR.out.trans hf2.non)
          have hbr2 : b < wr.heap.size := blk_lt HWK.out.blk
          clear hf2
          have HFI := Lib.hid (Find_any base b PV ru W2 t ve vg an HK2.out (by rw [HENV.out]; exact hc))
          go_upto_region 7 with fail
          rename_i QB KB aB hB KE aE
          rw [← HW2]; clear HW2
          go_wp2_with fail
          refine HFI.out.mono ?_
          rintro e w3 ⟨rfl, hf3⟩
          unfold foundV Va.v
          have HV := Lib.hid (show Wk.hand1 ru args k t ⟨xn, true, xs, xm⟩ = Wk.lentN ru args k xm (((t.bad ru 11 (xm && !((t.find an).getD Va.zero).mt) 8).bad ru 12 (xs != ((t.find an).getD Va.zero).sec) 120).bad ru 13 (xm && ((t.find an).getD Va.zero).lent == 1) 130) args.length by rw [Wk.hand1, HGD.out])
          generalize (t.find an).getD Va.zero = v at *
          generalize (t.find an).isSome = is
          have hb3 := blk_fr HB2.out hf3 (non _)
          have hk3 := HK2.out.stay hf3
          obtain ⟨W4, HW4⟩ : ∃ W4, W4 = w3.alloc (.cells #[.string v.name, .bool v.buf, .bool v.sec, .bool v.mt, .bool v.own, .bool v.set, .bool v.gone, .int .i64 v.lent, .int .i64 v.loops] 148) := ⟨_, rfl⟩
          have hf4 : Fr Non w3 W4 := by rw [HW4]; exact (fr_refl w3).alloc _
          have hv4 : W4.heap[w3.heap.size]? = some (.cells #[.string v.name, .bool v.buf, .bool v.sec, .bool v.mt, .bool v.own, .bool v.set, .bool v.gone, .int .i64 v.lent, .int .i64 v.loops] 148 (0, 0)) := by rw [HW4]; exact blk_new _ _ _
          have hb4 := blk_fr hb3 hf4 (non _)
          have hlt3 := blk_lt hb3
          have hbr3 : b < w3.heap.size := blk_lt hk3.blk
          have HK4 := Lib.hid (hk3.stay hf4); clear hk3
          have HF4 := Lib.hid ((HF2.out.trans hf3.non).trans hf4.non); clear hf3 hf4 hb3
          have HV4 := Lib.hid hv4; clear hv4
          have HB4 := Lib.hid hb4; clear hb4
          obtain ⟨wy, rfl⟩ : ∃ wy : World, wy = wr := ⟨_, rfl⟩
          go_upto_region 8 with fail
          rw [← HW4]; clear HW4
          go_cut [49] (fun v49 wx => WkAt base b PV ru wx (t.bad ru 11 (xm && !v.mt) 8) ve vg ∧ Fr (fun k => k = b) W4 wx)
          case first =>
            have a3 := (cells_of HB4.out).1 3 _ rfl
            have v3 := (cells_of HV4.out).1 3 _ rfl
            cases xm
            all_goals
              go_wp2_with fail
              refine (bad_any base b PV ru W4 t ve vg 11 _ 8 HK4.out).mono ?_
              rintro e w5 ⟨rfl, hf5, h5⟩
              go_wp2_with fail
              go_meet
              exact ⟨h5, hf5⟩
          case rest =>
            obtain ⟨h5, hf5⟩ := hcut
            have hb5 := blk_fr HB4.out hf5 (by omega)
            have hv5 := blk_fr HV4.out hf5 (by omega)
            have a2 := (cells_of hb5).1 2 _ rfl
            have v2 := (cells_of hv5).1 2 _ rfl
            have HF5 := Lib.hid (HF4.out.trans hf5); clear hf5
            have HB5 := Lib.hid hb5; clear hb5
            have HV5 := Lib.hid hv5; clear hv5
            have HK5 := Lib.hid h5; clear h5
            obtain ⟨wq, rfl⟩ : ∃ wq : World, wq = wc := ⟨_, rfl⟩
            go_upto_region 10 with (go_at_call 73; refine (bad_any base b PV ru wq _ ve vg 12 _ 120 HK5.out).mono ?_; rintro e w6 ⟨rfl, hf6, h6⟩)
            have hb6 := blk_fr HB5.out hf6 (by omega)
            have hv6 := blk_fr HV5.out hf6 (by omega)
            have HF6 := Lib.hid (HF5.out.trans hf6); clear hf6 a2 v2
            have HB6 := Lib.hid hb6; clear hb6
            have HV6 := Lib.hid hv6; clear hv6
            have HK6 := Lib.hid h6; clear h6
            go_cut [65] (fun v65 wx => WkAt base b PV ru wx (((t.bad ru 11 (xm && !v.mt) 8).bad ru 12 (xs != v.sec) 120).bad ru 13 (xm && v.lent == 1) 130) ve vg ∧ Fr (fun k => k = b) w6 wx)
            case first =>
              have a3 := (cells_of HB6.out).1 3 _ rfl
              have v7 := (cells_of HV6.out).1 7 _ rfl
              cases xm
              all_goals
                go_wp2_with fail
                refine (bad_any base b PV ru w6 _ ve vg 13 _ 130 HK6.out).mono ?_
                rintro e w7 ⟨rfl, hf7, h7⟩
                go_wp2_with fail
                go_meet
                exact ⟨h7, hf7⟩
            case rest =>
              obtain ⟨h7, hf7⟩ := hcut
              generalize hT : (((t.bad ru 11 (xm && !v.mt) 8).bad ru 12 (xs != v.sec) 120).bad ru 13 (xm && v.lent == 1) 130) = T at *
              have hb7 := blk_fr HB6.out hf7 (by omega)
              have HF7 := Lib.hid (HF6.out.trans hf7); clear hf7 hT
              have HB7 := Lib.hid hb7; clear hb7
              have HK7 := Lib.hid h7; clear h7
              obtain ⟨wz, rfl⟩ : ∃ wz : World, wz = wc := ⟨_, rfl⟩
              go_wp2_with fail
              go_loopw [11] (fun i wr => ∃ m : Nat, i = .int .i64 m ∧ m ≤ args.length ∧ Fr (fun k => k = b) wz wr ∧ WkAt base b PV ru wr (Wk.lentN ru args k xm T m) ve vg) (fun i _ => args.length - (intOf i).toNat)
              case atStart => exact ⟨0, rfl, by omega, Fr.refl _ _, HK7.out⟩
              case round =>
                rename_i KC aC
                obtain ⟨m, rfl, hm, hfm, hkm⟩ := hrel
                have HKM := Lib.hid hkm; clear hkm
                by_cases hm1 : m < args.length
                · have hfz := HF7.out.trans hfm
                  have HFM := Lib.hid hfm
                  obtain ⟨b8, o8, ee8, hb8, zm⟩ := at_str (HR4.out.fr hfz (fun q hq h => by have := HOK.out q hq; have := HB.out; omega) (fun _ h => h)) m hm1
                  obtain ⟨b9, o9, ee9, hb9, zk⟩ := at_str (HR4.out.fr hfz (fun q hq h => by have := HOK.out q hq; have := HB.out; omega) (fun _ h => h)) k hn
                  cases ee8; cases ee9
                  have hgk : args[k] = an := by rw [← HGD.out, List.getD_eq_getElem?_getD, List.getElem?_eq_getElem hn, Option.getD_some]
                  have hgm : args.getD m nob = args[m] := by rw [List.getD_eq_getElem?_getD, List.getElem?_eq_getElem hm1, Option.getD_some]
                  rw [hgk] at zk
                  have HLN := Lib.hid (show Wk.lentN ru args k xm T (m + 1) = (Wk.lentN ru args k xm T m).bad ru 13 (m != k && sq args[m] an && xm) 130 by rw [Wk.lentN, hgm, HGD.out])
                  generalize args[m] = am at *
                  have hbm := blk_fr HB7.out hfm (by omega)
                  have a3 := (cells_of hbm).1 3 _ rfl
                  clear hbm hfz hgk hgm hfm
                  have HKD := Lib.hid (HKM.out.stay (fr_refl wr).drew)
                  go_upto_region 14 with fail
                  have HHM := Lib.hid hm1
                  have HAC := Lib.hid aC; clear aC
                  have HAB := Lib.hid aB; clear aB
                  have HAA := Lib.hid aA; clear aA
                  by_cases hmk : m = k
                  · have HMK := Lib.hid (show (m != k && sq am an && xm) = false by simp [hmk])
                    have cb : decide ((m : Int) = (k : Int)) = true := decide_eq_true (by omega)
                    have cb2 : (!decide ((m : Int) = (k : Int))) = false := by rw [cb]; rfl
                    refine wp_region_still_tail 19 (by kernel_rfl) (by kernel_rfl) ?_
                    simp only [List.take_succ_cons, List.take_zero, List.drop_succ_cons, List.drop_zero]
                    rename_i QD KD aD
                    refine gen_still fun QX hQX => ?_
                    have HQX := Lib.hid hQX; clear hQX
                    have HAD := Lib.hid aD; clear aD
                    refine stillH_on (by kernel_rfl) (fun K hK => ?_)
                    go_simp
                    refine hK _ ?_
                    clear hK K
                    refine stillH_on (by kernel_rfl) (fun K hK => ?_)
                    go_simp
                    refine hK _ ?_
                    clear hK K
                    refine stillH_on (by kernel_rfl) (fun K hK => ?_)
                    go_simp
                    refine hK _ ?_
                    clear hK K
                    refine stillH_on (by kernel_rfl) (fun K hK => ?_)
                    go_simp
                    refine hK _ ?_
                    clear hK K
                    refine stillH_on (by kernel_rfl) (fun K hK => ?_)
                    go_simp
                    refine hK _ ?_
                    clear hK K
                    refine stillH_skip (by kernel_rfl) (fun K hK => ?_)
                    go_simp
                    refine hK _ ?_
                    clear hK K
                    refine stillH_skip (by kernel_rfl) (fun K hK => ?_)
                    go_simp
                    refine hK _ ?_
                    clear hK K
                    refine stillH_skip (by kernel_rfl) (fun K hK => ?_)
                    go_simp
                    refine hK _ ?_
                    clear hK K
                    refine stillH_skip (by kernel_rfl) (fun K hK => ?_)
                    go_simp
                    refine hK _ ?_
                    clear hK K
                    refine stillH_skip (by kernel_rfl) (fun K hK => ?_)
                    go_simp
                    refine hK _ ?_
                    clear hK K
                    refine stillH_skip (by kernel_rfl) (fun K hK => ?_)
                    go_simp
                    refine hK _ ?_
                    clear hK K
                    refine stillH_skip (by kernel_rfl) (fun K hK => ?_)
                    go_simp
                    refine hK _ ?_
                    clear hK K
                    refine stillH_skip (by kernel_rfl) (fun K hK => ?_)
                    go_simp
                    refine hK _ ?_
                    clear hK K
                    refine stillH_skip (by kernel_rfl) (fun K hK => ?_)
                    go_simp
                    refine hK _ ?_
                    clear hK K
                    refine stillH_on (by kernel_rfl) (fun K hK => ?_)
                    go_simp
                    refine hK _ ?_
                    clear hK K
                    refine stillH_on (by kernel_rfl) (fun K hK => ?_)
                    go_simp
                    refine hK _ ?_
                    clear hK K
                    refine stillH_skip (by kernel_rfl) (fun K hK => ?_)
                    go_simp
                    refine hK _ ?_
                    clear hK K
                    refine stillH_skip (by kernel_rfl) (fun K hK => ?_)
                    go_simp
                    refine hK _ ?_
                    clear hK K
                    refine stillH_on (by kernel_rfl) (fun K hK => ?_)
                    go_simp
                    refine hK _ ?_
                    clear hK K
                    refine stillH_nil ?_
                    refine HQX.out _ ?_
                    change wpList _ _ _ _ _ wr.drew
                    have aD := HAD.out
                    clear HQX
                    go_wp2_with fail
                    refine (bad_any base b PV ru wr.drew _ ve vg 13 _ 130 HKD.out).mono ?_
                    rintro e w8 ⟨rfl, hf8, h8⟩
                    go_wp2_with fail
                    go_roundw
                    case rel => exact ⟨m + 1, by go_num, by omega, HFM.out.trans ((fr_refl wr).drew.non.trans hf8), by rw [HLN.out, HMK.out]; exact h8⟩
                    case measure => simp [intOf]; omega
                  · have cb : decide ((m : Int) = (k : Int)) = false := decide_eq_false (by omega)
                    have cb3 : ((m : Int) != (k : Int)) = true := by rw [bne_iff_ne]; omega
                    by_cases hse : am = an
                    · subst hse
                      have HMK := Lib.hid (show (m != k && sq am am && xm) = xm by simp [hmk, sq_refl])
                      clear hmk
                      refine wp_region_still_tail 19 (by kernel_rfl) (by kernel_rfl) ?_
                      simp only [List.take_succ_cons, List.take_zero, List.drop_succ_cons, List.drop_zero]
                      rename_i QD KD aD
                      refine gen_still fun QX hQX => ?_
                      have HQX := Lib.hid hQX; clear hQX
                      have HAD := Lib.hid aD; clear aD
                      refine stillH_on (by kernel_rfl) (fun K hK => ?_)
                      go_simp
                      refine hK _ ?_
                      clear hK K
                      refine stillH_on (by kernel_rfl) (fun K hK => ?_)
                      go_simp
                      refine hK _ ?_
                      clear hK K
                      refine stillH_on (by kernel_rfl) (fun K hK => ?_)
                      go_simp
                      refine hK _ ?_
                      clear hK K
                      refine stillH_on (by kernel_rfl) (fun K hK => ?_)
                      go_simp
                      refine hK _ ?_
                      clear hK K
                      refine stillH_on (by kernel_rfl) (fun K hK => ?_)
                      go_simp
                      refine hK _ ?_
                      clear hK K
                      refine stillH_on (by kernel_rfl) (fun K hK => ?_)
                      go_simp
                      refine hK _ ?_
                      clear hK K
                      refine stillH_on (by kernel_rfl) (fun K hK => ?_)
                      go_simp
                      refine hK _ ?_
                      clear hK K
                      refine stillH_on (by kernel_rfl) (fun K hK => ?_)
                      go_simp
                      refine hK _ ?_
                      clear hK K
                      refine stillH_on (by kernel_rfl) (fun K hK => ?_)
                      go_simp
                      refine hK _ ?_
                      clear hK K
                      refine stillH_on (by kernel_rfl) (fun K hK => ?_)
                      go_simp
                      refine hK _ ?_
                      clear hK K
                      refine stillH_on (by kernel_rfl) (fun K hK => ?_)
                      go_simp
                      refine hK _ ?_
                      clear hK K
                      refine stillH_on (by kernel_rfl) (fun K hK => ?_)
                      go_simp
                      refine hK _ ?_
                      clear hK K
                      refine stillH_on (by kernel_rfl) (fun K hK => ?_)
                      go_simp
                      refine hK _ ?_
                      clear hK K
                      refine stillH_on (by kernel_rfl) (fun K hK => ?_)
                      go_simp
                      refine hK _ ?_
                      clear hK K
                      refine stillH_on (by kernel_rfl) (fun K hK => ?_)
                      go_simp
                      refine hK _ ?_
                      clear hK K
                      refine stillH_on (by kernel_rfl) (fun K hK => ?_)
                      go_simp
                      refine hK _ ?_
                      clear hK K
                      refine stillH_on (by kernel_rfl) (fun K hK => ?_)
                      go_simp
                      refine hK _ ?_
                      clear hK K
                      refine stillH_on (by kernel_rfl) (fun K hK => ?_)
                      go_simp
                      refine hK _ ?_
                      clear hK K
                      refine stillH_on (by kernel_rfl) (fun K hK => ?_)
                      go_simp
                      refine hK _ ?_
                      clear hK K
                      refine stillH_nil ?_
                      refine HQX.out _ ?_
                      change wpList _ _ _ _ _ wr.drew
                      have aD := HAD.out
                      clear HQX
                      go_wp2_with fail
                      refine (bad_any base b PV ru wr.drew _ ve vg 13 _ 130 HKD.out).mono ?_
                      rintro e w8 ⟨rfl, hf8, h8⟩
                      go_wp2_with fail
                      go_roundw
                      case rel => exact ⟨m + 1, by go_num, by omega, HFM.out.trans ((fr_refl wr).drew.non.trans hf8), by rw [HLN.out, HMK.out]; exact h8⟩
                      case measure => simp [intOf]; omega
                    · have HMK := Lib.hid (show (m != k && sq am an && xm) = false by simp [hmk, sq_no hse])
                      have cb2 : (am.toList == an.toList) = false := by rw [tosq]; exact sq_no hse
                      clear hmk
                      refine wp_region_still_tail 19 (by kernel_rfl) (by kernel_rfl) ?_
                      simp only [List.take_succ_cons, List.take_zero, List.drop_succ_cons, List.drop_zero]
                      rename_i QD KD aD
                      refine gen_still fun QX hQX => ?_
                      have HQX := Lib.hid hQX; clear hQX
                      have HAD := Lib.hid aD; clear aD
                      refine stillH_on (by kernel_rfl) (fun K hK => ?_)
                      go_simp
                      refine hK _ ?_
                      clear hK K
                      refine stillH_on (by kernel_rfl) (fun K hK => ?_)
                      go_simp
                      refine hK _ ?_
                      clear hK K
                      refine stillH_on (by kernel_rfl) (fun K hK => ?_)
                      go_simp
                      refine hK _ ?_
                      clear hK K
                      refine stillH_on (by kernel_rfl) (fun K hK => ?_)
                      go_simp
                      refine hK _ ?_
                      clear hK K
                      refine stillH_on (by kernel_rfl) (fun K hK => ?_)
                      go_simp
                      refine hK _ ?_
                      clear hK K
                      refine stillH_on (by kernel_rfl) (fun K hK => ?_)
                      go_simp
                      refine hK _ ?_
                      clear hK K
                      refine stillH_on (by kernel_rfl) (fun K hK => ?_)
                      go_simp
                      refine hK _ ?_
                      clear hK K
                      refine stillH_on (by kernel_rfl) (fun K hK => ?_)
                      go_simp
                      refine hK _ ?_
                      clear hK K
                      refine stillH_on (by kernel_rfl) (fun K hK => ?_)
                      go_simp
                      refine hK _ ?_
                      clear hK K
                      refine stillH_on (by kernel_rfl) (fun K hK => ?_)
                      go_simp
                      refine hK _ ?_
                      clear hK K
                      refine stillH_on (by kernel_rfl) (fun K hK => ?_)
                      go_simp
                      refine hK _ ?_
                      clear hK K
                      refine stillH_on (by kernel_rfl) (fun K hK => ?_)
                      go_simp
                      refine hK _ ?_
                      clear hK K
                      refine stillH_on (by kernel_rfl) (fun K hK => ?_)
                      go_simp
                      refine hK _ ?_
                      clear hK K
                      refine stillH_on (by kernel_rfl) (fun K hK => ?_)
                      go_simp
                      refine hK _ ?_
                      clear hK K
                      refine stillH_on (by kernel_rfl) (fun K hK => ?_)
                      go_simp
                      refine hK _ ?_
                      clear hK K
                      refine stillH_on (by kernel_rfl) (fun K hK => ?_)
                      go_simp
                      refine hK _ ?_
                      clear hK K
                      refine stillH_skip (by kernel_rfl) (fun K hK => ?_)
                      go_simp
                      refine hK _ ?_
                      clear hK K
                      refine stillH_skip (by kernel_rfl) (fun K hK => ?_)
                      go_simp
                      refine hK _ ?_
                      clear hK K
                      refine stillH_on (by kernel_rfl) (fun K hK => ?_)
                      go_simp
                      refine hK _ ?_
                      clear hK K
                      refine stillH_nil ?_
                      refine HQX.out _ ?_
                      change wpList _ _ _ _ _ wr.drew
                      have aD := HAD.out
                      clear HQX
                      go_wp2_with fail
                      refine (bad_any base b PV ru wr.drew _ ve vg 13 _ 130 HKD.out).mono ?_
                      rintro e w8 ⟨rfl, hf8, h8⟩
                      go_wp2_with fail
                      go_roundw
                      case rel => exact ⟨m + 1, by go_num, by omega, HFM.out.trans ((fr_refl wr).drew.non.trans hf8), by rw [HLN.out, HMK.out]; exact h8⟩
                      case measure => simp [intOf]; omega
                · have hje : m = args.length := by omega
                  subst hje
                  go_wp2_with fail
                  go_roundw
                  case rel => exact ⟨j + 1, by go_num, by rw [HST.out]; go_num, by omega, HF7.out.trans hfm, by rw [HST.out, HV.out]; exact HKM.out⟩
                  case measure => simp [intOf]; omega
        · go_wp2_with fail
          go_roundw
          case rel => exact ⟨j + 1, by go_num, by rw [HST.out, if_pos (by simp; omega)], by omega, HFR.out.alloc _, by rw [HST.out, if_pos (by simp; omega)]; exact HWK.out.stay ((fr_refl _).alloc _)⟩
          case measure => simp [intOf]; omega
    · have hje : j = ps.length := by omega
      subst hje
      go_wp2_with fail
      refine (bad_any base b PV ru wr _ ve vg 11 _ 8 HWK.out).mono ?_
      rintro e w2 ⟨rfl, hf2, h2⟩
      go_wp2_with fail
      go_end0
      have he : ((((Wk.handN ru ps args s ps.length).1 : Int) == (args.length : Int)) = ((Wk.handN ru ps args s ps.length).1 == args.length)) := by rw [Bool.eq_iff_iff]; simp; omega
      refine ⟨rfl, (HF1.out.non.trans hfr).trans hf2, ?_⟩
      rw [Wk.handed, bne, ← he]
      exact h2
end Go.Proofs.YtnlnejpioijkiaaGreatDoor
/- What the reference's walker keeps, and by how much it grows. -/
namespace Go.Proofs.YtnlnejpioijkiaaGreatDoor
open Go.RowKit
set_option linter.unusedVariables false
set_option linter.unusedSimpArgs false
/-- The same sizes. -/
structure Kp (s t : Wk) : Prop where
  env : t.env.length = s.env.length
  giv : t.given.length = s.given.length
  n : t.n = s.n
  loops : t.loops = s.loops
  f : t.f = s.f
theorem Kp.refl (s : Wk) : Kp s s := ⟨rfl, rfl, rfl, rfl, rfl⟩
theorem Kp.trans {s t u : Wk} (h : Kp s t) (g : Kp t u) : Kp s u := ⟨g.env.trans h.env, g.giv.trans h.giv, g.n.trans h.n, g.loops.trans h.loops, g.f.trans h.f⟩
theorem Kp.bad (s : Wk) (ru r : Int) (is : Bool) (e : Int) : Kp s (s.bad ru r is e) := by
  obtain ⟨h1, h2, h3, h4, h5⟩ := bad_env ru s r is e
  exact ⟨by rw [h1], by rw [h2], h4, h3, h5⟩
theorem Kp.put (s : Wk) (v : Va) : Kp s (s.put v) := ⟨by simp [Wk.put], rfl, rfl, rfl, rfl⟩
theorem Kp.ask (ru : Int) (s : Wk) (nm : ByteArray) (b : Bool) : Kp s (s.ask ru nm b).2 :=
  (((Kp.bad _ _ _ _ _).trans (Kp.bad _ _ _ _ _)).trans (Kp.bad _ _ _ _ _)).trans (Kp.bad _ _ _ _ _)
mutual
theorem Kp.sec (ru : Int) : ∀ (e : Ex) (s : Wk), Kp s (Wk.sec ru e s).2
  | .mk k n nm o l, s => by
    unfold Wk.sec
    split
    · exact Kp.refl _
    · split
      · exact Kp.ask _ _ _ _
      · split
        · exact Kp.ask _ _ _ _
        · split
          · exact ((Kp.ask _ _ _ _).trans (Kp.secs ru l _)).trans (Kp.bad _ _ _ _ _)
          · exact (Kp.secs ru l _).trans (Kp.bad _ _ _ _ _)
theorem Kp.secs (ru : Int) : ∀ (l : List Ex) (s : Wk), Kp s (Wk.secs ru l s).2
  | [], s => Kp.refl _
  | e :: l, s => (Kp.sec ru e s).trans (Kp.secs ru l _)
end
theorem Kp.pub (ru : Int) (s : Wk) (e : Ex) : Kp s (s.pub ru e) := (Kp.sec ru e s).trans (Kp.bad _ _ _ _ _)
theorem Kp.opn (ru : Int) (s : Wk) (e : Ex) (b : Bool) : Kp s (s.opn ru e b) := (Kp.sec ru e s).trans (Kp.bad _ _ _ _ _)
theorem Kp.turned (ru : Int) (s : Wk) (nm : ByteArray) : Kp s (s.turned ru nm).2 := ((Kp.ask ru s nm true).trans (Kp.bad _ _ _ _ _)).trans (Kp.bad _ _ _ _ _)
theorem Kp.lentN (ru : Int) (args : List ByteArray) (k : Nat) (mt : Bool) (s : Wk) : ∀ j, Kp s (Wk.lentN ru args k mt s j)
  | 0 => Kp.refl _
  | j + 1 => (Kp.lentN ru args k mt s j).trans (Kp.bad _ _ _ _ _)
theorem Kp.hand1 (ru : Int) (args : List ByteArray) (k : Nat) (s : Wk) (x : Pa) : Kp s (Wk.hand1 ru args k s x) :=
  (((Kp.bad _ _ _ _ _).trans (Kp.bad _ _ _ _ _)).trans (Kp.bad _ _ _ _ _)).trans (Kp.lentN _ _ _ _ _ _)
theorem Kp.handN (ru : Int) (ps : List Pa) (args : List ByteArray) (s : Wk) : ∀ i, Kp s (Wk.handN ru ps args s i).2
  | 0 => Kp.refl _
  | i + 1 => by
    simp only [Wk.handN]
    split
    · exact Kp.handN ru ps args s i
    · exact (Kp.handN ru ps args s i).trans (Kp.hand1 _ _ _ _ _)
theorem Kp.handed (ru : Int) (ps : List Pa) (args : List ByteArray) (s : Wk) : Kp s (s.handed ru ps args) := (Kp.handN ru ps args s _).trans (Kp.bad _ _ _ _ _)
theorem Kp.callN (ru : Int) (ps : List Pa) (ex : List Ex) (s : Wk) : ∀ i, Kp s (Wk.callN ru ps ex s i).2.2
  | 0 => Kp.refl _
  | i + 1 => by
    have := Kp.callN ru ps ex s i
    simp only [Wk.callN]
    split
    · exact this
    · simp only; split
      · exact this.trans (Kp.opn _ _ _ _)
      · exact this
theorem Kp.secN (ru : Int) (ex : List Ex) (n : Nat) (s : Wk) : ∀ i, Kp s (Wk.secN ru ex n s i)
  | 0 => Kp.refl _
  | i + 1 => (Kp.secN ru ex n s i).trans (Kp.sec _ _ _)
theorem Kp.askN (ru : Int) (args : List ByteArray) (s : Wk) : ∀ i, Kp s (Wk.askN ru args s i)
  | 0 => Kp.refl _
  | i + 1 => (Kp.askN ru args s i).trans (Kp.ask _ _ _ _)
theorem Kp.call2 (ru : Int) (f : Option Fu) (nm : ByteArray) (ex : List Ex) (args : List ByteArray) (s : Wk) : Kp s (s.call2 ru f nm ex args) :=
  (((((Kp.callN _ _ _ _ _).trans (Kp.secN _ _ _ _ _)).trans (Kp.askN _ _ _ _)).trans (Kp.bad _ _ _ _ _)).trans (Kp.bad _ _ _ _ _)).trans (Kp.handed _ _ _ _)
theorem Kp.lend1 (ru : Int) (fr : ByteArray) (mt : Bool) (ex : List Ex) (s : Wk) : Kp s (s.lend1 ru fr mt ex).2 := by
  unfold Wk.lend1
  simp only
  split
  · exact ((((Kp.pub _ _ _).trans (Kp.pub _ _ _)).trans (Kp.ask _ _ _ _)).trans (Kp.turned _ _ _)).trans (Kp.put _ _)
  · exact (((Kp.pub _ _ _).trans (Kp.pub _ _ _)).trans (Kp.ask _ _ _ _)).trans (Kp.put _ _)
theorem Kp.sealE (ru : Int) (l : List Va) : ∀ s : Wk, Kp s (s.sealE ru l) := by
  induction l with
  | nil => intro s; exact Kp.refl _
  | cons v l ih => intro s; exact (Kp.bad s ru 12 (!v.buf && v.sec) 120).trans (ih _)
theorem Kp.sealed (ru : Int) (s : Wk) (n : Int) : Kp s (s.sealed ru n) := (Kp.bad _ _ _ _ _).trans (Kp.sealE _ _ _)
/-- Growth: of the rows by a at most, of the number by m. -/
structure Gr (a m : Nat) (s t : Wk) : Prop where
  e1 : s.env.length ≤ t.env.length
  e2 : t.env.length ≤ s.env.length + a
  g1 : s.given.length ≤ t.given.length
  g2 : t.given.length ≤ s.given.length + a
  n1 : s.n ≤ t.n
  n2 : t.n ≤ s.n + m
  l : t.loops = s.loops
  f : t.f = s.f
theorem Kp.gr {s t : Wk} (h : Kp s t) : Gr 0 0 s t := ⟨by rw [h.env]; omega, by rw [h.env]; omega, by rw [h.giv]; omega, by rw [h.giv]; omega, by rw [h.n]; omega, by rw [h.n]; omega, h.loops, h.f⟩
theorem Gr.mono {a m a' m' : Nat} {s t : Wk} (h : Gr a m s t) (ha : a ≤ a') (hm : m ≤ m') : Gr a' m' s t := ⟨h.e1, by have := h.e2; omega, h.g1, by have := h.g2; omega, h.n1, by have := h.n2; omega, h.l, h.f⟩
theorem Gr.trans {a m a' m' : Nat} {s t u : Wk} (h : Gr a m s t) (g : Gr a' m' t u) : Gr (a + a') (m + m') s u :=
  ⟨Nat.le_trans h.e1 g.e1, by have := h.e2; have := g.e2; omega, Nat.le_trans h.g1 g.g1, by have := h.g2; have := g.g2; omega, by have := h.n1; have := g.n1; omega, by have := h.n2; have := g.n2; omega, g.l.trans h.l, g.f.trans h.f⟩
theorem Gr.kp {a m : Nat} {s t u : Wk} (h : Gr a m s t) (g : Kp t u) : Gr a m s u := h.trans g.gr
theorem Kp.then {a m : Nat} {s t u : Wk} (h : Kp s t) (g : Gr a m t u) : Gr a m s u := (h.gr.trans g).mono (by omega) (by omega)
theorem Gr.give (ru : Int) (s : Wk) (v : Va) : Gr 1 0 s (s.give ru v) := by
  obtain ⟨h1, h2, h3, h4, h5⟩ := bad_env ru s 10 (inM s.given v.name) 9
  refine ⟨?_, ?_, ?_, ?_, ?_, ?_, h3, h5⟩ <;> simp only [Wk.give, List.length_append, List.length_singleton, h1, h2, h4] <;> omega
theorem Gr.cut {a m : Nat} {s t : Wk} (h : Gr a m s t) {k : Nat} (hk : k = s.env.length) : Gr a m s (t.cut k) := by
  have h1 : (t.cut k).env.length = s.env.length := by show (t.env.take k).length = _; rw [hk, List.length_take, Nat.min_eq_left h.e1]
  exact ⟨by rw [h1]; omega, by rw [h1]; omega, h.g1, h.g2, h.n1, h.n2, h.l, h.f⟩
theorem Gr.back {a m : Nat} {s t : Wk} (h : Gr a m s t) {e : List Va} (he : e.length = s.env.length) : Gr a m s (t.back e) := by
  have h1 : (t.back e).env.length = s.env.length := he
  exact ⟨by rw [h1]; omega, by rw [h1]; omega, h.g1, h.g2, h.n1, h.n2, h.l, h.f⟩
theorem gones_len : ∀ l r : List Va, (gones l r).length = l.length
  | [], r => by cases r <;> rfl
  | v :: l, [] => rfl
  | v :: l, x :: r => by simp [gones, gones_len l r]
theorem Kp.join (s : Wk) (e : List Va) : Kp s (s.join e) := ⟨gones_len _ _, rfl, rfl, rfl, rfl⟩
theorem Gr.move (ru : Int) (nm fr : ByteArray) (s : Wk) : Gr 1 0 s (s.move ru nm fr) :=
  (((((Kp.ask ru s fr true).trans (Kp.bad _ _ _ _ _)).trans (Kp.bad _ _ _ _ _)).trans (Kp.bad _ _ _ _ _)).trans (Kp.put _ _)).then (Gr.give _ _ _)
theorem Gr.call (ru : Int) (P : List Fu) (nm fr : ByteArray) (ex : List Ex) (args : List ByteArray) (s : Wk) : Gr 1 0 s (s.call ru P nm fr ex args) := by
  unfold Wk.call
  simp only
  split
  · exact (Kp.call2 _ _ _ _ _ _).gr.mono (by omega) (by omega)
  · exact (Kp.call2 _ _ _ _ _ _).then (Gr.give _ _ _)
/-- Into a loop, and out. -/
theorem Gr.deep {a m : Nat} {s t : Wk} (h : Gr a m s.deeper t) : t.loops - 1 = s.loops ∧ s.env.length ≤ t.env.length ∧ t.env.length ≤ s.env.length + a ∧ s.given.length ≤ t.given.length ∧ t.given.length ≤ s.given.length + a ∧ s.n ≤ t.n ∧ t.n ≤ s.n + m ∧ t.f = s.f :=
  ⟨by rw [h.l]; show s.loops + 1 - 1 = _; omega, h.e1, h.e2, h.g1, h.g2, h.n1, h.n2, h.f⟩
theorem loopIn_gr (ru : Int) (k : UInt8) (nm : ByteArray) (ex : List Ex) (s : Wk) : Gr 1 0 (s.pub ru (exAt ex 0)).deeper (s.loopIn ru k nm ex) := by
  unfold Wk.loopIn
  split
  · exact Gr.give _ _ _
  · exact (Kp.refl _).gr.mono (by omega) (by omega)
mutual
theorem Gr.stmt (ru : Int) (P : List Fu) : ∀ (st : St) (s : Wk), Gr st.size (st.size - 1) s (Wk.stmt ru P st s)
  | .mk k nm fr sec mt ex args body els, s => by
    have hs : St.size (.mk k nm fr sec mt ex args body els) = 1 + St.sizes body + St.sizes els := St.size_eq _
    rw [hs]
    unfold Wk.stmt
    split
    · exact ((Kp.opn ru s (exAt ex 0) sec).then (Gr.give _ _ _)).mono (by omega) (by omega)
    split
    · exact ((((Kp.sec _ _ _).trans (Kp.ask _ _ _ _)).trans (Kp.bad _ _ _ _ _)).trans (Kp.bad _ _ _ _ _)).gr.mono (by omega) (by omega)
    split
    · exact ((Kp.pub _ _ _).then (Gr.give _ _ _)).mono (by omega) (by omega)
    split
    · exact ((((Kp.pub _ _ _).trans (Kp.sec _ _ _)).trans (Kp.turned _ _ _)).trans (Kp.bad _ _ _ _ _)).gr.mono (by omega) (by omega)
    split
    · have h1 := Kp.pub ru s (exAt ex 0)
      have h2 := (Gr.stmts ru P body (s.pub ru (exAt ex 0))).cut rfl
      have h3 := h2.back (e := (s.pub ru (exAt ex 0)).env) rfl
      have h4 := (Gr.stmts ru P els _).cut (s := ((Wk.stmts ru P body (s.pub ru (exAt ex 0))).cut (s.pub ru (exAt ex 0)).env.length).back (s.pub ru (exAt ex 0)).env) (k := (s.pub ru (exAt ex 0)).env.length) rfl
      exact (h1.then ((h3.trans h4).kp (Kp.join _ _))).mono (by omega) (by omega)
    split
    · have h2 := ((loopIn_gr ru k nm ex s).trans (Gr.stmts ru P body (s.loopIn ru k nm ex)))
      have h1 := Kp.pub ru s (exAt ex 0)
      have h3 := loopIn_gr ru k nm ex s
      have h4 := ((Gr.stmts ru P body (s.loopIn ru k nm ex)).cut rfl)
      obtain ⟨g1, g2, g3, g4, g5, g6, g7, g8⟩ := (h3.trans h4).deep
      have he : (((Wk.stmts ru P body (s.loopIn ru k nm ex)).cut (s.loopIn ru k nm ex).env.length).loopOut (s.pub ru (exAt ex 0)).env.length).env.length = s.env.length := by
        show (List.take _ _).length = _
        rw [List.length_take, Nat.min_eq_left g2, h1.env]
      refine ⟨by rw [he]; omega, by rw [he]; omega, ?_, ?_, ?_, ?_, ?_, ?_⟩
      · show s.given.length ≤ _; have := h1.giv; exact Nat.le_trans (by omega) g4
      · have := h1.giv; exact Nat.le_trans g5 (by omega)
      · have := h1.n; exact Int.le_trans (by omega) g6
      · have := h1.n; exact Int.le_trans g7 (by omega)
      · exact g1.trans h1.loops
      · exact g8.trans h1.f
    split
    · have h1 := Kp.lend1 ru fr mt ex s
      have h2 := Gr.give ru (s.lend1 ru fr mt ex).2 (Va.bufv nm (s.lend1 ru fr mt ex).1.sec mt false)
      have h3 := (Gr.stmts ru P body ((s.lend1 ru fr mt ex).2.give ru (Va.bufv nm (s.lend1 ru fr mt ex).1.sec mt false))).cut rfl
      exact ((h1.then ((h2.trans h3).cut rfl)).kp (Kp.put _ _)).mono (by omega) (by omega)
    split
    · exact (Gr.move _ _ _ _).mono (by omega) (by omega)
    split
    · exact ((Kp.sec _ _ _).then (Gr.give _ _ _)).mono (by omega) (by omega)
    split
    · exact (Gr.call _ _ _ _ _ _ _).mono (by omega) (by omega)
    · exact (Kp.sealed _ _ _).gr.mono (by omega) (by omega)
theorem Gr.stmts (ru : Int) (P : List Fu) : ∀ (l : List St) (s : Wk), Gr (St.sizes l) (St.sizes l) s (Wk.stmts ru P l s)
  | [], s => (Kp.refl _).gr
  | x :: l, s => by
    unfold Wk.stmts
    have h0 : Gr 0 1 s s.next := ⟨Nat.le_refl _, Nat.le_refl _, Nat.le_refl _, Nat.le_refl _, by show s.n ≤ s.n + 1; omega, by show s.n + 1 ≤ s.n + 1; omega, rfl, rfl⟩
    have hs := St.size_eq x
    have h1 : St.sizes (x :: l) = x.size + St.sizes l := rfl
    exact ((h0.trans (Gr.stmt ru P x s.next)).trans (Gr.stmts ru P l _)).mono (by omega) (by omega)
end
/-- Room for a more names, and m more items. -/
structure Lim (a m : Nat) (s : Wk) : Prop where
  env : s.env.length + a ≤ 1099511627776
  giv : s.given.length + a ≤ 1099511627776
  n0 : 0 ≤ s.n
  n1 : s.n + m ≤ 1099511627776
  l0 : 0 ≤ s.loops
  l1 : s.loops + a ≤ 1099511627776
theorem Lim.le {a m a' m' : Nat} {s : Wk} (h : Lim a m s) (ha : a' ≤ a) (hm : m' ≤ m) : Lim a' m' s := ⟨by have := h.env; omega, by have := h.giv; omega, h.n0, by have := h.n1; omega, h.l0, by have := h.l1; omega⟩
theorem Lim.kp {a m : Nat} {s t : Wk} (h : Lim a m s) (k : Kp s t) : Lim a m t := ⟨by rw [k.env]; exact h.env, by rw [k.giv]; exact h.giv, by rw [k.n]; exact h.n0, by rw [k.n]; exact h.n1, by rw [k.loops]; exact h.l0, by rw [k.loops]; exact h.l1⟩
theorem Lim.gr {N M a m : Nat} {s t : Wk} (h : Lim (N + a) (M + m) s) (k : Gr a m s t) : Lim N M t :=
  ⟨by have := h.env; have := k.e2; omega, by have := h.giv; have := k.g2; omega, by have := h.n0; have := k.n1; omega, by have := h.n1; have := k.n2; omega, by rw [k.l]; exact h.l0, by rw [k.l]; have := h.l1; omega⟩
theorem Lim.loopIn {a m : Nat} {s : Wk} (h : Lim (a + 1) m s) (ru : Int) (k : UInt8) (nm : ByteArray) (ex : List Ex) : Lim a m (s.loopIn ru k nm ex) := by
  have h1 := h.kp (Kp.pub ru s (exAt ex 0))
  have h2 := loopIn_gr ru k nm ex s
  have e2 := h2.e2; have g2 := h2.g2; have n1 := h2.n1; have n2 := h2.n2; have l := h2.l
  have := h1.env; have := h1.giv; have := h1.n0; have := h1.n1; have := h1.l0; have := h1.l1
  simp only [Wk.deeper] at e2 g2 n1 n2 l
  exact ⟨by omega, by omega, by omega, by omega, by omega, by omega⟩
theorem Lim.next {a m : Nat} {s : Wk} (h : Lim a (m + 1) s) : Lim a m s.next := ⟨h.env, h.giv, by have := h.n0; show 0 ≤ s.n + 1; omega, by have := h.n1; show s.n + 1 + m ≤ _; omega, h.l0, h.l1⟩
end Go.Proofs.YtnlnejpioijkiaaGreatDoor
/- Maps keyed by strings, in memory: their entries in the order in which they were put in. -/
namespace Go.Proofs.YtnlnejpioijkiaaGreatDoor
open Go.RowKit
set_option linter.unusedVariables false
set_option linter.unusedSimpArgs false
open Go.MapKept

/-- Block b is a map whose entries are those, in this order; no key twice. -/
def MapS (w : World) (b : Nat) (l : List (ByteArray × Value)) : Prop :=
  ∃ es clock, w.heap[b]? = some (.map es clock) ∧ es.toList.map (fun e => (e.key, e.val)) = l.map (fun p => (Value.string p.1, p.2)) ∧ Stamped es clock
def mhas (l : List (ByteArray × Value)) (s : ByteArray) : Bool := l.any fun p => sq p.1 s
def mget (l : List (ByteArray × Value)) (s : ByteArray) (z : Value) : Value := ((l.find? fun p => sq p.1 s).map (·.2)).getD z
def mset (l : List (ByteArray × Value)) (s : ByteArray) (v : Value) : List (ByteArray × Value) := l.map fun p => if sq p.1 s then (p.1, v) else p
def mput (l : List (ByteArray × Value)) (s : ByteArray) (v : Value) : List (ByteArray × Value) := if mhas l s then mset l s v else l ++ [(s, v)]
def mdel (l : List (ByteArray × Value)) (s : ByteArray) : List (ByteArray × Value) := l.filter fun p => !sq p.1 s

theorem MapS.lt {w : World} {b : Nat} {l : List (ByteArray × Value)} (h : MapS w b l) : b < w.heap.size := by
  obtain ⟨es, clock, hb, _⟩ := h
  exact (Array.getElem?_eq_some_iff.1 hb).1
theorem MapS.of {w w' : World} {b : Nat} {l : List (ByteArray × Value)} (h : MapS w b l) (e : w'.heap[b]? = w.heap[b]?) : MapS w' b l := by
  obtain ⟨es, clock, hb, r⟩ := h
  exact ⟨es, clock, e.trans hb, r⟩
theorem MapS.fr {S : Nat → Prop} {w w' : World} {b : Nat} {l : List (ByteArray × Value)} (h : MapS w b l) (hf : Fr S w w') (hs : ¬ S b) : MapS w' b l := h.of (hf.block b h.lt hs)
theorem MapS.new (w : World) : MapS (w.alloc (.map #[] 0)) w.heap.size [] := ⟨#[], 0, (heap_alloc w _).1, rfl, stamped_empty 0⟩

section
variable {w : World} {b : Nat} {l : List (ByteArray × Value)} {es : Array MapEntry} {clock : Nat}
theorem keys_of (h : es.toList.map (fun e => (e.key, e.val)) = l.map (fun p => (Value.string p.1, p.2))) : es.toList.map (·.key) = l.map (fun p => Value.string p.1) := by
  have := congrArg (List.map Prod.fst) h
  simpa [List.map_map, Function.comp_def] using this
theorem iskeys (h : es.toList.map (fun e => (e.key, e.val)) = l.map (fun p => (Value.string p.1, p.2))) : ∀ x ∈ es.toList, IsKey .string x.key := by
  intro x hx
  have h1 : x.key ∈ es.toList.map (·.key) := List.mem_map.2 ⟨x, hx, rfl⟩
  rw [keys_of h] at h1
  obtain ⟨p, _, e⟩ := List.mem_map.1 h1
  rw [← e]; trivial
theorem ent_at (h : es.toList.map (fun e => (e.key, e.val)) = l.map (fun p => (Value.string p.1, p.2))) {j : Nat} {e : MapEntry} {s : ByteArray} (hj : es.toList[j]? = some e) (hk : e.key = .string s) : l[j]? = some (s, e.val) := by
  have h1 : (es.toList.map (fun e => (e.key, e.val)))[j]? = some (e.key, e.val) := by rw [List.getElem?_map, hj]; rfl
  rw [h, List.getElem?_map] at h1
  cases hl : l[j]? with
  | none => rw [hl] at h1; cases h1
  | some p =>
    rw [hl] at h1
    simp only [Option.map_some, Option.some.injEq, Prod.mk.injEq] at h1
    rw [hk] at h1
    obtain ⟨h1, h2⟩ := h1
    cases h1
    rw [← h2]
theorem lkeys_nodup (h : es.toList.map (fun e => (e.key, e.val)) = l.map (fun p => (Value.string p.1, p.2))) (hs : Stamped es clock) : (l.map (·.1)).Nodup := by
  have h1 := hs.2.2
  rw [keys_of h] at h1
  have h2 : l.map (fun p => Value.string p.1) = (l.map (·.1)).map Value.string := by simp [List.map_map]
  rw [h2] at h1
  exact List.Pairwise.imp (fun hne e => hne (by rw [e])) (List.pairwise_map.1 h1)
/-- What is found. -/
theorem find_in (h : es.toList.map (fun e => (e.key, e.val)) = l.map (fun p => (Value.string p.1, p.2))) (s : ByteArray) :
    (Instr.findNow .string (.string s) es.toList 0 = some none ∧ (∀ x ∈ es.toList, x.key ≠ .string s) ∧ mhas l s = false) ∨
    ∃ j e, Instr.findNow .string (.string s) es.toList 0 = some (some (j, e.val)) ∧ es[j]? = some e ∧ e.key = .string s ∧ l[j]? = some (s, e.val) ∧ mhas l s = true := by
  rcases findNow_spec (d := .string) (k := .string s) trivial es.toList 0 (iskeys h) with ⟨h1, h2⟩ | ⟨j, e, h1, h2, h3⟩
  · refine .inl ⟨h1, h2, ?_⟩
    cases hm : mhas l s
    · rfl
    · obtain ⟨p, hp, hq⟩ := List.any_eq_true.1 hm
      have h5 : Value.string s ∈ es.toList.map (·.key) := by rw [keys_of h, List.mem_map]; exact ⟨p, hp, by rw [sq_iff.1 hq]⟩
      obtain ⟨x, hx, hxe⟩ := List.mem_map.1 h5
      exact absurd hxe (h2 x hx)
  · have hl := ent_at h h2 h3
    refine .inr ⟨j, e, by simpa using h1, by simpa using h2, h3, hl, ?_⟩
    exact List.any_eq_true.2 ⟨_, List.mem_of_getElem? hl, sq_refl s⟩
theorem find_at {l : List (ByteArray × Value)} (hn : (l.map (·.1)).Nodup) {j : Nat} {s : ByteArray} {v : Value} (h : l[j]? = some (s, v)) : (l.find? fun p => sq p.1 s) = some (s, v) := by
  induction l generalizing j with
  | nil => simp at h
  | cons p l ih =>
    cases j with
    | zero => simp at h; subst h; simp [sq_refl]
    | succ j =>
      have hn2 := List.nodup_cons.1 hn
      have hne : sq p.1 s = false := sq_no fun e => hn2.1 (List.mem_map.2 ⟨(s, v), List.mem_of_getElem? (by simpa using h), e.symm⟩)
      rw [List.find?_cons_of_neg (by simp [hne])]
      exact ih hn2.2 (by simpa using h)
theorem mget_no {s : ByteArray} (h : mhas l s = false) (z : Value) : mget l s z = z := by
  rw [mget, List.find?_eq_none.2]; rfl
  intro p hp hq
  rw [mhas, List.any_eq_false] at h
  exact h p hp hq
theorem mset_at {l : List (ByteArray × Value)} (hn : (l.map (·.1)).Nodup) {j : Nat} {s : ByteArray} {v : Value} (h : l[j]? = some (s, v)) (u : Value) : mset l s u = l.set j (s, u) := by
  induction l generalizing j with
  | nil => simp at h
  | cons p l ih =>
    have hn2 := List.nodup_cons.1 hn
    cases j with
    | zero =>
      simp at h; subst h
      have : ∀ q ∈ l, (if sq q.1 s then (q.1, u) else q) = q := by
        intro q hq
        rw [if_neg]
        intro hx
        exact hn2.1 (List.mem_map.2 ⟨q, hq, sq_iff.1 hx⟩)
      simp only [mset, List.map_cons, sq_refl, if_true, List.set_cons_zero, List.cons.injEq, true_and]
      exact (List.map_congr_left this).trans (List.map_id' l)
    | succ j =>
      have h' : l[j]? = some (s, v) := by simpa using h
      have hne : sq p.1 s = false := sq_no fun e => hn2.1 (List.mem_map.2 ⟨(s, v), List.mem_of_getElem? h', e.symm⟩)
      have := ih hn2.2 h'
      simp only [mset] at this ⊢
      rw [List.map_cons, this, hne]; rfl
theorem mdel_at {l : List (ByteArray × Value)} (hn : (l.map (·.1)).Nodup) {j : Nat} {s : ByteArray} {v : Value} (h : l[j]? = some (s, v)) : mdel l s = l.eraseIdx j := by
  induction l generalizing j with
  | nil => simp at h
  | cons p l ih =>
    have hn2 := List.nodup_cons.1 hn
    cases j with
    | zero =>
      simp at h; subst h
      have : ∀ q ∈ l, (!sq q.1 s) = true := by
        intro q hq
        rw [sq_no]; rfl
        intro hx
        exact hn2.1 (List.mem_map.2 ⟨q, hq, hx⟩)
      simp only [mdel, List.filter_cons, sq_refl, List.eraseIdx_cons_zero]
      exact List.filter_eq_self.2 this
    | succ j =>
      have h' : l[j]? = some (s, v) := by simpa using h
      have hne : sq p.1 s = false := sq_no fun e => hn2.1 (List.mem_map.2 ⟨(s, v), List.mem_of_getElem? h', e.symm⟩)
      have := ih hn2.2 h'
      simp only [mdel] at this ⊢
      rw [List.filter_cons, hne, this]; rfl
theorem mdel_no {s : ByteArray} (h : mhas l s = false) : mdel l s = l := by
  rw [mdel, List.filter_eq_self]
  intro p hp
  rw [mhas, List.any_eq_false] at h
  have := h p hp
  simpa using this
theorem fr_setBlock {w : World} {b : Nat} (o : Obj) (hb : b < w.heap.size) : Fr (fun k => k = b) w { w with heap := w.heap.setIfInBounds b o } :=
  ⟨rfl, rfl, rfl, by simp, fun k _ hn => by
    have hn : k ≠ b := hn
    simp [Ne.symm hn]⟩
end

variable {P : Program} {w : World} {b : Nat} {l : List (ByteArray × Value)} {t k e : TypeId} {z : Value}
theorem MapS.look (h : MapS w b l) (ht : P.underlying t = some (.map k e)) (hk : P.underlying k = some .string) (hz : ∀ w, (zeroValue e).run P w = .ok z w) (s : ByteArray) :
    (Instr.lookup t (.map (some b)) (.string s) true).run P w = .ok (.tuple #[mget l s z, .bool (mhas l s)]) w ∧ (Instr.lookup t (.map (some b)) (.string s) false).run P w = .ok (mget l s z) w := by
  obtain ⟨es, clock, hb, hl, hs⟩ := h
  rcases find_in hl s with ⟨h1, h2, h3⟩ | ⟨j, e0, h1, h2, h3, h4, h5⟩
  · rw [mget_no h3, h3]
    constructor <;> simp [Instr.lookup, run_underlying ht, Go.MapKept.run_getObj_map hb, Go.MapKept.run_checkKey (k := .string s) hk trivial, Go.MapKept.run_findKey hk h1, hz, Result.andThen]
  · have hf := find_at (lkeys_nodup hl hs) h4
    rw [mget, hf, h5]
    constructor <;> simp [Instr.lookup, run_underlying ht, Go.MapKept.run_getObj_map hb, Go.MapKept.run_checkKey (k := .string s) hk trivial, Go.MapKept.run_findKey hk h1, Result.andThen]
theorem MapS.del (h : MapS w b l) (ht : P.underlying t = some (.map k e)) (hk : P.underlying k = some .string) (s : ByteArray) (ty u : TypeId) :
    ∃ w', (Builtin.delete_ #[t, u] ty #[.map (some b), .string s]).run P w = .ok (.tuple #[]) w' ∧ MapS w' b (mdel l s) ∧ Fr (fun k => k = b) w w' := by
  have hlt := h.lt
  obtain ⟨es, clock, hb, hl, hs⟩ := h
  rcases find_in hl s with ⟨h1, h2, h3⟩ | ⟨j, e0, h1, h2, h3, h4, h5⟩
  · rw [mdel_no h3]
    refine ⟨_, ?_, ⟨es, clock, (heap_set hb).1, hl, hs⟩, fr_setBlock (.map es clock) hlt⟩
    simp [Builtin.delete_, run_underlying ht, Go.MapKept.run_getObj_map hb, Go.MapKept.run_checkKey (k := .string s) hk trivial, Go.MapKept.run_findKey hk h1, Go.MapKept.run_setObj_map _ hb, Result.andThen]
  · rw [mdel_at (lkeys_nodup hl hs) h4]
    refine ⟨_, ?_, ⟨es.eraseIdxIfInBounds j, clock, (heap_set hb).1, ?_, stamped_erase hs j⟩, fr_setBlock (.map (es.eraseIdxIfInBounds j) clock) hlt⟩
    · simp [Builtin.delete_, run_underlying ht, Go.MapKept.run_getObj_map hb, Go.MapKept.run_checkKey (k := .string s) hk trivial, Go.MapKept.run_findKey hk h1, Go.MapKept.run_setObj_map _ hb, Result.andThen]
    · have hj : j < es.size := (Array.getElem?_eq_some_iff.1 h2).1
      have e1 : (es.eraseIdxIfInBounds j).toList = es.toList.eraseIdx j := by
        unfold Array.eraseIdxIfInBounds; rw [dif_pos hj]; simp
      rw [e1, List.eraseIdx_eq_take_drop_succ, List.eraseIdx_eq_take_drop_succ, List.map_append, List.map_append, List.map_take, List.map_take, List.map_drop, List.map_drop, hl]
theorem modify_val {es : Array MapEntry} {l : List (ByteArray × Value)} (h : es.toList.map (fun e => (e.key, e.val)) = l.map (fun p => (Value.string p.1, p.2))) {j : Nat} {e0 : MapEntry} {s : ByteArray} (hj : es[j]? = some e0) (hk : e0.key = .string s) (v : Value) (f : MapEntry → MapEntry)
    (h1 : (f e0).key = e0.key) (h2 : (f e0).val = v) : (es.modify j f).toList.map (fun e => (e.key, e.val)) = (l.set j (s, v)).map (fun p => (Value.string p.1, p.2)) := by
  rw [List.map_set, ← h, Array.toList_modify]
  apply List.ext_getElem?
  intro i
  rw [List.getElem?_map, List.getElem?_modify, List.getElem?_set, List.getElem?_map]
  by_cases hij : j = i
  · subst hij
    have hj2 : es.toList[j]? = some e0 := by simpa using hj
    have hlt : j < es.size := (Array.getElem?_eq_some_iff.1 hj).1
    simp only [hj2, if_true, Option.map_some]
    simp [hlt, h1, h2, hk]
  · simp [hij]
theorem MapS.put (h : MapS w b l) (ht : P.underlying t = some (.map k e)) (hk : P.underlying k = some .string) (s : ByteArray) (v : Value) :
    ∃ w', (Instr.mapUpdate t (.map (some b)) (.string s) v).run P w = .ok () w' ∧ MapS w' b (mput l s v) ∧ Fr (fun k => k = b) w w' := by
  have hlt := h.lt
  obtain ⟨es, clock, hb, hl, hs⟩ := h
  rcases find_in hl s with ⟨h1, h2, h3⟩ | ⟨j, e0, h1, h2, h3, h4, h5⟩
  · rw [mput, h3]
    refine ⟨_, ?_, ⟨_, _, (heap_set hb).1, ?_, stamped_push hs h2⟩, fr_setBlock (.map (es.push ⟨.string s, v, clock⟩) (clock + 1)) hlt⟩
    · simp [Instr.mapUpdate, run_underlying ht, Go.MapKept.run_getObj_map hb, Go.MapKept.run_checkKey (k := .string s) hk trivial, Go.MapKept.run_findKey hk h1, Go.MapKept.run_setObj_map _ hb, Result.andThen]
    · simp [hl]
  · rw [mput, h5, if_pos rfl, mset_at (lkeys_nodup hl hs) h4]
    refine ⟨_, ?_, ⟨es.modify j (fun e => { e with key := .string s, val := v }), clock, (heap_set hb).1, modify_val hl h2 h3 v _ h3.symm rfl, stamped_modify hs _ _ (fun _ _ => rfl) (fun e' _ he' => by rw [h2] at he'; cases he'; exact h3.symm)⟩, fr_setBlock (.map (es.modify j (fun e => { e with key := .string s, val := v })) clock) hlt⟩
    simp [Instr.mapUpdate, run_underlying ht, Go.MapKept.run_getObj_map hb, Go.MapKept.run_checkKey (k := .string s) hk trivial, Go.MapKept.run_findKey hk h1, h2, h3, run_keyThatStays (d := .string) (k := .string s) trivial, Go.MapKept.run_setObj_map _ hb, Result.andThen]
/-- 'm[k], .. = v, ..': the entry is made first, and written behind. -/
theorem MapS.entry (h : MapS w b l) (ht : P.underlying t = some (.map k e)) (hk : P.underlying k = some .string) (hz : ∀ w, (zeroValue e).run P w = .ok z w) (s : ByteArray) :
    ∃ (v0 : Value) (st : Nat) (w' : World) (es1 : Array MapEntry) (clock1 : Nat), (Instr.mapEntry t (.map (some b)) (.string s)).run P w = .ok (.tuple #[v0, goInt st]) w' ∧ w'.heap[b]? = some (.map es1 clock1) ∧ Fr (fun k => k = b) w w' ∧
      ∀ (w2 : World) (v : Value), w2.heap[b]? = some (.map es1 clock1) → ∃ w3, (Instr.entryStore t (.map (some b)) (goInt st) v).run P w2 = .ok () w3 ∧ MapS w3 b (mput l s v) ∧ Fr (fun k => k = b) w2 w3 := by
  have hlt := h.lt
  obtain ⟨es, clock, hb, hl, hs⟩ := h
  have hs' := hs
  obtain ⟨s1, s2, _⟩ := hs'
  have findIdx_born : ∀ (es : Array MapEntry) (j : Nat) (e0 : MapEntry), (es.toList.map (·.born)).Nodup → es[j]? = some e0 → es.findIdx? (fun e => ((e.born : Nat) : Int) == ((e0.born : Nat) : Int)) = some j := by
    intro es j e0 hn hj
    obtain ⟨hj1, hj2⟩ := Array.getElem?_eq_some_iff.1 hj
    rw [Array.findIdx?_eq_some_iff_getElem]
    refine ⟨hj1, by simp [hj2], fun i hi => ?_⟩
    have hi1 : i < es.size := by omega
    simp only [beq_iff_eq, Int.natCast_inj, Bool.not_eq_true, beq_eq_false_iff_ne, ne_eq]
    intro hbe
    have hp := List.pairwise_iff_getElem.1 hn i j (by simpa using hi1) (by simpa using hj1) hi
    simp only [List.getElem_map, Array.getElem_toList] at hp
    rw [hj2] at hp
    exact hp hbe
  rcases find_in hl s with ⟨h1, h2, h3⟩ | ⟨j, e0, h1, h2, h3, h4, h5⟩
  · refine ⟨z, clock, _, es.push ⟨.string s, z, clock⟩, clock + 1, ?_, (heap_set hb).1, fr_setBlock _ hlt, fun w2 v hw2 => ?_⟩
    · simp [Instr.mapEntry, run_underlying ht, Go.MapKept.run_getObj_map hb, Go.MapKept.run_checkKey (k := .string s) hk trivial, Go.MapKept.run_findKey hk h1, hz, Go.MapKept.run_setObj_map _ hb, Result.andThen]
    · have hidx := findIdx_born (es.push ⟨.string s, z, clock⟩) es.size ⟨.string s, z, clock⟩ (stamped_push (val := z) hs h2).2.1 (by simp)
      have hmod : (es.push ⟨.string s, z, clock⟩).modify es.size (fun e => { e with val := v }) = es.push ⟨.string s, v, clock⟩ := by
        apply Array.ext_getElem?
        intro i
        rw [Array.getElem?_modify, Array.getElem?_push, Array.getElem?_push]
        by_cases hi : es.size = i
        · subst hi; simp
        · simp [hi, Ne.symm hi]
      refine ⟨_, ?_, ⟨es.push ⟨.string s, v, clock⟩, clock + 1, (heap_set hw2).1, ?_, stamped_push hs h2⟩, fr_setBlock _ (Array.getElem?_eq_some_iff.1 hw2).1⟩
      · simp [Instr.entryStore, Go.MapKept.run_getObj_map hw2, asInt, asIntOf, goInt, hidx, hmod, Go.MapKept.run_setObj_map _ hw2, Result.andThen]
      · rw [mput, h3]; simp [hl]
  · have hsame : es.modify j (fun e => { e with key := .string s }) = es := by
      apply Array.ext_getElem?
      intro i
      rw [Array.getElem?_modify]
      by_cases hi : j = i
      · subst hi; rw [h2]; simp only [if_true, Option.map_some, ← h3]
      · simp [hi]
    refine ⟨e0.val, e0.born, _, es, clock, ?_, (heap_set hb).1, fr_setBlock (.map es clock) hlt, fun w2 v hw2 => ?_⟩
    · simp [Instr.mapEntry, run_underlying ht, Go.MapKept.run_getObj_map hb, Go.MapKept.run_checkKey (k := .string s) hk trivial, Go.MapKept.run_findKey hk h1, h2, h3, run_keyThatStays (d := .string) (k := .string s) trivial, hsame, Go.MapKept.run_setObj_map _ hb, Result.andThen]
    · have hidx := findIdx_born es j e0 s2 h2
      refine ⟨_, ?_, ⟨es.modify j (fun e => { e with val := v }), clock, (heap_set hw2).1, ?_, stamped_modify hs _ _ (fun _ _ => rfl) (fun _ _ _ => rfl)⟩, fr_setBlock _ (Array.getElem?_eq_some_iff.1 hw2).1⟩
      · simp [Instr.entryStore, Go.MapKept.run_getObj_map hw2, asInt, asIntOf, goInt, hidx, Go.MapKept.run_setObj_map _ hw2, Result.andThen]
      · rw [mput, h5, if_pos rfl, mset_at (lkeys_nodup hl hs) h4]
        exact modify_val hl h2 h3 v _ rfl rfl
end Go.Proofs.YtnlnejpioijkiaaGreatDoor
/- The program's walker of scope: its state in memory, and contracts of its small methods. -/
namespace Go.Proofs.YtnlnejpioijkiaaGreatDoor
open Go.RowKit
set_option linter.unusedVariables false
set_option linter.unusedSimpArgs false

def faultV (at_ e : Int) : Value := .iface 36 (.agg #[.int .i64 at_, .int .i64 e])
def faultP (x : Int × Int) : Ending := .panicked [{ v := faultV x.1 x.2, recovered := false }]
abbrev unitV : Value := .agg #[]
def uset (l : List ByteArray) : List (ByteArray × Value) := l.map fun s => (s, unitV)
theorem mhas_uset (l : List ByteArray) (s : ByteArray) : mhas (uset l) s = inM l s := by simp [mhas, uset, inM, List.any_map, Function.comp_def]
theorem mget_uset (l : List ByteArray) (s : ByteArray) : mget (uset l) s unitV = unitV := by
  rw [mget]
  cases h : (uset l).find? fun p => sq p.1 s with
  | none => rfl
  | some p =>
    have := List.mem_of_find?_eq_some h
    obtain ⟨x, _, rfl⟩ := List.mem_map.1 this
    rfl
theorem mput_uset (l : List ByteArray) (s : ByteArray) : mput (uset l) s unitV = uset (addN l s) := by
  rw [mput, addN, mhas_uset]
  split
  · rw [mset, uset, List.map_map]
    apply List.map_congr_left
    intro x _
    simp only [Function.comp]
    split <;> rfl
  · simp [uset]
theorem mdel_uset (l : List ByteArray) (s : ByteArray) : mdel (uset l) s = uset (delN l s) := by
  simp [mdel, uset, delN, List.filter_map, Function.comp_def]
theorem und78 : Tryz.prog.underlying 59 = some (.map 9 125) := by kernel_rfl
theorem undStr : Tryz.prog.underlying 9 = some .string := by kernel_rfl
theorem zeroU (w : World) : (zeroValue 125).run Tryz.prog w = .ok unitV w := by kernel_rfl
/-- A walker that lies in block b, with its maps. -/
structure ScAt (base b : Nat) (PV : Value) (w : World) (a : Sc) (bk bg : Nat) : Prop where
  blk : w.heap[b]? = some (.cells #[PV, .int .i64 a.n, .map (some bk), .map (some bg)] 61 (0, 0))
  kn : MapS w bk (uset a.kn)
  gi : MapS w bg (uset a.gi)
  ne : bk ≠ bg
  hb : base ≤ b
  hk : base ≤ bk
  hg : base ≤ bg
def SS (b bk bg : Nat) (k : Nat) : Prop := k = b ∨ k = bk ∨ k = bg
theorem ScAt.fr {base b : Nat} {PV : Value} {w w' : World} {a : Sc} {bk bg : Nat} {S : Nat → Prop} (h : ScAt base b PV w a bk bg) (hf : Fr S w w') (hs : ∀ k, SS b bk bg k → ¬ S k) : ScAt base b PV w' a bk bg :=
  ⟨blk_fr h.blk hf (hs _ (.inl rfl)), h.kn.fr hf (hs _ (.inr (.inl rfl))), h.gi.fr hf (hs _ (.inr (.inr rfl))), h.ne, h.hb, h.hk, h.hg⟩
theorem ScAt.stay {base b : Nat} {PV : Value} {w w' : World} {a : Sc} {bk bg : Nat} (h : ScAt base b PV w a bk bg) (hf : Fr Non w w') : ScAt base b PV w' a bk bg := h.fr hf fun _ _ => non _
theorem ScAt.bk_ne {base b : Nat} {PV : Value} {w : World} {a : Sc} {bk bg : Nat} (h : ScAt base b PV w a bk bg) : bk ≠ b ∧ bg ≠ b := by
  have h1 := h.blk
  constructor
  · rintro rfl; obtain ⟨es, cl, hb, _⟩ := h.kn; rw [h1] at hb; cases hb
  · rintro rfl; obtain ⟨es, cl, hb, _⟩ := h.gi; rw [h1] at hb; cases hb
theorem ScAt.lt {base b : Nat} {PV : Value} {w : World} {a : Sc} {bk bg : Nat} (h : ScAt base b PV w a bk bg) : ∀ k, SS b bk bg k → base ≤ k ∧ k < w.heap.size := fun k hk => by
  rcases hk with rfl | rfl | rfl
  · exact ⟨h.hb, blk_lt h.blk⟩
  · exact ⟨h.hk, h.kn.lt⟩
  · exact ⟨h.hg, h.gi.lt⟩
def Sc.err (a : Sc) (e : Int) : Ending := faultP (a.n, e)
/-- What comes of asking: done, or a panic with the fault. -/
def AskR (a : Sc) (b : Bool) (e : Ending) : Prop := e = if b then .returned (.tuple #[]) else .panicked [{ v := faultV a.n 3, recovered := false }]
theorem AskR.t {a : Sc} {e : Ending} (h : AskR a true e) : e = .returned (.tuple #[]) := h
theorem AskR.f {a : Sc} {e : Ending} (h : AskR a false e) : e = .panicked [{ v := faultV a.n 3, recovered := false }] := h
theorem askR_t {a : Sc} {b : Bool} (h : b = true) : AskR a b (.returned (.tuple #[])) := by subst h; rfl
theorem askR_f {a : Sc} {b : Bool} (h : b = false) : AskR a b (.panicked [{ v := faultV a.n 3, recovered := false }]) := by subst h; rfl

theorem scbad_any (base b : Nat) (PV : Value) (w : World) (a : Sc) (bk bg : Nat) (er : Int) (h : w.cell? ⟨b, 1, none⟩ = some (.int .i64 a.n)) :
    Calls Tryz.prog 38 #[.pointer (some ⟨b, 0, none⟩), .int .i64 er] w fun e w' => e = a.err er ∧ w = w' := by
  go_enter Tryz.func38, Tryz.ntmps38
  go_wp2_with fail
  exact ⟨rfl, rfl, rfl⟩

set_option maxRecDepth 100000 in
theorem scask_any (base b : Nat) (PV : Value) (w : World) (a : Sc) (bk bg : Nat) (nm : ByteArray) (h : ScAt base b PV w a bk bg) :
    Calls Tryz.prog 68 #[.pointer (some ⟨b, 0, none⟩), .string nm] w fun e w' => AskR a (inM a.kn nm) e ∧ Fr Non w w' := by
  have b1 := (cells_of h.blk).1 1 _ rfl
  have b2 := (cells_of h.blk).1 2 _ rfl
  have hl := (h.kn.look und78 undStr zeroU nm).1
  rw [mhas_uset, mget_uset] at hl
  unfold unitV at hl
  have H := Lib.hid h; clear h
  generalize hin : inM a.kn nm = q at *
  clear hin
  cases q with
  | true =>
    go_enter Tryz.func68, Tryz.ntmps68
    go_wp2_with fail
    go_end0
    exact ⟨rfl, (fr_refl w).alloc _⟩
  | false =>
    go_enter Tryz.func68, Tryz.ntmps68
    go_wp2_with fail
    refine (scbad_any base b PV _ a bk bg 3 ?_).mono ?_
    · simpa using ((fr_refl w).alloc _).cell' b1 (non _)
    rintro e w' ⟨rfl, rfl⟩
    unfold Sc.err faultP
    go_wp2_with fail
    exact ⟨rfl, rfl, (fr_refl w).alloc _⟩

theorem asks_mk (k : ByteArray → Bool) (e : Ex) : Ex.asks k e = ((emp e.name || k e.name) && Ex.askss k e.kids) := by cases e; rfl
theorem askss_false (k : ByteArray → Bool) (l : List Ex) (j : Nat) (hj : j < l.length) (h : Ex.asks k l[j] = false) : Ex.askss k l = false := by
  rw [askss_all]; exact all_false_of j hj h
theorem askss_true (k : ByteArray → Bool) (l : List Ex) (h : ∀ j (hj : j < l.length), Ex.asks k l[j] = true) : Ex.askss k l = true := by
  rw [askss_all]; exact all_true_of h

set_option maxRecDepth 100000 in
set_option maxHeartbeats 1000000 in
theorem scexprs_any (N : Nat) : ∀ (l : List Ex) (ok : Nat → Prop) (A : Option Addr) (c base b : Nat) (PV : Value) (w : World) (a : Sc) (bk bg : Nat), Ex.sizes l < N → RdRows ok w 5 A 0 (Ex.ds l) → l.length * 64 ≤ reach → ScAt base b PV w a bk bg →
    Calls Tryz.prog 41 #[.pointer (some ⟨b, 0, none⟩), .slice A l.length c] w fun e w' => AskR a (Ex.askss (inM a.kn) l) e ∧ Fr Non w w' := by
  induction N with
  | zero => intro l ok A c base b PV w a bk bg hN; omega
  | succ N ih =>
    intro l ok A c base b PV w a bk bg hN hr hc h
    have hlen : l.length ≤ 140737488355328 := by unfold reach at hc; omega
    have IH := Lib.hid ih; clear ih
    have HR := Lib.hid hr; clear hr
    have H := Lib.hid h; clear h
    go_enter Tryz.func41, Tryz.ntmps41
    go_wp2_with fail
    go_loopw [8] (fun i wr => ∃ k : Nat, i = .int .i64 k ∧ k ≤ l.length ∧ Fr Non w wr ∧ ∀ j, j < k → ∀ hj : j < l.length, Ex.asks (inM a.kn) l[j] = true) (fun i _ => l.length - (intOf i).toNat)
    case atStart => exact ⟨0, rfl, by omega, fr_refl w, fun j hj => by omega⟩
    case round =>
      obtain ⟨k, rfl, hk, hfr, hno⟩ := hrel
      have HN := Lib.hid hno; clear hno
      have hrr := HR.out.fr hfr (fun _ _ => non _) (fun _ h => h)
      have HS := Lib.hid (H.out.stay hfr)
      have HF := Lib.hid hfr; clear hfr
      by_cases hlt : k < l.length
      · obtain ⟨g, o, A', c', rfl, hd, e0, e1, e2, e3, e4, p1, q1, r1⟩ := at_ex hrr k hlt
        have hsz := size_le l k hlt
        have HR1 := Lib.hid r1; clear r1 hrr
        generalize hx : l[k] = x at *
        have HX := Lib.hid hx; clear hx
        have key : ∀ w1, Fr Non wr w1 → Calls Tryz.prog 41 #[.pointer (some ⟨b, 0, none⟩), .slice A' x.kids.length c'] w1 fun e w' => AskR a (Ex.askss (inM a.kn) x.kids) e ∧ Fr Non w1 w' := by
          intro w1 hf1
          refine IH.out x.kids ok A' c' base b PV w1 a bk bg ?_ (HR1.out.fr hf1 (fun _ _ => non _) (fun _ h => h)) q1 (HS.out.stay hf1)
          have : x.size = 1 + Ex.sizes x.kids := by cases x; rfl
          omega
        have KEY := Lib.hid key; clear key
        have hfail : ∀ q, Ex.asks (inM a.kn) x = q → q = false → Ex.askss (inM a.kn) l = false := by
          rintro q h rfl
          exact askss_false _ l k hlt (by rw [HX.out]; exact h)
        have HFAIL := Lib.hid hfail; clear hfail
        have HAX := Lib.hid (asks_mk (inM a.kn) x)
        cases he : emp x.name with
        | true =>
          have he' := he; rw [← toemp] at he'
          have HE := Lib.hid he; clear he
          go_wp2_with fail
          refine (KEY.out _ ((fr_refl wr).alloc _)).mono ?_
          rintro e w2 ⟨he1, hf2⟩
          cases hk2 : Ex.askss (inM a.kn) x.kids with
          | true =>
            rw [hk2] at he1; obtain rfl := he1.t; clear he1
            have HK2 := Lib.hid hk2; clear hk2
            go_wp2_with fail
            go_roundw
            case rel => exact ⟨k + 1, by go_num, by omega, HF.out.trans (box_fr hf2), till HN.out fun _ => by rw [HX.out, HAX.out, HE.out, HK2.out]; rfl⟩
            case measure => simp [intOf]; omega
          | false =>
            have hff := HFAIL.out _ HAX.out (by rw [HE.out, hk2]; rfl)
            rw [hk2] at he1; obtain rfl := he1.f; clear he1
            have HK2 := Lib.hid hff; clear hff hk2
            go_wp2_with fail
            exact ⟨rfl, askR_f HK2.out, HF.out.trans (box_fr hf2)⟩
        | false =>
          have he' := he; rw [← toemp] at he'
          have he2 : (!x.name.toList.isEmpty) = true := by rw [he']; rfl
          have HE := Lib.hid he; clear he
          go_wp2_with fail
          refine (scask_any base b PV _ a bk bg x.name (HS.out.stay ((fr_refl wr).alloc _))).mono ?_
          rintro e w2 ⟨he1, hf2⟩
          cases hk1 : inM a.kn x.name with
          | false =>
            have hff := HFAIL.out _ HAX.out (by rw [HE.out, hk1]; rfl)
            rw [hk1] at he1; obtain rfl := he1.f; clear he1
            have HK2 := Lib.hid hff; clear hff hk1
            go_wp2_with fail
            exact ⟨rfl, askR_f HK2.out, HF.out.trans (box_fr hf2)⟩
          | true =>
            rw [hk1] at he1; obtain rfl := he1.t; clear he1
            have HK1 := Lib.hid hk1; clear hk1
            have c4 : w2.cell? ⟨wr.heap.size, 4, none⟩ = some (.slice A' x.kids.length c') := box_cells hf2 (non _) 4 _ rfl
            go_wp2_with fail
            refine (KEY.out _ (box_fr hf2)).mono ?_
            rintro e w3 ⟨he1, hf3⟩
            cases hk2 : Ex.askss (inM a.kn) x.kids with
            | true =>
              rw [hk2] at he1; obtain rfl := he1.t; clear he1
              have HK2 := Lib.hid hk2; clear hk2
              go_wp2_with fail
              go_roundw
              case rel => exact ⟨k + 1, by go_num, by omega, HF.out.trans ((box_fr hf2).trans hf3), till HN.out fun _ => by rw [HX.out, HAX.out, HE.out, HK2.out, HK1.out]; rfl⟩
              case measure => simp [intOf]; omega
            | false =>
              have hff := HFAIL.out _ HAX.out (by rw [HE.out, hk2, HK1.out]; rfl)
              rw [hk2] at he1; obtain rfl := he1.f; clear he1
              have HK2 := Lib.hid hff; clear hff hk2
              go_wp2_with fail
              exact ⟨rfl, askR_f HK2.out, HF.out.trans ((box_fr hf2).trans hf3)⟩
      · go_wp2_with fail
        go_end0
        exact ⟨askR_t (askss_true _ l fun j hj => HN.out j (by omega) hj), HF.out⟩
end Go.Proofs.YtnlnejpioijkiaaGreatDoor
/- The program's walker of scope: names that are given, and taken away. -/
namespace Go.Proofs.YtnlnejpioijkiaaGreatDoor
open Go.RowKit
set_option linter.unusedVariables false
set_option linter.unusedSimpArgs false

theorem wp_delete_run {P : Program} {ops : Array Oper} {rest : List Oper} {o : Oper} {a : Act} {Q : Exit → Act → World → Prop} {w w' : World} {t u : TypeId} {m k : Value} (hgd : o.guard = none) (s x : Operand)
    (ho : o.op = .call { callee := .builtin .delete, args := #[s, x], argTypes := #[t, u] }) (hs : a.eval s = m) (hx : a.eval x = k) (hr : (Builtin.delete_ #[t, u] o.type #[m, k]).run P w = .ok (.tuple #[]) w')
    (hres : wpList P ops Q rest (a.put o.dst (.tuple #[])) w') : wpList P ops Q (o :: rest) a w := by
  refine wpList_plain hgd fun K hK => ?_
  unfold Oper.wp execOp
  simp only [ho, resolve, invoke, builtin, Sem.run_bind, Sem.run_pure, Result.andThen_ok, List.map_toArray, List.map_cons, List.map_nil, hs, hx, hr]
  exact hK _ _ hres

set_option maxRecDepth 100000 in
theorem scaway_any (base b pw ps : Nat) (PV : Value) (w : World) (a : Sc) (bk bg : Nat) (nm : ByteArray) (h : ScAt base b PV w a bk bg) (hw : w.cell? ⟨pw, 0, none⟩ = some (.pointer (some ⟨b, 0, none⟩))) (hn : w.cell? ⟨ps, 0, none⟩ = some (.string nm)) :
    Calls Tryz.prog 67 #[.pointer (some ⟨pw, 0, none⟩), .pointer (some ⟨ps, 0, none⟩)] w fun e w' => e = .returned (.tuple #[]) ∧ Fr (fun k => k = bk) w w' ∧ ScAt base b PV w' (a.del nm) bk bg := by
  have b2 := (cells_of h.blk).1 2 _ rfl
  have H := Lib.hid h; clear h
  go_enter Tryz.func67, Tryz.ntmps67
  go_wp2_with fail
  go_still_tail 5, (by kernel_rfl)
  change wpList _ _ _ _ _ w.drew
  have h1 := H.out.stay (fr_refl w).drew
  obtain ⟨w2, hr, hm, hf⟩ := h1.kn.del und78 undStr nm 0 9
  rw [mdel_uset] at hm
  refine wp_delete_run rfl (.tmp 5) (.tmp 6) rfl rfl rfl hr ?_
  have hF := (fr_refl w).drew.non.trans hf
  have hne := h1.bk_ne
  have h2 : ScAt base b PV w2 (a.del nm) bk bg := ⟨blk_fr h1.blk hf (Ne.symm hne.1), hm, h1.gi.fr hf (Ne.symm h1.ne), h1.ne, h1.hb, h1.hk, h1.hg⟩
  clear hr hm hf hne
  have H2 := Lib.hid h2; clear h2 h1
  have HF := Lib.hid hF; clear hF
  go_wp2_with fail
  go_end0
  exact ⟨rfl, HF.out, H2.out⟩

/-- What taking away a name is: a closure over the walker and the name. -/
def AwayV (b : Nat) (w : World) (v : Value) (nm : ByteArray) (pw ps : Nat) : Prop :=
  v = .func (.func 67) #[] #[.pointer (some ⟨pw, 0, none⟩), .pointer (some ⟨ps, 0, none⟩)] ∧ w.heap[pw]? = some (.cells #[.pointer (some ⟨b, 0, none⟩)] 58 (0, 0)) ∧ w.heap[ps]? = some (.cells #[.string nm] 9 (0, 0))
def GiveR (base b : Nat) (PV : Value) (w : World) (a : Sc) (bk bg : Nat) (nm : ByteArray) (e : Ending) (w' : World) : Prop := match a.give nm with
  | .error x => e = faultP x ∧ Fr Non w w'
  | .ok a1 => ∃ v pw ps, e = .returned v ∧ AwayV b w' v nm pw ps ∧ w.heap.size ≤ pw ∧ w.heap.size ≤ ps ∧ Fr (SS b bk bg) w w' ∧ ScAt base b PV w' a1 bk bg

set_option maxRecDepth 100000 in
set_option maxHeartbeats 1000000 in
theorem scgive_any (base b : Nat) (PV : Value) (w : World) (a : Sc) (bk bg : Nat) (nm : ByteArray) (h : ScAt base b PV w a bk bg) :
    Calls Tryz.prog 39 #[.pointer (some ⟨b, 0, none⟩), .string nm] w (GiveR base b PV w a bk bg nm) := by
  obtain ⟨W1, HW1⟩ : ∃ W1, W1 = (w.alloc (.cells #[.pointer (some ⟨b, 0, none⟩)] 58)).alloc (.cells #[.string nm] 9) := ⟨_, rfl⟩
  have hf1 : Fr Non w W1 := by rw [HW1]; exact ((fr_refl w).alloc _).alloc _
  have hsz : W1.heap.size = w.heap.size + 2 := by rw [HW1]; simp
  have xb0 : W1.heap[w.heap.size]? = some (.cells #[.pointer (some ⟨b, 0, none⟩)] 58 (0, 0)) := by rw [HW1]; exact blk_fr (blk_new _ _ _) ((fr_refl _).alloc _) (non _)
  have xb1 : W1.heap[w.heap.size + 1]? = some (.cells #[.string nm] 9 (0, 0)) := by rw [HW1]; exact blk_new' (by simp) _ _
  have x0 := (cells_of xb0).1 0 _ rfl
  have x1 := (cells_of xb1).1 0 _ rfl
  have XB0 := Lib.hid xb0; clear xb0
  have XB1 := Lib.hid xb1; clear xb1
  have h1 := h.stay hf1
  have b3 := (cells_of h1.blk).1 3 _ rfl
  have hl1 := ((h1.stay (fr_refl W1).drew).gi.look und78 undStr zeroU nm).1
  have hl2 := fun o => (((h1.stay ((fr_refl W1).alloc o).drew).gi.look und78 undStr zeroU nm)).1
  have lt0 : w.heap.size < W1.heap.size := by omega
  have lt1 : w.heap.size + 1 < W1.heap.size := by omega
  have lt2 : b < W1.heap.size := blk_lt h1.blk
  simp only [mhas_uset, mget_uset, unitV] at hl1 hl2
  have H := Lib.hid h; clear h
  have H1 := Lib.hid h1; clear h1
  have HF1 := Lib.hid hf1; clear hf1
  have HSZ := Lib.hid hsz; clear hsz
  generalize hq : inM a.gi nm = q at *
  have HQ := Lib.hid hq; clear hq
  go_enter Tryz.func39, Tryz.ntmps39
  go_wp2_with fail
  rw [← HW1]
  clear HW1
  go_region
  obtain ⟨W2, HW2⟩ : ∃ W2, W2 = (W1.alloc (.cells #[] 125)).drew := ⟨_, rfl⟩
  rw [← HW2]
  have hf2 : Fr Non W1 W2 := by rw [HW2]; exact ((fr_refl W1).alloc _).drew
  clear HW2
  have h2 := H1.out.stay hf2
  have y0 := hf2.cell' x0 (non _)
  have y1 := hf2.cell' x1 (non _)
  have YB0 := Lib.hid (blk_fr XB0.out hf2 (non _))
  have YB1 := Lib.hid (blk_fr XB1.out hf2 (non _))
  have HF2 := Lib.hid (HF1.out.trans hf2)
  have b1 := (cells_of h2.blk).1 1 _ rfl
  have b2 := (cells_of h2.blk).1 2 _ rfl
  have b3 := (cells_of h2.blk).1 3 _ rfl
  have hb0 := blk_lt H.out.blk
  have H2 := Lib.hid h2; clear h2
  clear hl1 hl2 x0 x1 lt0 lt1 lt2 hf2
  cases q with
  | true =>
    go_wp2_with fail
    refine (scbad_any base b PV W2 a bk bg 9 b1).mono ?_
    rintro e w' ⟨rfl, rfl⟩
    unfold Sc.err faultP
    go_wp2_with fail
    refine ⟨rfl, ?_⟩
    unfold GiveR Sc.give
    rw [HQ.out]
    exact ⟨rfl, HF2.out⟩
  | false =>
    have h2d := H2.out.stay (fr_refl W2).drew
    have hne := h2d.bk_ne
    obtain ⟨v0, st0, W3, es0, cl0, hm0, hb0', hfr0, hst0⟩ := h2d.gi.entry und78 undStr zeroU nm
    obtain ⟨W4, hs0, hgi, hfr0'⟩ := hst0 W3 unitV hb0'
    have hfg := hfr0.trans hfr0'
    have hkn4 := h2d.kn.fr hfg h2d.ne
    obtain ⟨v1, st1, W5, es1, cl1, hm1, hb1', hfr1, hst1⟩ := hkn4.entry und78 undStr zeroU nm
    obtain ⟨W6, hs1, hkn, hfr1'⟩ := hst1 W5 unitV hb1'
    have hfk := hfr1.trans hfr1'
    have hB1 : w.heap.size ≠ bg ∧ w.heap.size + 1 ≠ bg ∧ w.heap.size ≠ bk ∧ w.heap.size + 1 ≠ bk := by
      have h1 := (H.out.lt bg (.inr (.inr rfl))).2
      have h2 := (H.out.lt bk (.inr (.inl rfl))).2
      omega
    have z1 := hfr0.cell' (show W2.drew.cell? ⟨w.heap.size + 1, 0, none⟩ = some (.string nm) from y1) hB1.2.1
    have z2 := hfr0'.cell' z1 hB1.2.1
    have u0 := blk_fr (blk_fr (blk_fr YB0.out (fr_refl W2).drew (non _)) hfg hB1.1) hfk hB1.2.2.1
    have u1 := blk_fr (blk_fr (blk_fr YB1.out (fr_refl W2).drew (non _)) hfg hB1.2.1) hfk hB1.2.2.2
    have h6 : ScAt base b PV W6 ⟨addN a.kn nm, addN a.gi nm, a.n⟩ bk bg := by
      rw [mput_uset] at hgi hkn
      exact ⟨blk_fr (blk_fr h2d.blk hfg (Ne.symm hne.2)) hfk (Ne.symm hne.1), hkn, hgi.fr hfk (Ne.symm h2d.ne), h2d.ne, h2d.hb, h2d.hk, h2d.hg⟩
    have hF6 : Fr (SS b bk bg) w W6 := (((HF2.out.trans (fr_refl W2).drew).non).trans (hfg.mono fun _ _ h => .inr (.inr h))).trans (hfk.mono fun _ _ h => .inr (.inl h))
    have H6 := Lib.hid h6; clear h6
    have HF6 := Lib.hid hF6; clear hF6
    have U0 := Lib.hid u0; clear u0
    have U1 := Lib.hid u1; clear u1
    clear hfg hfk hfr0 hfr0' hfr1 hfr1' hgi hkn hkn4 hst0 hst1 hb0' hb1' hne hB1 h2d
    simp only [unitV, goInt] at hs0 hs1 hm0 hm1
    go_wp2_with fail
    go_region
    clear hm0 hm1 hs0 hs1 z1 z2 y0 y1 b1 b2 b3
    have hmf : ∀ (fn : Fn) (first cap : Array Value) (w : World), (Instr.makeFunc fn first cap).run Tryz.prog w = .ok (.func fn first cap) w := fun _ _ _ _ => rfl
    go_wp2_with fail
    go_ret
    unfold GiveR Sc.give
    rw [HQ.out]
    exact ⟨_, _, _, rfl, ⟨rfl, U0.out, U1.out⟩, Nat.le_refl _, Nat.le_succ _, HF6.out, H6.out⟩
end Go.Proofs.YtnlnejpioijkiaaGreatDoor
/- The program's walker of scope: is a function ahead. -/
namespace Go.Proofs.YtnlnejpioijkiaaGreatDoor
open Go.RowKit
set_option linter.unusedVariables false
set_option linter.unusedSimpArgs false

abbrev fuV (f : Fu) (A1 A2 A3 : Option Addr) (c1 c2 c3 : Nat) : Value := .agg #[.string f.name, .slice A1 f.params.length c1, .slice A2 f.body.length c2, .bool f.sec, .slice A3 f.ret.length c3]

set_option maxRecDepth 100000 in
theorem stmtf_any (f : Fu) (A1 A2 A3 : Option Addr) (c1 c2 c3 bs : Nat) (fr : ByteArray) (w : World) (h : w.cell? ⟨bs, 2, none⟩ = some (.string fr)) :
    Calls Tryz.prog 69 #[fuV f A1 A2 A3 c1 c2 c3, .pointer (some ⟨bs, 0, none⟩)] w fun e w' => e = .returned (.bool (sq f.name fr)) ∧ Fr Non w w' := by
  have hlt := World.block_lt_of_cell? w _ h
  go_enter Tryz.func69, Tryz.ntmps69
  go_wp2_with fail
  go_ret
  exact ⟨ret_bool (tosq _ _), (fr_refl w).alloc _⟩
set_option maxRecDepth 100000 in
theorem funf_any (f : Fu) (A1 A2 A3 : Option Addr) (c1 c2 c3 bs : Nat) (fr : ByteArray) (w : World) (h : w.cell? ⟨bs, 0, none⟩ = some (.string fr)) :
    Calls Tryz.prog 37 #[fuV f A1 A2 A3 c1 c2 c3, .pointer (some ⟨bs, 0, none⟩)] w fun e w' => e = .returned (.bool (sq f.name fr)) ∧ Fr Non w w' := by
  have hlt := World.block_lt_of_cell? w _ h
  go_enter Tryz.func37, Tryz.ntmps37
  go_wp2_with fail
  go_ret
  exact ⟨ret_bool (tosq _ _), (fr_refl w).alloc _⟩

set_option maxRecDepth 100000 in
set_option maxHeartbeats 1000000 in
theorem ixfn_any (K : FuncId) (hK : ∀ (args : Array Value) (w : World), (callFunc K args).run Tryz.prog w = .ok (.enter K args) w) (cap : Array Value) (p : Fu → Bool) (l : List Fu) (F : Nat) (hF : F ≤ l.length) (ok : Nat → Prop) (A : Option Addr) (c : Nat) (w : World) (hr : RdRows ok w 5 A 0 (l.map Fu.d)) (hc : l.length * 96 ≤ reach)
   (hcl : ∀ (f : Fu) (A1 A2 A3 : Option Addr) (c1 c2 c3 : Nat) (w1 : World), Fr Non w w1 → Calls Tryz.prog K (#[fuV f A1 A2 A3 c1 c2 c3] ++ cap) w1 fun e w' => e = .returned (.bool (p f)) ∧ Fr Non w1 w') :
   Calls Tryz.prog 66 #[.slice A F c, .func (.func K) #[] cap] w fun e w' => (∃ i : Int, e = .returned (.int .i64 i) ∧ decide (0 ≤ i) = (l.take F).any p) ∧ Fr Non w w' := by
  have hlen : l.length ≤ 140737488355328 := by unfold reach at hc; omega
  have HR := Lib.hid hr; clear hr
  have HC := Lib.hid hcl; clear hcl
  go_enter Tryz.func66, Tryz.ntmps66
  go_wp2_with fail
  go_loopw [8] (fun i wr => ∃ k : Nat, i = .int .i64 k ∧ k ≤ F ∧ Fr Non w wr ∧ ∀ j, j < k → ∀ hj : j < l.length, p l[j] = false) (fun i _ => F - (intOf i).toNat)
  case atStart => exact ⟨0, rfl, by omega, fr_refl w, fun j hj => by omega⟩
  case round =>
    obtain ⟨k, rfl, hk, hfr, hno⟩ := hrel
    have HN := Lib.hid hno; clear hno
    have hrr := HR.out.fr hfr (fun _ _ => non _) (fun _ h => h)
    have HF := Lib.hid hfr; clear hfr
    by_cases hlt : k < F
    · obtain ⟨g, o, A1, c1, A2, c2, A3, c3, rfl, hd, e0, e1, e2, e3, e4, _⟩ := at_fu hrr k (by omega)
      clear hrr
      go_wp2_with fail
      refine (HC.out l[k] A1 A2 A3 c1 c2 c3 wr HF.out).mono ?_
      rintro e w2 ⟨rfl, hf2⟩
      generalize hp : p l[k] = q
      have HP := Lib.hid hp; clear hp
      cases q with
      | true =>
        go_wp2_with fail
        go_ret
        refine ⟨⟨_, rfl, ?_⟩, HF.out.trans hf2⟩
        rw [any_true_of (l := l.take F) k (by rw [List.length_take]; omega) (by rw [List.getElem_take]; exact HP.out)]
        simp
      | false =>
        go_wp2_with fail
        go_roundw
        case rel => exact ⟨k + 1, by go_num, by omega, HF.out.trans hf2, till HN.out fun _ => HP.out⟩
        case measure => simp [intOf]; omega
    · go_wp2_with fail
      go_ret
      refine ⟨⟨_, rfl, ?_⟩, HF.out⟩
      rw [any_false_of (l := l.take F) fun j hj => by rw [List.length_take] at hj; rw [List.getElem_take]; exact HN.out j (by omega) (by omega)]
      rfl

set_option maxRecDepth 100000 in
theorem cofn_any (K : FuncId) (hK : ∀ (args : Array Value) (w : World), (callFunc K args).run Tryz.prog w = .ok (.enter K args) w) (cap : Array Value) (p : Fu → Bool) (l : List Fu) (F : Nat) (hF : F ≤ l.length) (ok : Nat → Prop) (A : Option Addr) (c : Nat) (w : World) (hr : RdRows ok w 5 A 0 (l.map Fu.d)) (hc : l.length * 96 ≤ reach)
   (hcl : ∀ (f : Fu) (A1 A2 A3 : Option Addr) (c1 c2 c3 : Nat) (w1 : World), Fr Non w w1 → Calls Tryz.prog K (#[fuV f A1 A2 A3 c1 c2 c3] ++ cap) w1 fun e w' => e = .returned (.bool (p f)) ∧ Fr Non w1 w') :
   Calls Tryz.prog 36 #[.slice A F c, .func (.func K) #[] cap] w fun e w' => e = .returned (.bool ((l.take F).any p)) ∧ Fr Non w w' := by
  have h := ixfn_any K hK cap p l F hF ok A c w hr hc hcl
  clear hcl hK
  have H := Lib.hid h; clear h
  go_enter Tryz.func36, Tryz.ntmps36
  go_wp2_with fail
  refine H.out.mono ?_
  rintro e w2 ⟨⟨i, rfl, hi⟩, hf2⟩
  have HI := Lib.hid hi; clear hi
  go_wp2_with fail
  go_ret
  exact ⟨ret_bool HI.out, hf2⟩
theorem enter128 : ∀ (args : Array Value) (w : World), (callFunc 69 args).run Tryz.prog w = .ok (.enter 69 args) w := fun _ _ => by kernel_rfl
theorem enter90 : ∀ (args : Array Value) (w : World), (callFunc 37 args).run Tryz.prog w = .ok (.enter 37 args) w := fun _ _ => by kernel_rfl
theorem called_any (l : List Fu) (F bs : Nat) (hF : F ≤ l.length) (ok : Nat → Prop) (A : Option Addr) (c : Nat) (fr : ByteArray) (w : World) (hr : RdRows ok w 5 A 0 (l.map Fu.d)) (hc : l.length * 96 ≤ reach) (h : w.cell? ⟨bs, 2, none⟩ = some (.string fr)) :
   Calls Tryz.prog 36 #[.slice A F c, .func (.func 69) #[] #[.pointer (some ⟨bs, 0, none⟩)]] w fun e w' => e = .returned (.bool ((l.take F).any fun f => sq f.name fr)) ∧ Fr Non w w' :=
  cofn_any _ enter128 _ (fun f => sq f.name fr) l F hF ok A c w hr hc fun f A1 A2 A3 c1 c2 c3 w1 hf => stmtf_any f A1 A2 A3 c1 c2 c3 bs fr w1 (hf.cell' h (non _))
theorem named_ahead_any (l : List Fu) (F bs : Nat) (hF : F ≤ l.length) (ok : Nat → Prop) (A : Option Addr) (c : Nat) (fr : ByteArray) (w : World) (hr : RdRows ok w 5 A 0 (l.map Fu.d)) (hc : l.length * 96 ≤ reach) (h : w.cell? ⟨bs, 0, none⟩ = some (.string fr)) :
   Calls Tryz.prog 36 #[.slice A F c, .func (.func 37) #[] #[.pointer (some ⟨bs, 0, none⟩)]] w fun e w' => e = .returned (.bool ((l.take F).any fun f => sq f.name fr)) ∧ Fr Non w w' :=
  cofn_any _ enter90 _ (fun f => sq f.name fr) l F hF ok A c w hr hc fun f A1 A2 A3 c1 c2 c3 w1 hf => funf_any f A1 A2 A3 c1 c2 c3 bs fr w1 (hf.cell' h (non _))
end Go.Proofs.YtnlnejpioijkiaaGreatDoor
/- The program's walker of scope: what takes names away; lists of them. -/
namespace Go.Proofs.YtnlnejpioijkiaaGreatDoor
open Go.RowKit
set_option linter.unusedVariables false
set_option linter.unusedSimpArgs false

theorem app_fn {ops : Array Oper} {rest : List Oper} {o : Oper} {a : Act} {Q : Exit → Act → World → Prop} {w : World} (hgd : o.guard = none) (s x : Operand)
    (ho : o.op = .call { callee := .builtin .append, args := #[s, x], argTypes := #[84, 84] })
    (base : Nat) (v : Value) (xs : List Value) (hs : a.eval s = v) (hown : w.ownsRow base 1 1 v xs.length xs)
    (A : Option Addr) (c : Nat) (ys : List Value) (hx : a.eval x = .slice A ys.length c) (hcell : ∀ j u, ys[j]? = some u → ∃ ad, A = some ad ∧ w.cell? (ad.add j) = some u) (h1 : ∀ u ∈ ys, u.oneCell' = true)
    (hb1 : xs.length ≤ 1099511627776) (hb2 : ys.length ≤ 1099511627776) (hbase : base ≤ w.heap.size)
    (h : ∀ v' w', w'.ownsRow base 1 1 v' (xs ++ ys).length (xs ++ ys) → Fr (fun k => base ≤ k ∧ v.ownBlock = some k) w w' → wpList Tryz.prog ops Q rest (a.put o.dst v') w') : wpList Tryz.prog ops Q (o :: rest) a w := by
  have hi : (Tryz.prog.info? 1).map (fun i => (i.zero, i.size, i.bytes)) = some (some .nilFunc, 1, 8) := by kernel_rfl
  have ht : Tryz.prog.underlying 84 = some (.slice 1) := by kernel_rfl
  obtain ⟨i0, h0, hz1, hz2, hz3⟩ := info_parts hi
  cases A with
  | none =>
    have hne : ys = [] := by
      cases ys with
      | nil => rfl
      | cons y ys => obtain ⟨ad, e, _⟩ := hcell 0 y rfl; cases e
    subst hne
    have hr : (Builtin.append_ #[84, 84] o.type #[v, .slice none ([] : List Value).length c]).run Tryz.prog w = .ok v w := by
      rcases hown.2 with ⟨rfl, h9⟩ | ⟨g, cap, cur, rfl, _, _, hnc, _⟩
      · simp [Builtin.append_, run_underlying ht, sizeOf, typeInfo, h0, Builtin.lenOf, Builtin.firstCells]
      · simp [Builtin.append_, run_underlying ht, sizeOf, typeInfo, h0, Builtin.lenOf, Builtin.firstCells, hnc, storeCells]
    exact wp_append_run hgd s x ho hs hx hr (h v w (by rw [List.append_nil]; exact hown) (Fr.refl _ _))
  | some ad =>
    have hce : ∀ j u, ys[j]? = some u → w.cell? (ad.add j) = some u := fun j u hu => by
      obtain ⟨ad', e, hc⟩ := hcell j u hu
      cases e; exact hc
    obtain ⟨v', w', hr, hrow', hg, hwh⟩ := run_append_where (P := Tryz.prog) w base 84 o.type 1 i0 .nilFunc 1 8 ht h0 hz1 hz2 hz3 rfl (by decide) v xs.length xs hown ad ys.length c ys (by omega) hce h1 (by unfold maxLen; omega) (by omega) hbase
    have hfr : Fr (fun k => base ≤ k ∧ v.ownBlock = some k) w w' := ⟨hg.os, hg.tape, hg.output, hg.size, fun k hk hn => hg.block k hk fun e => hn ⟨(hown.lt k e.symm).1, e.symm⟩⟩
    exact wp_append_run hgd s x ho hs hx hr (h v' w' (by rw [List.length_append]; exact hrow') hfr)

/-- A slice of what takes names away, made by the call that began at B. -/
def AwL (b B : Nat) (w : World) (v : Value) (aw : List ByteArray) : Prop :=
  ∃ vs : List Value, w.ownsRow B 1 1 v vs.length vs ∧ vs.length = aw.length ∧ ∀ i (h : i < aw.length), ∃ x pw ps, vs[i]? = some x ∧ AwayV b w x aw[i] pw ps ∧ B ≤ pw ∧ B ≤ ps
theorem AwL.nil (b B : Nat) (w : World) : AwL b B w (.slice none 0 0) [] := ⟨[], World.ownsRow_nil _ _ _ _, rfl, fun i h => by simp at h⟩
theorem AwayV.fr {b : Nat} {w w' : World} {v : Value} {nm : ByteArray} {pw ps : Nat} {S : Nat → Prop} (h : AwayV b w v nm pw ps) (hf : Fr S w w') (h1 : ¬ S pw) (h2 : ¬ S ps) : AwayV b w' v nm pw ps :=
  ⟨h.1, blk_fr h.2.1 hf h1, blk_fr h.2.2 hf h2⟩
theorem AwL.fr {b B : Nat} {w w' : World} {v : Value} {aw : List ByteArray} {S : Nat → Prop} (h : AwL b B w v aw) (hf : Fr S w w') (hs : ∀ k, B ≤ k → ¬ S k) : AwL b B w' v aw := by
  obtain ⟨vs, h1, h2, h3⟩ := h
  refine ⟨vs, ownsRow_fr h1 hf hs, h2, fun i hi => ?_⟩
  obtain ⟨x, pw, ps, g1, g2, g3, g4⟩ := h3 i hi
  exact ⟨x, pw, ps, g1, g2.fr hf (hs _ g3) (hs _ g4), g3, g4⟩
theorem AwL.mono {b B B' : Nat} {w : World} {v : Value} {aw : List ByteArray} (h : AwL b B w v aw) (hB : B' ≤ B) : AwL b B' w v aw := by
  obtain ⟨vs, h1, h2, h3⟩ := h
  refine ⟨vs, ?_, h2, fun i hi => ?_⟩
  · obtain ⟨p1, p2⟩ := h1
    refine ⟨p1, p2.imp id ?_⟩
    rintro ⟨g, cap, cur, q1, q2, q3⟩
    exact ⟨g, cap, cur, q1, Nat.le_trans hB q2, q3⟩
  · obtain ⟨x, pw, ps, g1, g2, g3, g4⟩ := h3 i hi
    exact ⟨x, pw, ps, g1, g2, Nat.le_trans hB g3, Nat.le_trans hB g4⟩
theorem AwL.slice {b B : Nat} {w : World} {v : Value} {aw : List ByteArray} (h : AwL b B w v aw) : ∃ A c, v = .slice A aw.length c ∧ aw.length ≤ c := by
  obtain ⟨vs, h1, h2, _⟩ := h
  obtain ⟨A, c, e, hc⟩ := row_slice h1
  rw [h2] at e hc
  exact ⟨A, c, e, hc⟩
theorem away_ne {b B : Nat} {w : World} {x : Value} {nm : ByteArray} {pw ps : Nat} {v : Value} {n : Nat} {xs : List Value} (h : AwayV b w x nm pw ps) (ho : w.ownsRow B 1 1 v n xs) : v.ownBlock ≠ some pw ∧ v.ownBlock ≠ some ps := by
  rcases ho.2 with ⟨rfl, _⟩ | ⟨g, cap, cur, rfl, _, hg, _⟩
  · exact ⟨fun e => (by cases e), fun e => (by cases e)⟩
  · constructor
    · intro e; cases e; rw [h.2.1] at hg; cases hg
    · intro e; cases e; rw [h.2.2] at hg; cases hg
/-- The i-th one. -/
theorem AwL.at {b B : Nat} {w : World} {A : Option Addr} {c n : Nat} {aw : List ByteArray} (h : AwL b B w (.slice A n c) aw) (i : Nat) (hi : i < aw.length) :
    ∃ g pw ps, A = some ⟨g, 0, none⟩ ∧ w.cell? ⟨g, i, none⟩ = some (.func (.func 67) #[] #[.pointer (some ⟨pw, 0, none⟩), .pointer (some ⟨ps, 0, none⟩)]) ∧
      w.cell? ⟨pw, 0, none⟩ = some (.pointer (some ⟨b, 0, none⟩)) ∧ w.cell? ⟨ps, 0, none⟩ = some (.string aw[i]) := by
  obtain ⟨vs, h1, h2, h3⟩ := h
  obtain ⟨x, pw, ps, g1, ⟨rfl, g2, g3⟩, _⟩ := h3 i hi
  obtain ⟨A', c', e, _⟩ := row_slice h1
  cases e
  obtain ⟨g, rfl, _, hc⟩ := row_at h1 (by omega)
  exact ⟨g, pw, ps, rfl, (hc i _ g1).1, (cells_of g2).1 0 _ rfl, (cells_of g3).1 0 _ rfl⟩

/-! ### How long, how many -/
mutual
theorem scStmt_n (P : List Fu) (F : Nat) : ∀ (st : St) (a a1 : Sc) (aw : List ByteArray), scStmt P F st a = .ok (a1, aw) → a.n ≤ a1.n ∧ a1.n + 1 ≤ a.n + st.size ∧ aw.length ≤ 1
  | .mk k nm fr sec mt ex args body els, a, a1, aw, h => by
    unfold scStmt at h
    split at h
    · cases h
    · cases hg : a.gives k nm with
      | error x => rw [hg] at h; cases h
      | ok p =>
        obtain ⟨a2, aw2⟩ := p
        rw [hg] at h
        have hn : a2.n = a.n ∧ aw2.length ≤ 1 := by
          unfold Sc.gives at hg
          split at hg
          · cases hg; exact ⟨rfl, by simp⟩
          · unfold Sc.give at hg
            split at hg
            · cases hg
            · rename_i h9
              split at h9
              · cases h9
              · cases h9; cases hg; exact ⟨rfl, by simp⟩
        simp only at h
        cases h3 : scStmts P F body a2 [] with
        | error x => rw [h3] at h; cases h
        | ok p =>
          obtain ⟨a3, aw3⟩ := p
          rw [h3] at h
          have g3 := scStmts_n P F body a2 a3 [] aw3 h3
          simp only at h
          cases h4 : scStmts P F els (a3.dels aw3) [] with
          | error x => rw [h4] at h; cases h
          | ok p =>
            obtain ⟨a4, aw4⟩ := p
            rw [h4] at h
            have g4 := scStmts_n P F els _ a4 [] aw4 h4
            rw [(dels_gi aw3 a3).2] at g4
            simp only at h
            simp only [St.size]
            split at h
            · cases h
              have : ((a4.dels aw4).del nm).n = a4.n := (dels_gi aw4 a4).2
              rw [this]; refine ⟨by omega, by omega, by simp⟩
            · cases h
              rw [(dels_gi aw4 a4).2]; exact ⟨by omega, by omega, hn.2⟩
theorem scStmts_n (P : List Fu) (F : Nat) : ∀ (l : List St) (a a1 : Sc) (aw aw1 : List ByteArray), scStmts P F l a aw = .ok (a1, aw1) → a.n ≤ a1.n ∧ a1.n ≤ a.n + St.sizes l ∧ aw1.length ≤ aw.length + St.sizes l
  | [], a, a1, aw, aw1, h => by cases h; simp [St.sizes]
  | x :: l, a, a1, aw, aw1, h => by
    unfold scStmts at h
    cases h2 : scStmt P F x ⟨a.kn, a.gi, a.n + 1⟩ with
    | error x => rw [h2] at h; cases h
    | ok p =>
      obtain ⟨a2, aw2⟩ := p
      rw [h2] at h
      have g2 := scStmt_n P F x _ a2 aw2 h2
      have g1 := scStmts_n P F l a2 a1 _ aw1 h
      simp only at g2
      simp only [St.sizes, List.length_append] at g1 ⊢
      have : 1 ≤ x.size := by cases x; simp only [St.size]; omega
      omega
end
theorem scStmts_snoc (P : List Fu) (F : Nat) (x : St) : ∀ (l : List St) (a : Sc) (aw : List ByteArray), scStmts P F (l ++ [x]) a aw = match scStmts P F l a aw with
    | .error x => .error x
    | .ok (a1, aw1) => match scStmt P F x ⟨a1.kn, a1.gi, a1.n + 1⟩ with
      | .error x => .error x
      | .ok (a2, aw2) => .ok (a2, aw1 ++ aw2)
  | [], a, aw => by
    simp only [List.nil_append, scStmts]
    cases scStmt P F x ⟨a.kn, a.gi, a.n + 1⟩ <;> rfl
  | y :: l, a, aw => by
    simp only [List.cons_append, scStmts]
    cases scStmt P F y ⟨a.kn, a.gi, a.n + 1⟩ with
    | error x => rfl
    | ok p => exact scStmts_snoc P F x l p.1 (aw ++ p.2)
theorem scStmts_err (P : List Fu) (F : Nat) (r : List St) : ∀ (l : List St) (a : Sc) (aw : List ByteArray) (x : Int × Int), scStmts P F l a aw = .error x → scStmts P F (l ++ r) a aw = .error x
  | [], a, aw, x, h => by cases h
  | y :: l, a, aw, x, h => by
    simp only [List.cons_append, scStmts] at h ⊢
    cases h2 : scStmt P F y ⟨a.kn, a.gi, a.n + 1⟩ with
    | error z => rw [h2] at h; exact h
    | ok p => rw [h2] at h; exact scStmts_err P F r l p.1 (aw ++ p.2) x h
end Go.Proofs.YtnlnejpioijkiaaGreatDoor
