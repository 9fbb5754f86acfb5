/- Contracts and laws, file 14: JfA, CdF -/
import Derived.Test.YtfncbemligfloaaGreatDoorMg13
import Derived.StillTailTactics
import Derived.ChangeMaps5
/- ScopeFresh of a program that lies in memory: it answers true, and what was there stays. -/
namespace Go.Proofs.YtfncbemligfloaaGreatDoor
open Go.RowKit
set_option linter.unusedVariables false
set_option linter.unusedSimpArgs false
theorem fun_nms_le (f : Fu) (hok : okF f = true) (hl : f.light) (hs : St.sizes f.body ≤ 900) : f.nms ≤ 1099511627000 := by
  have h := fnmss_le [f] (by simp [hok]) (fun g hg => by rw [List.mem_singleton.1 hg]; exact hl)
  have e1 : Fu.nmss [f] = f.nms := by simp [Fu.nmss]
  have e2 : Fu.sizes [f] = St.sizes f.body := by simp [Fu.sizes, Fu.size]
  have e3 : [f].length = 1 := rfl
  rw [e1, e2, e3] at h
  omega
theorem at_fu' {ok : Nat → Prop} {w : World} {A : Option Addr} {l : List Fu} (h : RdRows ok w 5 A 0 (l.map Fu.d)) (k : Nat) (hk : k < l.length) {f : Fu} (hf : f = l[k]) :
    ∃ b o A1 c1 A2 c2 A3 c3, A = some ⟨b, o, none⟩ ∧ ok b ∧ w.cell? ⟨b, o + k * 5, none⟩ = some (.string f.name) ∧ w.cell? ⟨b, o + k * 5 + 1, none⟩ = some (.slice A1 f.params.length c1) ∧
      w.cell? ⟨b, o + k * 5 + 2, none⟩ = some (.slice A2 f.body.length c2) ∧ w.cell? ⟨b, o + k * 5 + 3, none⟩ = some (.bool f.sec) ∧ w.cell? ⟨b, o + k * 5 + 4, none⟩ = some (.slice A3 f.ret.length c3) ∧
      (f.params.length ≤ c1 ∧ f.params.length * 24 ≤ reach ∧ RdRows ok w 4 A1 0 (f.params.map Pa.d)) ∧ (f.body.length ≤ c2 ∧ f.body.length * 144 ≤ reach ∧ RdRows ok w 9 A2 0 (St.ds f.body)) ∧
      (f.ret.length ≤ c3 ∧ f.ret.length * 64 ≤ reach ∧ RdRows ok w 5 A3 0 (Ex.ds f.ret)) := by
  subst hf; exact at_fu h k hk
set_option maxRecDepth 100000 in
set_option maxHeartbeats 8000000 in
theorem scopeFresh_any (P : List Fu) (k : UInt8) (nm : ByteArray) (ok : Nat → Prop) (A : Option Addr) (c : Nat) (w : World) (hr : RdRows ok w 5 A 0 (P.map Fu.d)) (hc : P.length * 96 ≤ reach) (hpc : P.length ≤ c) (hok : ∀ q, ok q → q < w.heap.size)
    (hg : w.cell? ⟨0, 0, none⟩ = some (rty 30)) (tb : Int) (ht : w.cell? ⟨1, 2, none⟩ = some (.int .u64 tb)) :
   Calls Tryz.prog 5 #[.agg #[.slice A P.length c], .int .u8 k.toNat, .string nm] w fun e w' => e = .returned (.bool true) ∧ Fr Non w w' := by
  obtain ⟨W1, HW1⟩ : ∃ W1, W1 = w.alloc (.cells #[.slice A P.length c] 24) := ⟨_, rfl⟩
  have hf1 : Fr Non w W1 := by rw [HW1]; exact (fr_refl w).alloc _
  have B1 := Lib.hid (show W1.heap[w.heap.size]? = some (.cells #[.slice A P.length c] 24 (0, 0)) by rw [HW1]; exact blk_new _ _ _)
  have R1 := Lib.hid (hr.fr hf1 (fun _ _ => non _) fun _ h => h)
  have G1 := Lib.hid (hf1.cell' hg (non _))
  have T1 := Lib.hid (hf1.cell' ht (non _))
  have F1 := Lib.hid hf1
  have hok1 := Lib.hid (show ∀ q, ok q → q < W1.heap.size from fun q hq => by have := hok q hq; have := hf1.size; omega)
  have HOK0 := Lib.hid hok
  clear hf1 hr hg ht
  have x1 := (cells_of B1.out).1 0 _ rfl
  have HC := Lib.hid hc; have HPC := Lib.hid hpc
  clear hc hpc hok
  go_enter Tryz.func5, Tryz.ntmps5
  go_upto_region 1 with fail
  rw [← HW1]; clear HW1
  go_wp2_with fail
  refine (large08_any P ok A c W1 R1.out HC.out hok1.out).mono ?_
  rintro e w2 ⟨⟨b, rfl, hb⟩, hf2⟩
  have F2 := Lib.hid (F1.out.trans hf2)
  have G2 := Lib.hid (hf2.cell' G1.out (non _))
  have T2 := Lib.hid (hf2.cell' T1.out (non _))
  have R2 := Lib.hid (R1.out.fr hf2 (fun _ _ => non _) fun _ h => h)
  have B2 := Lib.hid (blk_fr B1.out hf2 (non _))
  have hok2 := Lib.hid (show ∀ q, ok q → q < w2.heap.size from fun q hq => by have := hok1.out q hq; have := hf2.size; omega)
  clear hf2 F1 G1 T1 R1 B1 x1
  cases b
  case true =>
    go_wp2_with fail
    refine (alive_any w2 G2.out).mono ?_
    rintro e w3 ⟨rfl, hf3⟩
    have F3 := Lib.hid (F2.out.trans hf3); clear hf3
    go_wp2_with fail
    go_ret
    exact ⟨rfl, F3.out⟩
  case false =>
    obtain ⟨hl30, hs9, hli⟩ := hb rfl
    have HS := Lib.hid hs9; have HLI := Lib.hid hli; clear hs9 hli hb
    have x2 := (cells_of B2.out).1 0 _ rfl
    by_cases hP : P.length = 0
    · rw [hP] at x2
      go_wp2_with fail
      refine (alive_any w2 G2.out).mono ?_
      rintro e w3 ⟨rfl, hf3⟩
      have F3 := Lib.hid (F2.out.trans hf3); clear hf3
      go_wp2_with fail
      go_ret
      exact ⟨rfl, F3.out⟩
    · have hP0 : (P.length == 0) = false := by simpa using hP
      go_wp2_with fail
      refine (mayP_any P ok A c w2 R2.out HC.out (by have := HS.out; omega)).mono ?_
      rintro e w3 ⟨rfl, hf3⟩
      have F3 := Lib.hid (F2.out.trans hf3)
      have G3 := Lib.hid (hf3.cell' G2.out (non _))
      have T3 := Lib.hid (hf3.cell' T2.out (non _))
      have R3 := Lib.hid (R2.out.fr hf3 (fun _ _ => non _) fun _ h => h)
      have B3 := Lib.hid (blk_fr B2.out hf3 (non _))
      have hok3 := Lib.hid (show ∀ q, ok q → q < w3.heap.size from fun q hq => by have := hok2.out q hq; have := hf3.size; omega)
      clear hf3 F2 G2 T2 R2 B2 x2 hok2
      cases hm : mayM P
      · go_wp2_with fail
        refine (alive_any w3 G3.out).mono ?_
        rintro e w4 ⟨rfl, hf4⟩
        have F4 := Lib.hid (F3.out.trans hf4); clear hf4
        go_wp2_with fail
        go_ret
        exact ⟨rfl, F4.out⟩
      · have HM := Lib.hid hm
        clear hm
        go_wp2_with fail
        refine (named_any _ _).mono ?_
        rintro e w4 ⟨rfl, hf4⟩
        have F4 := Lib.hid (F3.out.trans hf4)
        have G4 := Lib.hid (hf4.cell' G3.out (non _))
        have T4 := Lib.hid (hf4.cell' T3.out (non _))
        have R4 := Lib.hid (R3.out.fr hf4 (fun _ _ => non _) fun _ h => h)
        have B4 := Lib.hid (blk_fr B3.out hf4 (non _))
        have hok4 := Lib.hid (show ∀ q, ok q → q < w4.heap.size from fun q hq => by have := hok3.out q hq; have := hf4.size; omega)
        clear hf4 F3 G3 T3 R3 B3 hok3
        cases hn : namedM nm
        · go_wp2_with fail
          refine (alive_any w4 G4.out).mono ?_
          rintro e w5 ⟨rfl, hf5⟩
          have F5 := Lib.hid (F4.out.trans hf5); clear hf5
          go_wp2_with fail
          go_ret
          exact ⟨rfl, F5.out⟩
        · have HNM := Lib.hid hn
          clear hn
          obtain ⟨w5, HW5⟩ : ∃ W, W = w4.alloc (.cells #[.slice none 0 0, .slice none 0 0] 43) := ⟨_, rfl⟩
          have hf5 : Fr Non w4 w5 := by rw [HW5]; exact (fr_refl w4).alloc _
          have ha5 : w5.heap[w4.heap.size]? = some (.cells #[.slice none 0 0, .slice none 0 0] 43 (0, 0)) := by rw [HW5]; exact blk_new _ _ _
          have at5 : RnAt w4.heap.size w4.heap.size w5 [] (.slice none 0 0) (.slice none 0 0) :=
            ⟨ha5, World.ownsRow_nil _ _ _ _, World.ownsRow_nil _ _ _ _, (fun h => by cases h), (fun h => by cases h), (fun _ h => by cases h), Nat.le_refl _⟩
          have P5 := Lib.hid (RnP.refl (w' := w5) at5 (fr_refl w5))
          have F5 := Lib.hid (F4.out.trans hf5)
          have G5 := Lib.hid (hf5.cell' G4.out (non _))
          have T5 := Lib.hid (hf5.cell' T4.out (non _))
          have R5 := Lib.hid (R4.out.fr hf5 (fun _ _ => non _) fun _ h => h)
          have B5 := Lib.hid (blk_fr B4.out hf5 (non _))
          have hb4 : w.heap.size < w4.heap.size := blk_lt B4.out
          have hg4 : 1 < w4.heap.size := World.block_lt_of_cell? _ _ T4.out
          clear hf5 ha5 at5 F4 G4 T4 R4 B4
          go_upto_region 4 with fail
          rw [← HW5]; clear HW5
          -- the function
          obtain ⟨K, hK⟩ : ∃ K, K = k.toNat % P.length := ⟨_, rfl⟩
          have hKl : K < P.length := by rw [hK]; exact Nat.mod_lt _ (by omega)
          have hK256 : k.toNat < 256 := k.toNat_lt
          have hKi : (IntKind.i64.wrap (k.toNat : Int)).tmod (P.length : Int) = (K : Int) := by
            rw [show IntKind.i64.wrap (k.toNat : Int) = (k.toNat : Int) by rw [IntKind.wrap_i64]; omega, hK]; rfl
          have HK := Lib.hid hK; clear hK
          have y5 := (cells_of B5.out).1 0 _ rfl
          have HKL := Lib.hid hKl
          obtain ⟨f, hf⟩ : ∃ f, f = P[K] := ⟨_, rfl⟩
          have AT := Lib.hid (fun (wx : World) (h : RdRows ok wx 5 A 0 (P.map Fu.d)) => at_fu' h K hKl hf)
          obtain ⟨b, o1, A1, c1, A2, c2, A3, c3, rfl, hb, e0, e1, e2, e3, e4, ⟨p1, q1, r1⟩, ⟨p2, q2, r2⟩, ⟨p3, q3, r3⟩⟩ := AT.out w5 R5.out
          have HLIF := Lib.hid (HLI.out P[K] (List.getElem_mem _))
          have hfo : okF P[K] = true := by
            have := HM.out; unfold mayM at this; simp only [Bool.and_eq_true] at this
            exact List.all_eq_true.1 this.1 _ (List.getElem_mem _)
          have HNMS := Lib.hid (show f.nms ≤ 1099511627000 by
            rw [hf]
            exact fun_nms_le _ hfo HLIF.out (by have := fsize_le P K hKl; have := HS.out; omega))
          have HFO := Lib.hid (show okF f = true by rw [hf]; exact hfo)
          rw [← hf] at HLIF
          have HF := Lib.hid hf; clear hf hfo
          have hm1 : f.params.length ≤ 140737488355328 := by unfold reach at q1; omega
          have hm2 : f.ret.length ≤ 140737488355328 := by unfold reach at q3; omega
          have hnms : 1 + f.params.length + St.nmss f.body + Ex.sizes f.ret ≤ 1099511627000 := by have := HNMS.out; unfold Fu.nms at this; exact this
          obtain ⟨rb, hrb⟩ : ∃ rb, rb = w4.heap.size := ⟨_, rfl⟩
          rw [← hrb] at P5 ⊢
          have HOKR := Lib.hid (show ∀ q, ok q → q < rb from fun q hq => by rw [hrb]; exact hok4.out q hq)
          have hwr : w.heap.size < rb := by omega
          have hgr : 1 < rb := by omega
          have hsr : rb < w5.heap.size := blk_lt P5.out.at_.blk
          have PD := Lib.hid (P5.out.more (fr_refl w5).drew (fun _ h => h.elim))
          have RD2 := Lib.hid (r2.fr (fr_refl w5).drew (fun _ _ => non _) (fun _ h => h))
          have RP := Lib.hid r1; have RB := Lib.hid r2; have RR := Lib.hid r3
          have E0 := Lib.hid e0; have E1 := Lib.hid e1; have E2 := Lib.hid e2; have E3 := Lib.hid e3; have E4 := Lib.hid e4
          have hbr : b < rb := by rw [hrb]; exact hok4.out b hb
          clear r1 r2 r3 hrb hb4 hg4 hok4
          go_still_tail 12, (by kernel_rfl)
          change wpList _ _ _ _ _ w5.drew
          clear e0 e1 e2 e3 e4 y5 hKi
          go_wp2_with fail
          refine (rstmts_any _ f.body ok A2 c2 w5.drew rb rb [] (.slice none 0 0) (.slice none 0 0) (Nat.le_refl _) RD2.out p2 q2 HOKR.out PD.out.at_ (by simp; omega)).mono ?_
          rintro e w6 ⟨A6, c6, va6, vb6, rfl, hp6, h98, h99⟩
          clear h98 h99
          obtain ⟨L1, hL1⟩ : ∃ L, L = (St.rnSs f.body []).2 := ⟨_, rfl⟩
          have hl1 : L1.length ≤ St.nmss f.body := by rw [hL1]; have := (rnStS_len f.body []).2; simpa using this
          rw [← hL1] at hp6
          have P6 := Lib.hid (PD.out.trans hp6)
          have HL1 := Lib.hid hL1
          clear hp6 hL1 PD P5 RD2
          -- the function, as a copy
          have hRS0 : ∀ q, RS rb (.slice none 0 0) (.slice none 0 0) q → q = rb := fun q h => by
            rcases h with h | h | h
            · exact h
            · cases h
            · cases h
          have HRS0 := Lib.hid hRS0; clear hRS0
          have B6 := Lib.hid (blk_fr B5.out P6.out.fr (fun h => by have := HRS0.out _ h; omega))
          have hs6 := P6.out.fr.size
          have hnb : ¬ RS rb (.slice none 0 0) (.slice none 0 0) b := fun h => by have := HRS0.out _ h; omega
          have e0 := P6.out.fr.cell' E0.out hnb
          have e1 := P6.out.fr.cell' E1.out hnb
          have e2 := P6.out.fr.cell' E2.out hnb
          have e3 := P6.out.fr.cell' E3.out hnb
          have e4 := P6.out.fr.cell' E4.out hnb
          clear hnb
          have y6 := (cells_of B6.out).1 0 _ rfl
          have hKi : (IntKind.i64.wrap (k.toNat : Int)).tmod (P.length : Int) = (K : Int) := by
            rw [show IntKind.i64.wrap (k.toNat : Int) = (k.toNat : Int) by rw [IntKind.wrap_i64]; omega, HK.out]; rfl
          go_upto_region 5 with fail
          have hz := (fr_refl w6).alloc (.cells #[.string ⟨#[]⟩, .slice none 0 0, .slice none 0 0, .bool false, .slice none 0 0] 36)
          have d0 := hz.cell' e0 (non _)
          have d1 := hz.cell' e1 (non _)
          have d2 := hz.cell' e2 (non _)
          have d3 := hz.cell' e3 (non _)
          have d4 := hz.cell' e4 (non _)
          have dy := hz.cell' y6 (non _)
          clear hz
          refine (fun (key : ?K5) => ?main5) ?kp5
          case main5 =>
            go_region
            all_goals exact key
          case kp5 =>
          obtain ⟨w7, HW7⟩ : ∃ W, W = (w6.alloc (.cells (fuB f.name (.slice A1 f.params.length c1) (.slice A2 f.body.length c2) f.sec (.slice A3 f.ret.length c3)) 36)).drew := ⟨_, rfl⟩
          rw [show (w6.alloc (.cells #[.string f.name, .slice A1 f.params.length c1, .slice A2 f.body.length c2, .bool f.sec, .slice A3 f.ret.length c3] 36)).drew = w7 from HW7.symm]
          have hf7 : Fr Non w6 w7 := by rw [HW7]; exact ((fr_refl w6).alloc _).drew
          have hb7 : w7.heap[w6.heap.size]? = some (.cells (fuB f.name (.slice A1 f.params.length c1) (.slice A2 f.body.length c2) f.sec (.slice A3 f.ret.length c3)) 36 (0, 0)) := by rw [HW7]; exact blk_new _ _ _
          have hz7 : w7.heap.size = w6.heap.size + 1 := by rw [HW7]; simp
          clear e0 e1 e2 e3 e4 y6 hKi d0 d1 d2 d3 d4 dy HW7
          obtain ⟨fb, hfb⟩ : ∃ b, b = w6.heap.size := ⟨_, rfl⟩
          rw [← hfb] at hb7 hz7 ⊢
          have hq7 : ¬ RS rb va6 vb6 fb := fun h => by have := (P6.out.at_.lt _ h).2; omega
          have P7 := Lib.hid (P6.out.more hf7 (fun _ h => h.elim))
          have B7 := Lib.hid hb7; have Q7 := Lib.hid hq7
          have hrf : rb < fb := by omega
          have HZ7 := Lib.hid hz7; clear hz7 hfb
          have HES := Lib.hid (ex_len_sizes f.ret)
          clear hf7 hb7 hq7
          -- the names of what is handed back
          go_wp2_with fail
          go_loopw [9] (fun i wq => ∃ (j : Nat) (va vb : Value), i = .int .i64 j ∧ j ≤ f.ret.length ∧ RnP rb rb w5 (.slice none 0 0) (.slice none 0 0) wq (Ex.rnSs (f.ret.take j) L1).2 va vb ∧ ¬ RS rb va vb fb ∧
            wq.heap[fb]? = some (.cells (fuB f.name (.slice A1 f.params.length c1) (.slice A2 f.body.length c2) f.sec (.slice A3 f.ret.length c3)) 36 (0, 0))) (fun i _ => f.ret.length - (intOf i).toNat)
          case atStart => exact ⟨0, va6, vb6, rfl, by omega, P7.out, Q7.out, B7.out⟩
          case round =>
            obtain ⟨j, va, vb, rfl, hj, hp, hq, hbx⟩ := hrel
            have x4 : wr.cell? ⟨fb, 4, none⟩ = some (.slice A3 f.ret.length c3) := (cells_of hbx).1 4 _ rfl
            have HP := Lib.hid hp; have HQ := Lib.hid hq; have HBX := Lib.hid hbx; clear hp hq hbx
            have hzf : fb < wr.heap.size := blk_lt HBX.out
            by_cases hlt : j < f.ret.length
            · obtain ⟨b9, o9, Aa, ca, rfl, hb9, g0, g1, g2, g3, g4, p9, q9, r9⟩ := at_ex (RR.out.fr HP.out.fr (fun q hq h => by have := HOKR.out q hq; have := HRS0.out q h; omega) (fun _ h => h)) j hlt
              have HTS := Lib.hid (take_snoc f.ret j hlt)
              have HLN := Lib.hid (rnSs_len (f.ret.take j) L1)
              have HLM := Lib.hid (ex_take_sizes f.ret j hlt)
              generalize f.ret[j] = y at *
              obtain ⟨yk, yn, ys, yo, yl⟩ := y
              have P9 := Lib.hid r9; clear r9
              simp only [Ex.kind, Ex.num, Ex.name, Ex.op, Ex.kids] at g0 g1 g2 g3 g4 p9 q9
              go_wp2_with fail
              refine (rexpr_any _ yk yn ys yo yl ok Aa ca wr rb rb (Ex.rnSs (f.ret.take j) L1).2 va vb (Nat.le_refl _) P9.out p9 q9 HOKR.out HP.out.at_ (by have := HLN.out; have := HLM.out; omega)).mono ?_
              rintro e w8 ⟨A8, c8, va8, vb8, rfl, hp8, h97, h98⟩
              clear h97 h98
              have hsn := rnSs_snoc (f.ret.take j) (.mk yk yn ys yo yl) L1
              rw [← HTS.out, rnS_eq] at hsn
              simp only [Ex.kind, Ex.num, Ex.name, Ex.op, Ex.kids] at hsn
              have HP8 := Lib.hid (HP.out.trans hp8)
              have HQ8 := Lib.hid (hp8.nrs hzf HQ.out)
              have HB8 := Lib.hid (blk_fr HBX.out hp8.fr HQ.out)
              have HSN := Lib.hid hsn
              clear hsn hp8
              go_wp2_with fail
              go_roundw
              case rel => exact ⟨j + 1, va8, vb8, by go_num, by omega, by rw [HSN.out]; exact HP8.out, HQ8.out, HB8.out⟩
              case measure => simp [intOf]; omega
            · obtain rfl : j = f.ret.length := by omega
              have htk : f.ret.take f.ret.length = f.ret := List.take_length
              obtain ⟨L2, hL2⟩ : ∃ L, L = (Ex.rnSs f.ret L1).2 := ⟨_, rfl⟩
              have hl2 : L2.length ≤ L1.length + Ex.sizes f.ret := by rw [hL2]; exact (rnSs_len f.ret L1).2
              have hp := HP.out
              rw [htk, ← hL2] at hp
              have PA := Lib.hid hp; have QA := Lib.hid HQ.out; have BA := Lib.hid HBX.out; have HL2 := Lib.hid hL2
              clear hp hL2 HP HQ HBX
              -- the params' names
              go_wp2_with fail
              go_loopw [10] (fun i wq => ∃ (j : Nat) (va vb : Value), i = .int .i64 j ∧ j ≤ f.params.length ∧ RnP rb rb w5 (.slice none 0 0) (.slice none 0 0) wq (Pa.rnSs (f.params.take j) L2).2 va vb ∧ ¬ RS rb va vb fb ∧
                wq.heap[fb]? = some (.cells (fuB f.name (.slice A1 f.params.length c1) (.slice A2 f.body.length c2) f.sec (.slice A3 f.ret.length c3)) 36 (0, 0))) (fun i _ => f.params.length - (intOf i).toNat)
              case atStart => exact ⟨0, va, vb, rfl, by omega, PA.out, QA.out, BA.out⟩
              case round =>
                obtain ⟨j, va, vb, rfl, hj, hp, hq, hbx⟩ := hrel
                have x1 : wr.cell? ⟨fb, 1, none⟩ = some (.slice A1 f.params.length c1) := (cells_of hbx).1 1 _ rfl
                have HP := Lib.hid hp; have HQ := Lib.hid hq; have HBX := Lib.hid hbx; clear hp hq hbx
                have hzf : fb < wr.heap.size := blk_lt HBX.out
                by_cases hlt : j < f.params.length
                · obtain ⟨b9, o9, rfl, hb9, g0, g1, g2, g3⟩ := at_pa (RP.out.fr HP.out.fr (fun q hq h => by have := HOKR.out q hq; have := HRS0.out q h; omega) (fun _ h => h)) j hlt
                  have HTS := Lib.hid (take_snoc f.params j hlt)
                  have HLN := Lib.hid (rnPa_len (f.params.take j) L2)
                  have hlj : (f.params.take j).length = j := by rw [List.length_take]; omega
                  generalize f.params[j] = y at *
                  go_wp2_with fail
                  refine (of_any rb rb wr (Pa.rnSs (f.params.take j) L2).2 va vb y.name HP.out.at_ (by have := HLN.out; omega)).mono ?_
                  rintro e w8 ⟨rfl, hst⟩
                  obtain ⟨va8, vb8, hp8⟩ := hst.p
                  have hsn := rnPa_snoc (f.params.take j) y L2
                  rw [← HTS.out] at hsn
                  have HP8 := Lib.hid (HP.out.trans hp8)
                  have HQ8 := Lib.hid (hp8.nrs hzf HQ.out)
                  have HB8 := Lib.hid (blk_fr HBX.out hp8.fr HQ.out)
                  have HSN := Lib.hid hsn
                  clear hsn hp8 hst
                  go_wp2_with fail
                  go_roundw
                  case rel => exact ⟨j + 1, va8, vb8, by go_num, by omega, by rw [HSN.out]; exact HP8.out, HQ8.out, HB8.out⟩
                  case measure => simp [intOf]; omega
                · obtain rfl : j = f.params.length := by omega
                  have htk : f.params.take f.params.length = f.params := List.take_length
                  obtain ⟨L3, hL3⟩ : ∃ L, L = (Pa.rnSs f.params L2).2 := ⟨_, rfl⟩
                  have hl3 : L3.length ≤ L2.length + f.params.length := by rw [hL3]; exact (rnPa_len f.params L2).2
                  have hp := HP.out
                  rw [htk, ← hL3] at hp
                  have PC := Lib.hid hp; have QC := Lib.hid HQ.out; have BC := Lib.hid HBX.out; have HL3 := Lib.hid hL3
                  clear hp hL3 HP HQ HBX
                  obtain ⟨wc, rfl⟩ : ∃ wc : World, wc = wr := ⟨_, rfl⟩
                  obtain ⟨Ar, cr, hva, hcr⟩ := row_slice PC.out.at_.fro
                  have x0 := (cells_of PC.out.at_.blk).1 0 _ rfl
                  rw [hva] at x0
                  have GC := Lib.hid (PC.out.fr.cell' G5.out (fun h => by have h := HRS0.out _ h; simp at h; omega))
                  have FC := Lib.hid (F5.out.then PC.out.fr (fun q hq h => by have := HRS0.out _ h; omega))
                  have hfro := PC.out.at_.fro
                  rw [hva] at hfro
                  have FRO := Lib.hid hfro; clear hfro
                  -- is the name there?
                  go_wp2_with fail
                  go_loop [11] (fun i => ∃ j : Nat, i = .int .i64 j ∧ j ≤ L3.length ∧ ∀ q (hq : q < L3.length), q < j → sq L3[q] nm = false) (fun i => L3.length - (intOf i).toNat)
                  case atStart => exact ⟨0, rfl, by omega, fun q _ hq => by omega⟩
                  case round =>
                    obtain ⟨j, rfl, hj, hno⟩ := hrel
                    have HNO := Lib.hid hno; clear hno
                    have hlL : L3.length ≤ 1099511627776 := by omega
                    by_cases hlt : j < L3.length
                    · obtain ⟨g, rfl, hg, hcell⟩ := row_at FRO.out (by omega)
                      have e9 := hcell j _ (by rw [List.getElem?_map, List.getElem?_eq_getElem hlt]; rfl)
                      clear hcell
                      cases hq : sq L3[j] nm with
                      | true =>
                        have hq' := hq; rw [← tosq] at hq'
                        clear hq
                        go_wp2_with fail
                        refine (alive_any wc GC.out).mono ?_
                        rintro e w8 ⟨rfl, hf8⟩
                        have F8 := Lib.hid (FC.out.trans hf8); clear hf8
                        go_wp2_with fail
                        go_ret
                        exact ⟨rfl, F8.out⟩
                      | false =>
                        have hq' := hq; rw [← tosq] at hq'
                        have HQ := Lib.hid hq; clear hq
                        go_wp2_with fail
                        go_round
                        case rel => exact ⟨j + 1, by go_num, by omega, fun q hq hqj => by
                          rcases Nat.lt_or_eq_of_le (Nat.le_of_lt_succ hqj) with h' | rfl
                          · exact HNO.out q hq h'
                          · exact HQ.out⟩
                        case measure => simp [intOf]; omega
                    · have HNI := Lib.hid (show inM L3 nm = false from inM_none fun q hq => HNO.out q hq (by omega))
                      clear HNO
                      have BO := Lib.hid (blk_fr B5.out PC.out.fr (fun h => by have := HRS0.out _ h; omega))
                      have TC := Lib.hid (PC.out.fr.cell' T5.out (fun h => by have h : 1 = rb := HRS0.out _ h; omega))
                      have RC := Lib.hid (R5.out.fr PC.out.fr (fun q hq h => by have := HOKR.out q hq; have := HRS0.out q h; omega) (fun _ h => h))
                      have hokc := Lib.hid (show ∀ q, ok q → q < wc.heap.size from fun q hq => by have := HOKR.out q hq; have := PC.out.fr.size; omega)
                      have hcs : fb < wc.heap.size := blk_lt BC.out
                      have xo := (cells_of BO.out).1 0 _ rfl
                      go_wp2_with fail
                      refine (copyP_own P ok _ c wc hokc.out RC.out HPC.out HC.out).mono ?_
                      rintro e w8 ⟨A8, c8, rfl, hf8, hc8, how8⟩
                      -- the copy, in a box
                      have F8 := Lib.hid (FC.out.trans hf8)
                      have G8 := Lib.hid (hf8.cell' GC.out (non _))
                      have T8 := Lib.hid (hf8.cell' TC.out (non _))
                      have R8 := Lib.hid (RC.out.fr hf8 (fun _ _ => non _) (fun _ h => h))
                      have BO8 := Lib.hid (blk_fr BO.out hf8 (non _))
                      have BF8 := Lib.hid (blk_fr BC.out hf8 (non _))
                      have RP8 := Lib.hid ((RP.out.fr PC.out.fr (fun q hq h => by have := HOKR.out q hq; have := HRS0.out q h; omega) (fun _ h => h)).fr hf8 (fun _ _ => non _) (fun _ h => h))
                      have RB8 := Lib.hid ((RB.out.fr PC.out.fr (fun q hq h => by have := HOKR.out q hq; have := HRS0.out q h; omega) (fun _ h => h)).fr hf8 (fun _ _ => non _) (fun _ h => h))
                      have RR8 := Lib.hid ((RR.out.fr PC.out.fr (fun q hq h => by have := HOKR.out q hq; have := HRS0.out q h; omega) (fun _ h => h)).fr hf8 (fun _ _ => non _) (fun _ h => h))
                      have hz8 := hf8.size
                      have OW8 := Lib.hid how8
                      obtain ⟨g8, us8, rfl, hg8b, hg8l, _, _, _, _⟩ := how8.at K (by rw [List.length_map]; exact hKl)
                      clear how8 hf8 xo FC GC TC RC BO BC
                      obtain ⟨w9, HW9⟩ : ∃ W, W = w8.alloc (.cells #[.slice (some ⟨g8, 0, none⟩) P.length c8] 24) := ⟨_, rfl⟩
                      have hf9 : Fr Non w8 w9 := by rw [HW9]; exact (fr_refl w8).alloc _
                      have hq9 : w9.heap[w8.heap.size]? = some (.cells #[.slice (some ⟨g8, 0, none⟩) P.length c8] 24 (0, 0)) := by rw [HW9]; exact blk_new _ _ _
                      have hz9 : w8.heap.size < w9.heap.size := by rw [HW9]; simp
                      go_upto_region 20 with fail
                      rw [← HW9]; clear HW9
                      obtain ⟨qb, hqb⟩ : ∃ b, b = w8.heap.size := ⟨_, rfl⟩
                      rw [← hqb] at hq9 hz9 ⊢
                      have F9 := Lib.hid (F8.out.trans hf9)
                      have G9 := Lib.hid (hf9.cell' G8.out (non _))
                      have T9 := Lib.hid (hf9.cell' T8.out (non _))
                      have R9 := Lib.hid (R8.out.fr hf9 (fun _ _ => non _) (fun _ h => h))
                      have BO9 := Lib.hid (blk_fr BO8.out hf9 (non _))
                      have BF9 := Lib.hid (blk_fr BF8.out hf9 (non _))
                      have RP9 := Lib.hid (RP8.out.fr hf9 (fun _ _ => non _) (fun _ h => h))
                      have RB9 := Lib.hid (RB8.out.fr hf9 (fun _ _ => non _) (fun _ h => h))
                      have RR9 := Lib.hid (RR8.out.fr hf9 (fun _ _ => non _) (fun _ h => h))
                      have OW9 := Lib.hid (OW8.out.fr hf9 (fun _ _ => non _))
                      have BQ9 := Lib.hid hq9
                      have hgq : g8 < qb := by omega
                      have hfq : fb < qb := by omega
                      have hokq := Lib.hid (show ∀ q, ok q → q < qb from fun q hq => by have := HOKR.out q hq; omega)
                      clear hf9 hq9 hqb F8 G8 T8 R8 BO8 BF8 RP8 RB8 RR8 OW8
                      have x1 : w9.cell? ⟨fb, 1, none⟩ = some (.slice A1 f.params.length c1) := (cells_of BF9.out).1 1 _ rfl
                      have hpl8 : f.params.length ≤ 8 := by
                        have := HFO.out; unfold okF funM fheadM at this; simp only [Bool.and_eq_true, decide_eq_true_eq] at this; exact this.2.1.1.1.1.2
                      go_wp2_with (at_builtin; refine appX_pa rfl _ _ rfl ok w9.heap.size (.slice none 0 0) [] rfl (OwnX.nil _ _ _ _ _) (fun q hq => by have := hokq.out q hq; omega) A1 c1 (f.params.map Pa.d) (by rw [List.length_map]; rfl) RP9.out (one_pas _) ?b1 ?b2 ?b3 ?k)
                      case b1 => rw [List.length_map]; simp; unfold maxLen; omega
                      case b2 => rw [List.length_map]; simp; omega
                      case b3 => omega
                      case k =>
                      intro v10 w10 hown10 hf10
                      obtain ⟨A10, c10, rfl, hc10⟩ := hown10.slice
                      have hl10 : (f.params.map Pa.d).length = f.params.length := List.length_map _
                      rw [hl10] at hown10 hc10 ⊢
                      have hf10' : Fr Non w9 w10 := hf10.mono fun k _ h => by cases h.2
                      obtain ⟨xs, hrow, hch⟩ := hown10
                      rw [hl10] at hrow
                      have hz10 := hf10'.size
                      have HROW := Lib.hid hrow; have HCH := Lib.hid hch; have HF10 := Lib.hid hf10'
                      clear hrow hch hf10 hf10' hl10 x1
                      go_wp2_with (at_builtin; refine appW_pa rfl _ _ rfl w9.heap.size (.slice A10 f.params.length c10) f.params.length xs rfl (row_fr HROW.out ((fr_refl w10).alloc _) (fun _ _ => non _)) ⟨w10.heap.size, 0, none⟩ 1 rfl [.string nm, .bool false, .bool false, .bool false] rfl (new_cells _ _ _) ?one ?b1 ?b2 ?k2)
                      case one => intro u hu; simp at hu; rcases hu with rfl | rfl <;> rfl
                      case b1 => omega
                      case b2 => simp; omega
                      case k2 =>
                      intro g cap w12 hr12 hf12 hg12
                      have hpl := own_plus (x := ⟨nm, false, false, false⟩) HROW.out HCH.out (fun q hq => by have := hokq.out q hq; omega) rfl ((fr_refl w10).alloc _) hr12 hf12
                      have f912 : Fr Non w9 w12 := (HF10.out.trans ((fr_refl w10).alloc _)).then hf12 (fun k hk h => by have := (HROW.out.lt k h).1; omega)
                      have bf12 := blk_fr BF9.out f912 (non _)
                      have x1 : w12.cell? ⟨fb, 1, none⟩ = some (.slice A1 f.params.length c1) := (cells_of bf12).1 1 _ rfl
                      have xf := (cells_of bf12).2
                      have hs13 : Fr (fun q => q = fb) w12 (w12.setCell ⟨fb, 1, none⟩ (.slice (some ⟨g, 0, none⟩) (f.params.length + 1) cap)) := (Fr.refl (fun q => q = fb) w12).setCell _ _ (.inl rfl)
                      have BF13 := Lib.hid (show (w12.setCell ⟨fb, 1, none⟩ (.slice (some ⟨g, 0, none⟩) (f.params.length + 1) cap)).heap[fb]? = some (.cells (fuB f.name (.slice (some ⟨g, 0, none⟩) (f.params.length + 1) cap) (.slice A2 f.body.length c2) f.sec (.slice A3 f.ret.length c3)) 36 (0, 0)) from blk_set bf12 1 _)
                      have F913 := Lib.hid (f912.non.trans hs13)
                      have RP13 := Lib.hid (hpl.1.fr hs13 (fun q hq h => by rcases hq with hq | hq; (have := HOKR.out q hq; omega); omega) (fun _ h => h))
                      have HCAP := Lib.hid hpl.2
                      have HZ13 := Lib.hid hs13.size
                      clear hpl f912 bf12 hs13 hf12 hr12 hg12 HROW HCH HF10
                      go_upto_region 21 with fail
                      generalize hw13 : World.setCell w12 _ _ = w13 at *
                      clear hw13 x1 xf
                      have OW13 := Lib.hid (OW9.out.fr F913.out (fun q hq h => by omega))
                      have RB13 := Lib.hid (show RdRows (fun k => ok k ∨ w9.heap.size ≤ k ∧ k < w12.heap.size) w13 9 A2 0 (St.ds f.body) from RB9.out.fr F913.out (fun q hq h => by have := HOKR.out q hq; omega) (fun q h => Or.inl h))
                      have RR13 := Lib.hid (show RdRows (fun k => ok k ∨ w9.heap.size ≤ k ∧ k < w12.heap.size) w13 5 A3 0 (Ex.ds f.ret) from RR9.out.fr F913.out (fun q hq h => by have := HOKR.out q hq; omega) (fun q h => Or.inl h))
                      have hpc := plus_cells (x := ⟨nm, false, false, false⟩) (by omega) HCAP.out RP13.out p2 q2 RB13.out p3 q3 RR13.out
                      have HPUT := Lib.hid (own_put OW13.out HKL.out hpc (fun q hq => by rcases hq with hq | hq; (have := HOKR.out q hq; omega); omega))
                      have BQ13 := Lib.hid (blk_fr BQ9.out F913.out (fun h => by omega))
                      have BO13 := Lib.hid (blk_fr BO9.out F913.out (fun h => by omega))
                      clear hpc RP13 RB13 RR13
                      obtain ⟨g', us, hge, _, _, _, hul, huc, hfz⟩ := OW13.out.at K (by rw [List.length_map]; exact HKL.out)
                      cases hge
                      obtain ⟨z0, z1, z2, z3, z4, rfl⟩ : ∃ v0 v1 v2 v3 v4, us = [v0, v1, v2, v3, v4] := by
                        match us, hul with
                        | [a, b, c, d, e], _ => exact ⟨a, b, c, d, e, rfl⟩
                      have k0 : w13.cell? ⟨g8, K * 5, none⟩ = some z0 := huc 0 _ rfl
                      have k1 : w13.cell? ⟨g8, K * 5 + 1, none⟩ = some z1 := huc 1 _ rfl
                      have k2 : w13.cell? ⟨g8, K * 5 + 2, none⟩ = some z2 := huc 2 _ rfl
                      have k3 : w13.cell? ⟨g8, K * 5 + 3, none⟩ = some z3 := huc 3 _ rfl
                      have k4 : w13.cell? ⟨g8, K * 5 + 4, none⟩ = some z4 := huc 4 _ rfl
                      have xq : w13.cell? ⟨qb, 0, none⟩ = some (.slice (some ⟨g8, 0, none⟩) P.length c8) := (cells_of BQ13.out).1 0 _ rfl
                      have xo : w13.cell? ⟨w.heap.size, 0, none⟩ = some (.slice (some ⟨b, o1, none⟩) P.length c) := (cells_of BO13.out).1 0 _ rfl
                      have f0 : w13.cell? ⟨fb, 0, none⟩ = some (.string f.name) := (cells_of BF13.out).1 0 _ rfl
                      have f1 : w13.cell? ⟨fb, 1, none⟩ = some (.slice (some ⟨g, 0, none⟩) (f.params.length + 1) cap) := (cells_of BF13.out).1 1 _ rfl
                      have f2 : w13.cell? ⟨fb, 2, none⟩ = some (.slice A2 f.body.length c2) := (cells_of BF13.out).1 2 _ rfl
                      have f3 : w13.cell? ⟨fb, 3, none⟩ = some (.bool f.sec) := (cells_of BF13.out).1 3 _ rfl
                      have f4 : w13.cell? ⟨fb, 4, none⟩ = some (.slice A3 f.ret.length c3) := (cells_of BF13.out).1 4 _ rfl
                      have hKi : (IntKind.i64.wrap (k.toNat : Int)).tmod (P.length : Int) = (K : Int) := by
                        rw [show IntKind.i64.wrap (k.toNat : Int) = (k.toNat : Int) by rw [IntKind.wrap_i64]; omega, HK.out]; rfl
                      have hkl9 : K < P.length := HKL.out
                      clear hul huc
                      refine (fun (key : ?K21) => ?main21) ?kp21
                      case main21 =>
                        go_region
                        all_goals exact key
                      case kp21 =>
                      obtain ⟨w14, HW14⟩ : ∃ W, W = (put5 w13 g8 (K * 5) (.string f.name) (.slice (some ⟨g, 0, none⟩) (f.params.length + 1) cap) (.slice A2 f.body.length c2) (.bool f.sec) (.slice A3 f.ret.length c3)).drew := ⟨_, rfl⟩
                      have h14 : Fr (fun q => q = g8) w13 w14 := by rw [HW14]; exact (put5_fr _ _ _ _ _ _ _ _).drew
                      have hput := HPUT.out.fr ((fr_refl _).drew) (fun _ _ => non _) (fun _ h => h)
                      rw [← HW14] at hput
                      unfold put5 at HW14
                      rw [← HW14]
                      clear HW14 k0 k1 k2 k3 k4 xq xo f0 f1 f2 f3 f4 hKi hfz HPUT
                      obtain ⟨Q, hQ⟩ : ∃ Q, Q = P.set K (f.plus ⟨nm, false, false, false⟩) := ⟨_, rfl⟩
                      rw [← hQ] at hput
                      have hQl : Q.length = P.length := by rw [hQ, List.length_set]
                      have hQs : Fu.sizes Q = Fu.sizes P := by rw [hQ]; exact fsizes_set P K _ HKL.out (Eq.trans (b := St.sizes f.body) rfl (congrArg (fun g : Fu => St.sizes g.body) HF.out))
                      have f914 : Fr (fun q => q = fb ∨ q = g8) w9 w14 := (F913.out.mono fun _ _ h => .inl h).trans (h14.mono fun _ _ h => .inr h)
                      have hz14 := h14.size
                      have hz913 := F913.out.size
                      have F14 := Lib.hid (F9.out.then f914 (fun q hq h => by omega))
                      have G14 := Lib.hid (f914.cell' G9.out (fun h => by have h : 0 = fb ∨ 0 = g8 := h; omega))
                      have T14 := Lib.hid (f914.cell' T9.out (fun h => by have h : 1 = fb ∨ 1 = g8 := h; omega))
                      have R14 := Lib.hid (R9.out.fr f914 (fun q hq h => by have := HOKR.out q hq; omega) (fun _ h => h))
                      have BO14 := Lib.hid (blk_fr BO9.out f914 (fun h => by omega))
                      have BQ14 := Lib.hid (show w14.heap[qb]? = some (.cells #[.slice (some ⟨g8, 0, none⟩) Q.length c8] 24 (0, 0)) by rw [hQl]; exact blk_fr BQ9.out f914 (fun h => by omega))
                      have hoq := Lib.hid (show ∀ q, ((ok q ∨ w9.heap.size ≤ q ∧ q < w12.heap.size) ∨ wc.heap.size + 3 ≤ q ∧ q < w13.heap.size) → q < w14.heap.size from fun q hq => by
                        rcases hq with (hq | hq) | hq
                        · have := HOKR.out q hq; omega
                        · have := HZ13.out; omega
                        · omega)
                      have hop := Lib.hid (show ∀ q, ok q → q < w14.heap.size from fun q hq => by have := HOKR.out q hq; omega)
                      have O14 := Lib.hid hput
                      have HCQ := Lib.hid (show Q.length * 96 ≤ reach by rw [hQl]; exact HC.out)
                      have HLQ := Lib.hid (show Q.length ≤ c8 by rw [hQl]; exact hc8)
                      have HSQ := Lib.hid (show Fu.sizes Q ≤ 900 by rw [hQs]; exact HS.out)
                      have HQ14 := Lib.hid hQ
                      have HLAW := Lib.hid (show mayM Q = true → scCheck Q = scCheck P from fun hmq => by
                        have hx := HNI.out
                        rw [HL3.out, HL2.out, HL1.out] at hx
                        rw [hQ, HF.out] at hmq ⊢
                        exact law_fresh P K ⟨nm, false, false, false⟩ HKL.out (emp_of_named HNM.out) (fun y hy => fresh_ne f nm hx y (Eq.mpr (congrArg (fun g : Fu => y ∈ g.ns) HF.out) hy)) HM.out hmq)
                      clear hput hQ hQl hQs f914 h14 hz14 hz913
                      have xq : w14.cell? ⟨qb, 0, none⟩ = some (.slice (some ⟨g8, 0, none⟩) Q.length c8) := (cells_of BQ14.out).1 0 _ rfl
                      go_wp2_with fail
                      refine (mayP_any Q _ _ c8 w14 O14.out HCQ.out (by have := HSQ.out; omega)).mono ?_
                      rintro e w15 ⟨rfl, hf15⟩
                      have F15 := Lib.hid (F14.out.trans hf15)
                      have G15 := Lib.hid (hf15.cell' G14.out (non _))
                      have T15 := Lib.hid (hf15.cell' T14.out (non _))
                      have R15 := Lib.hid (R14.out.fr hf15 (fun _ _ => non _) (fun _ h => h))
                      have O15 := Lib.hid (O14.out.fr hf15 (fun _ _ => non _) (fun _ h => h))
                      have BO15 := Lib.hid (blk_fr BO14.out hf15 (non _))
                      have BQ15 := Lib.hid (blk_fr BQ14.out hf15 (non _))
                      have hz15 := hf15.size
                      clear hf15 F14 G14 T14 R14 O14 BO14 BQ14 xq
                      cases hmq : mayM Q with
                      | false =>
                        go_wp2_with fail
                        refine (alive_any w15 G15.out).mono ?_
                        rintro e w16 ⟨rfl, hf16⟩
                        have F16 := Lib.hid (F15.out.trans hf16); clear hf16
                        go_wp2_with fail
                        go_ret
                        exact ⟨rfl, F16.out⟩
                      | true =>
                        have hlaw := HLAW.out hmq
                        have x5 := ext_cell (show w15.cell? ⟨qb, 0, none⟩ = some (.slice (some ⟨g8, 0, none⟩) Q.length c8) from (cells_of BQ15.out).1 0 _ rfl)
                        have y5 := ext_cell (show w15.cell? ⟨w.heap.size, 0, none⟩ = some (.slice (some ⟨b, o1, none⟩) P.length c) from (cells_of BO15.out).1 0 _ rfl)
                        have bd := scCheck_bd P HM.out
                        have K5 := Lib.hid (fun x => scheck_any P ok _ c (ext w15 x) (R15.out.fr (ext_fr w15 x) (fun _ _ => non _) fun _ h => h) HC.out HPC.out (by have := HS.out; omega) (fun q hq => by have := hop.out q hq; have := (ext_fr w15 x).size; omega))
                        have N5 := Lib.hid (fun x => scheck_any Q _ _ c8 (ext w15 x) (O15.out.fr (ext_fr w15 x) (fun _ _ => non _) fun _ h => h) HCQ.out HLQ.out (by have := HSQ.out; omega) (fun q hq => by have := hoq.out q hq; have := (ext_fr w15 x).size; omega))
                        have V5 := Lib.hid (fun x => alive_any (ext w15 x) (ext_cell G15.out x))
                        have S5 := Lib.hid (fun x => alike_any (scCheck P) bd.1 bd.2.1 bd.2.2.1 bd.2.2.2 tb (ext w15 x) (ext_cell T15.out x))
                        rw [scCheck_errV] at K5 N5
                        rw [hlaw] at N5
                        generalize errV (scCheck P) = EV at K5 N5 S5
                        clear bd hlaw hmq
                        go_upto_region 24 with fail
                        refine wp_region_ext (by kernel_rfl) (by kernel_rfl) ?_
                        repeat (go_big_quiet_step (fail))
                        go_big_quiet_want
                        go_big_quiet_op
                        apply Exists.intro
                        refine ⟨fun x => ?_, ?_⟩
                        · exact calls_ext (K5.out x)
                        go_big_quiet_on
                        repeat (go_big_quiet_step (fail))
                        go_big_quiet_want
                        go_big_quiet_op
                        apply Exists.intro
                        refine ⟨fun x => ?_, ?_⟩
                        · exact calls_ext (N5.out x)
                        go_big_quiet_on
                        repeat (go_big_quiet_step (fail))
                        go_big_quiet_want
                        go_big_quiet_op
                        apply Exists.intro
                        refine ⟨fun x => ?_, ?_⟩
                        · exact calls_ext (S5.out x)
                        go_big_quiet_on
                        repeat (go_big_quiet_step (fail))
                        go_big_quiet_want
                        go_big_quiet_op
                        apply Exists.intro
                        refine ⟨fun x => ?_, ?_⟩
                        · exact calls_ext (V5.out x)
                        go_big_quiet_on
                        repeat (go_big_quiet_step (fail))
                        refine wpQuiet_nil ?_
                        intro w16 hf16
                        have F16 := Lib.hid (F15.out.trans hf16); clear hf16
                        go_wp2_with fail
                        go_ret
                        exact ⟨rfl, F16.out⟩
end Go.Proofs.YtfncbemligfloaaGreatDoor
/- The row of ScopeFresh, proved: for every program that comes in the call returns true, and the program reads as it did. Conditions: those of the row (errors.errorType holds the handle of the type error). -/
namespace Go.Proofs.YtfncbemligfloaaGreatDoor
open Go.RowKit
set_option linter.unusedVariables false
set_option linter.unusedSimpArgs false
open Go.ChangeShapes Go.WideShapes
set_option maxRecDepth 100000 in
set_option maxHeartbeats 4000000 in
theorem fresh_lifted (os : Os) (started : os.Started) (H : Type) (enc : TypeId × Value → H) :
    ReturnsInHanded {} Tryz.checked os 5 .any (fun w args => (Rows.scopeFreshSpec.pre enc Tryz.prog Tryz.f5 [] false w args ∧ laidMetH Tryz.prog [("errors.errorType", Rows.laid_errors_errorType)] w) ∧ sizedMet enc Tryz.prog Tryz.f5 (OpenSpec.ofChange Rows.scopeFreshSpec) false w args)
      (Rows.scopeFreshSpec.post enc Tryz.prog Tryz.f5 false true false false) := by
  refine lifted_shaped (C := Tryz.checked) (X := fun w _ => laidMetH Tryz.prog [("errors.errorType", Rows.laid_errors_errorType)] w) (fun _ _ _ hh h => h.of_heap hh) own_knob started (by kernel_rfl) Tryz.func5
    (ChangeSpec.witness_at (enc := enc) (C := Tryz.checked) (os := os) (X := fun w _ => laidMetH Tryz.prog [("errors.errorType", Rows.laid_errors_errorType)] w) false (laidWorld os) #[.agg #[.slice none 0 0], .int .u8 0, .string ⟨#[]⟩] 8 rfl (by kernel_rfl) (by kernel_rfl) (by kernel_rfl) (by kernel_rfl) (by kernel_rfl) (laidWorld_met os _)) ?_
  intro W base args ds gs before hsh hval0 hW hsz hL
  obtain ⟨tb, htb⟩ := tab_of_shaped hsh
  have hval : ∀ (j : Nat) t v, Tryz.f5.params[j]? = some t → args[j]? = some v → Value.okWide Tryz.prog W .any base t v := hval0
  have hW' := hW
  obtain ⟨p, q, hA0, hV0, rfl, hfz, hnd⟩ := hW
  have hA : DataW.TrodAll enc Tryz.prog W 0 (fun _ => true) true Tryz.f5.params.toList args.toList ds p := hA0
  have hV : DataW.TrodVars enc Tryz.prog W (fun _ => true) [] gs q := hV0
  rw [Tryz.params5] at hA hval
  obtain ⟨v0, v1, v2, d0, d1, d2, p0, p1, p2, rfl, rfl, rfl, h0, h1, h2⟩ := trodAll_three hA
  obtain ⟨rfl, rfl⟩ : gs = [] ∧ q = [] := by
    cases gs with
    | nil => exact ⟨rfl, hV⟩
    | cons g r => exact absurd hV (by intro h; cases h)
  have hval1 := hval 0 24 v0 rfl rfl
  have hval2 := hval 1 5 v1 rfl rfl
  have hval3 := hval 2 9 v2 rfl rfl
  have h1k := h1
  have h2k := h2
  obtain ⟨n, rfl, rfl, rfl, hn⟩ := open_int Tryz.underlying5 hval2 h1
  obtain ⟨nm, rfl, rfl, rfl, hs⟩ := Go.ChangeMaps.open_string Tryz.underlying9 hval3 h2
  obtain ⟨k, rfl⟩ : ∃ k : UInt8, n = (k.toNat : Int) := by
    have hw : 0 ≤ n ∧ n ≤ 255 := by have h := hn; simp only [Lit.wf, Bool.and_eq_true, decide_eq_true_eq] at h; exact ⟨by have e : IntKind.u8.min = 0 := rfl; omega, by have e : IntKind.u8.max = 255 := rfl; omega⟩
    refine ⟨UInt8.ofNat n.toNat, ?_⟩
    have e : (UInt8.ofNat n.toNat).toNat = n.toNat % 256 := UInt8.toNat_ofNat' ..
    rw [e]; omega
  obtain ⟨cs, rfl⟩ : ∃ cs, v0 = .agg cs := by
    unfold Value.okWide at hval1
    rw [Tryz.underlying24] at hval1
    obtain ⟨cs, h, _⟩ := hval1
    exact ⟨cs, h⟩
  have h0k := h0
  obtain ⟨fuel, hf⟩ := h0
  have hlight : Light (d0.weights Tryz.prog 24) := by
    have hsz' : (DataW.weightsEach Tryz.prog (Tryz.f5.params.toList ++ Rows.scopeFreshSpec.plain.varTypes Tryz.prog) ([d0, .lit (.int .u8 k.toNat), .lit (.string nm.data.toList)] ++ [])).all (· ≤ reachBytes) = true := hsz
    rw [Tryz.params5] at hsz'
    have : Light (DataW.weightsEach Tryz.prog (#[24, 5, 9].toList ++ Rows.scopeFreshSpec.plain.varTypes Tryz.prog) ([d0, .lit (.int .u8 k.toNat), .lit (.string nm.data.toList)] ++ [])) := hsz'
    exact Light.left this
  obtain ⟨P, A, c, hcs, hc1, hc2, hrd⟩ := op_prog fuel (.agg cs) _ _ hf hlight
  have hcs' : cs = #[.slice A P.length c] := by
    have : cs.toList = [.slice A P.length c] := hcs
    rw [← Array.toList_inj]; exact this
  subst hcs'
  refine (scopeFresh_any P k nm (InW W) A c W hrd hc2 hc1 (fun q hq => hq) (handle_of_laid hL) tb htb).mono fun e W' ⟨he, hw⟩ => ?_
  subst he
  have e1 : Rows.scopeFreshSpec.fn H ([d0, .lit (.int .u8 k.toNat), .lit (.string nm.data.toList)] ++ []) = { results := [.lit (.bool true)], args := [d0, .lit (.int .u8 k.toNat), .lit (.string nm.data.toList)] } := by simp [Rows.scopeFreshSpec]
  have hlt : ∀ x ∈ p0, x.block < W.heap.size := fun x hx => hW'.lt x (by simpa using hx)
  refine ⟨_, rfl, post_of_fr hw hW' ?_ ?_ ?_ ?_⟩
  · intro b sp hd
    rw [e1]
    exact trodAll_mk1 (shut_bool Tryz.underlying4 true)
  · intro sp hsp
    rw [e1, List.append_nil, Tryz.params5]
    have h3 := trodAll_mk3 (WideElems.Trod_stays laidOut readProg rowProg h0k (fun x hx => hw.below.same (hlt x hx)) (fun x hx => hsp x (by simpa using hx))) (shut_int Tryz.underlying5 hn) (Go.ChangeMaps.shut_string Tryz.underlying9 hs)
    simp only [List.append_nil] at h3 ⊢
    exact h3
  · intro sp
    rw [e1]; rfl
  · exact ok_one (by kernel_rfl) rfl (okWide_bool_mk Tryz.underlying4 true)
end Go.Proofs.YtfncbemligfloaaGreatDoor
