/- Contracts and laws, file 7: WkE, WkF, WkG -/
import Derived.Test.YtnlnejpioijkiaaGreatDoorMg06
import Derived.Deep.DeepCutAuto
import Derived.Deep.CutBlock
import Derived.StillTailTactics
/- Contracts of the reference's walker: a loop, given the blocks within it. -/
namespace Go.Proofs.YtnlnejpioijkiaaGreatDoor
open Go.RowKit
set_option linter.unusedVariables false
set_option linter.unusedSimpArgs false
theorem exAt_get {ex : List Ex} {i : Nat} (h : i < ex.length) : exAt ex i = ex[i] := by rw [exAt, List.getD_eq_getElem?_getD, List.getElem?_eq_getElem h, Option.getD_some]
theorem Mid.deeper {base b : Nat} {PV : Value} {ru : Int} {w0 w : World} {ve0 vg0 : Value} {s : Wk} {ve vg : Value} (h : Mid base b PV ru w0 ve0 vg0 w s ve vg) : Mid base b PV ru w0 ve0 vg0 (w.setCell ⟨b, 8, none⟩ (.int .i64 (s.loops + 1))) s.deeper ve vg := by
  have hf : Fr (fun k => k = b) w (w.setCell ⟨b, 8, none⟩ (.int .i64 (s.loops + 1))) := (Fr.refl _ _).setCell _ _ (.inl rfl)
  exact h.one hf (h.at'.with hf (blk_set h.at'.blk 8 _) rfl rfl)
def Wk.up (s : Wk) : Wk := { s with loops := s.loops - 1 }
theorem Mid.up {base b : Nat} {PV : Value} {ru : Int} {w0 w : World} {ve0 vg0 : Value} {s : Wk} {ve vg : Value} (h : Mid base b PV ru w0 ve0 vg0 w s ve vg) : Mid base b PV ru w0 ve0 vg0 (w.setCell ⟨b, 8, none⟩ (.int .i64 (s.loops - 1))) s.up ve vg := by
  have hf : Fr (fun k => k = b) w (w.setCell ⟨b, 8, none⟩ (.int .i64 (s.loops - 1))) := (Fr.refl _ _).setCell _ _ (.inl rfl)
  exact h.one hf (h.at'.with hf (blk_set h.at'.blk 8 _) rfl rfl)
theorem loopOut_eq (s : Wk) (m : Nat) : s.loopOut m = s.up.cut m := rfl
abbrev stA (k : UInt8) (nm fr : ByteArray) (sec mt : Bool) (A1 : Option Addr) (n1 c1 : Nat) (A2 : Option Addr) (n2 c2 : Nat) (A3 : Option Addr) (n3 c3 : Nat) (A4 : Option Addr) (n4 c4 : Nat) : Array Value :=
  #[vu8 k, .string nm, .string fr, .bool sec, .bool mt, .slice A1 n1 c1, .slice A2 n2 c2, .slice A3 n3 c3, .slice A4 n4 c4]

set_option maxRecDepth 100000 in
set_option maxHeartbeats 4000000 in
theorem wkloop_of (base b : Nat) (ok : Nat → Prop) (PA : Option Addr) (pc : Nat) (P : List Fu) (F : Nat) (ru : Int) (N : Nat) (BK : BkC base b ok PA pc P F ru N)
   (w : World) (s : Wk) (ve vg : Value) (k : UInt8) (nm fr : ByteArray) (sec mt : Bool) (ex : List Ex) (body : List St) (d : Nat) (A1 A2 A3 A4 : Option Addr) (c1 n2 c2 c3 n4 c4 : Nat)
   (hN : St.sizes body ≤ N) (hok : St.oks body d = true) (hk : k.toNat = 6 ∨ k.toNat = 7) (hx1 : 1 ≤ ex.length) (hex : ex.all exM = true) (r1 : RdRows ok w 5 A1 0 (Ex.ds ex)) (q1 : ex.length * 64 ≤ reach) (r3 : RdRows ok w 9 A3 0 (St.ds body)) (q3 : body.length * 144 ≤ reach)
   (hl : Lim (St.sizes body + 1) (St.sizes body) s) (hF : s.f = (F : Int)) (h : WkAt base b (.slice PA P.length pc) ru w s ve vg) (hP : ScP base ok PA pc P F w) :
   Calls Tryz.prog 80 #[.pointer (some ⟨b, 0, none⟩), .agg #[vu8 k, .string nm, .string fr, .bool sec, .bool mt, .slice A1 ex.length c1, .slice A2 n2 c2, .slice A3 body.length c3, .slice A4 n4 c4]] w
     (WkR base b (.slice PA P.length pc) ru w ve vg (((Wk.stmts ru P body (s.loopIn ru k nm ex)).cut (s.loopIn ru k nm ex).env.length).loopOut (s.pub ru (exAt ex 0)).env.length)) := by
  have hl1 : ex.length ≤ 140737488355328 := by unfold reach at q1; omega
  have hl3 : body.length ≤ 140737488355328 := by unfold reach at q3; omega
  obtain ⟨W1, HW1⟩ : ∃ W1, W1 = w.alloc (.cells #[vu8 k, .string nm, .string fr, .bool sec, .bool mt, .slice A1 ex.length c1, .slice A2 n2 c2, .slice A3 body.length c3, .slice A4 n4 c4] 53) := ⟨_, rfl⟩
  have hf1 : Fr Non w W1 := by rw [HW1]; exact (fr_refl w).alloc _
  have hb1 : W1.heap[w.heap.size]? = some (.cells #[vu8 k, .string nm, .string fr, .bool sec, .bool mt, .slice A1 ex.length c1, .slice A2 n2 c2, .slice A3 body.length c3, .slice A4 n4 c4] 53 (0, 0)) := by rw [HW1]; exact blk_new _ _ _
  have hfar := far_new h
  have HOKS := Lib.hid (show ∀ q, ok q → ¬ WS b ve vg q from fun q hq hs => by have h1 := hP.hok q hq; have h2 := (h.lt q hs).1; omega)
  have HLT := Lib.hid (show ∀ q, ok q → q < W1.heap.size by intro q hq; have h1 := hP.hok q hq; have := h.hb; have := blk_lt h.blk; have := hf1.size; omega)
  have HP := Lib.hid hP; clear hP
  have R1 := Lib.hid (r1.fr hf1 (fun _ _ => non _) fun _ h => h); clear r1
  have R3 := Lib.hid r3; clear r3
  have M1 := Lib.hid ((Mid.start h).stay hf1); clear h
  have HF1 := Lib.hid hf1; clear hf1
  have s5 := (cells_of hb1).1 5 _ rfl
  have HB1 := Lib.hid hb1; clear hb1
  have HK := Lib.hid (Kp.pub ru s (exAt ex 0))
  have HLI := Lib.hid (hl.loopIn ru k nm ex)
  have HL := Lib.hid hl; clear hl
  have HSF := Lib.hid hF; clear hF
  have HOK := Lib.hid hok; clear hok
  obtain ⟨b6, o6, A6, c6, rfl, hb6, x0, x1, x2, x3, x4, p6, q6, r6⟩ := at_ex R1.out 0 hx1
  have hem : exM (exAt ex 0) = true := exAt_all hex hx1
  rw [exAt_get hx1] at hem
  have HEM := Lib.hid hem; clear hem
  have HX := Lib.hid (exAt_get hx1)
  rw [HX.out] at HK
  have HLP := Lib.hid (show s.loopIn ru k nm ex = if k.toNat = 7 then (s.pub ru ex[0]).deeper.give ru (Va.num nm false false) else (s.pub ru ex[0]).deeper by rw [Wk.loopIn, HX.out])
  rw [HX.out]
  generalize ex[0] = y at *
  have HR6 := Lib.hid r6; clear r6
  clear HX
  go_enter Tryz.func80, Tryz.ntmps80
  go_upto_region 1 with fail
  rw [← HW1]; clear HW1
  simp only [Nat.zero_mul, Nat.add_zero] at x0 x1 x2 x3 x4
  go_wp2_with fail
  refine (public_any y 1 ok A6 c6 base b _ ru W1 s ve vg HEM.out HR6.out (fun q hq e => HOKS.out q hq (.inl e)) M1.out.at' (by have := HL.out.env; omega)).mono ?_
  rintro e w2 ⟨rfl, hf2, h2⟩
  generalize s.pub ru y = s1 at *
  have hb2 := blk_fr HB1.out hf2 (far_b hfar)
  have m2 := M1.out.one hf2 h2
  obtain ⟨A, c, rfl, hAc⟩ := row_slice h2.env
  have M2 := Lib.hid m2; clear m2 h2 hf2 x0 x1 x2 x3 x4 s5
  have b2 := (cells_of M2.out.at'.blk).1 2 _ rfl
  have b8 := (cells_of M2.out.at'.blk).1 8 _ rfl
  have bf := (cells_of M2.out.at'.blk).2
  have l0 := HL.out.l0
  have l1 := HL.out.l1
  rw [← HK.out.loops] at l0 l1
  have s0 := (cells_of hb2).1 0 _ rfl
  have HB2 := Lib.hid hb2; clear hb2
  obtain ⟨W3, HW3⟩ : ∃ W3, W3 = w2.setCell ⟨b, 8, none⟩ (.int .i64 (s1.loops + 1)) := ⟨_, rfl⟩
  have M3 := Lib.hid (show Mid base b (.slice PA P.length pc) ru w _ vg W3 s1.deeper _ vg by rw [HW3]; exact M2.out.deeper)
  have hf3 : Fr (fun k => k = b) w2 W3 := by rw [HW3]; exact (Fr.refl _ _).setCell _ _ (.inl rfl)
  go_upto_region 4 with fail
  rw [← HW3]; clear HW3
  have hb3 := blk_fr HB2.out hf3 (far_b hfar)
  clear b2 b8 bf hf3 s0
  have s0 := (cells_of hb3).1 0 _ rfl
  have s1' := (cells_of hb3).1 1 _ rfl
  have s7 := (cells_of hb3).1 7 _ rfl
  have HB3 := Lib.hid hb3; clear hb3
  have hlB := blk_lt HB3.out
  have HSF1 := Lib.hid (show s1.f = (F : Int) from HK.out.f.trans HSF.out)
  by_cases k7 : k.toNat = 7
  · have f7 : ((k.toNat : Int) == 7) = true := by rw [k7]; rfl
    have f7' : decide ((k.toNat : Int) = 7) = true := decide_eq_true (by omega)
    have hlp := HLP.out
    rw [if_pos k7] at hlp
    rw [hlp] at HLI
    have HLE := Lib.hid hlp
    clear HLP hlp
    have HK7 := Lib.hid k7; clear k7
    go_wp2_with fail
    refine (give_any base b _ ru W3 s1.deeper _ vg (Va.num nm false false) M3.out.at' (by have := HL.out.env; have := HK.out.env; show s1.env.length ≤ _; omega) (by have := HL.out.giv; have := HK.out.giv; show s1.given.length ≤ _; omega)).mono ?_
    rintro e w4 ⟨rfl, h4⟩
    obtain ⟨ve4, vg4, m4, hf4, hn4⟩ := M3.out.step h4
    have hb4 := blk_fr HB3.out hf4 hfar
    have hfar4 := far_step hfar hlB hn4
    have hfg := Gr.give ru s1.deeper (Va.num nm false false)
    have HFG := Lib.hid (hfg.f.trans HSF1.out)
    have HGG := Lib.hid (show (s1.deeper.give ru (Va.num nm false false)).loops = s1.loops + 1 from hfg.l)
    have HGE := Lib.hid (show s1.env.length ≤ (s1.deeper.give ru (Va.num nm false false)).env.length from hfg.e1)
    clear hfg
    generalize s1.deeper.give ru (Va.num nm false false) = s3 at *
    have M4 := Lib.hid m4; clear m4 h4 hf4 hn4 s0 s1' s7
    have s7 := (cells_of hb4).1 7 _ rfl
    have HB4 := Lib.hid hb4; clear hb4
    go_wp2_with fail
    refine (BK body d A3 c3 w4 s3 ve4 vg4 hN HOK.out (R3.out.fr M4.out.fr (fun q hq hs => HOKS.out q hq hs) fun _ h => h) q3 HLI.out HFG.out M4.out.at' (HP.out.fr M4.out.fr fun q hq hs => HOKS.out q hq hs)).mono ?_
    rintro e w5 ⟨rfl, h5⟩
    obtain ⟨ve5, vg5, m5, hf5, hn5⟩ := M4.out.step h5
    obtain ⟨A5, c5, rfl, hc5⟩ := row_slice m5.at'.env
    have hbl : Wk.block ru P body s3 = (Wk.stmts ru P body s3).cut s3.env.length := rfl
    have hgr := Gr.stmts ru P body s3
    have hlo : (Wk.block ru P body s3).loops = s1.loops + 1 := by rw [hbl]; exact hgr.l.trans HGG.out
    have hel : s1.env.length ≤ (Wk.block ru P body s3).env.length := by
      rw [hbl]; show _ ≤ (List.take _ _).length
      rw [List.length_take, Nat.min_eq_left hgr.e1]; exact HGE.out
    have HBL := Lib.hid hbl
    clear hgr hbl
    generalize Wk.block ru P body s3 = u at *
    have M5 := Lib.hid m5; clear m5 h5 hf5 hn5 s7
    have b8 := (cells_of M5.out.at'.blk).1 8 _ rfl
    have b2 := (cells_of M5.out.at'.blk).1 2 _ rfl
    have bf := (cells_of M5.out.at'.blk).2
    have l2 : 0 ≤ u.loops := by omega
    have l3 : u.loops ≤ 1099511627777 := by omega
    have HLO := Lib.hid hlo; clear hlo
    obtain ⟨W6, HW6⟩ : ∃ W6, W6 = w5.setCell ⟨b, 8, none⟩ (.int .i64 (u.loops - 1)) := ⟨_, rfl⟩
    have M6 := Lib.hid (show Mid base b (.slice PA P.length pc) ru w _ vg W6 u.up _ vg5 by rw [HW6]; exact M5.out.up)
    go_upto_region 8 with fail
    rw [← HW6]; clear HW6
    clear b8 b2 bf
    have b2 := (cells_of M6.out.at'.blk).1 2 _ rfl
    have bf := (cells_of M6.out.at'.blk).2
    have hcut := M6.out.cut (m := s1.env.length) hel
    have hcc : s1.env.length ≤ c5 := Nat.le_trans hel hc5
    have HC := Lib.hid hcut; clear hcut
    go_wp2_with fail
    go_end0
    refine ⟨rfl, ?_⟩
    rw [HLE.out, ← HBL.out]
    exact HC.out.stp
  · have f7 : ((k.toNat : Int) == 7) = false := by rw [beq_eq_false_iff_ne]; omega
    have f7' : decide ((k.toNat : Int) = 7) = false := decide_eq_false (by omega)
    have hlp := HLP.out
    rw [if_neg k7] at hlp
    rw [hlp] at HLI
    have HLE := Lib.hid hlp
    clear HLP hlp k7 hk
    have HB4 := HB3
    go_wp2_with fail
    refine (BK body d A3 c3 W3 s1.deeper (.slice A s1.env.length c) vg hN HOK.out (R3.out.fr M3.out.fr (fun q hq hs => HOKS.out q hq hs) fun _ h => h) q3 HLI.out HSF1.out M3.out.at' (HP.out.fr M3.out.fr fun q hq hs => HOKS.out q hq hs)).mono ?_
    rintro e w5 ⟨rfl, h5⟩
    obtain ⟨ve5, vg5, m5, hf5, hn5⟩ := M3.out.step h5
    obtain ⟨A5, c5, rfl, hc5⟩ := row_slice m5.at'.env
    have hbl : Wk.block ru P body s1.deeper = (Wk.stmts ru P body s1.deeper).cut s1.deeper.env.length := rfl
    have hgr := Gr.stmts ru P body s1.deeper
    have hlo : (Wk.block ru P body s1.deeper).loops = s1.loops + 1 := by rw [hbl]; exact hgr.l.trans rfl
    have hel : s1.env.length ≤ (Wk.block ru P body s1.deeper).env.length := by
      rw [hbl]; show _ ≤ (List.take _ _).length
      rw [List.length_take, Nat.min_eq_left hgr.e1]; exact (Nat.le_refl _)
    have HBL := Lib.hid hbl
    clear hgr hbl
    generalize Wk.block ru P body s1.deeper = u at *
    have M5 := Lib.hid m5; clear m5 h5 hf5 hn5 s7
    have b8 := (cells_of M5.out.at'.blk).1 8 _ rfl
    have b2 := (cells_of M5.out.at'.blk).1 2 _ rfl
    have bf := (cells_of M5.out.at'.blk).2
    have l2 : 0 ≤ u.loops := by omega
    have l3 : u.loops ≤ 1099511627777 := by omega
    have HLO := Lib.hid hlo; clear hlo
    obtain ⟨W6, HW6⟩ : ∃ W6, W6 = w5.setCell ⟨b, 8, none⟩ (.int .i64 (u.loops - 1)) := ⟨_, rfl⟩
    have M6 := Lib.hid (show Mid base b (.slice PA P.length pc) ru w _ vg W6 u.up _ vg5 by rw [HW6]; exact M5.out.up)
    go_upto_region 8 with fail
    rw [← HW6]; clear HW6
    clear b8 b2 bf
    have b2 := (cells_of M6.out.at'.blk).1 2 _ rfl
    have bf := (cells_of M6.out.at'.blk).2
    have hcut := M6.out.cut (m := s1.env.length) hel
    have hcc : s1.env.length ≤ c5 := Nat.le_trans hel hc5
    have HC := Lib.hid hcut; clear hcut
    go_wp2_with fail
    go_end0
    refine ⟨rfl, ?_⟩
    rw [HLE.out, ← HBL.out]
    exact HC.out.stp
end Go.Proofs.YtnlnejpioijkiaaGreatDoor
/- Contracts of the reference's walker: what a view lends, given the blocks within it. -/
namespace Go.Proofs.YtnlnejpioijkiaaGreatDoor
open Go.RowKit
set_option linter.unusedVariables false
set_option linter.unusedSimpArgs false
abbrev vaA (x : Va) : Array Value := #[.string x.name, .bool x.buf, .bool x.sec, .bool x.mt, .bool x.own, .bool x.set, .bool x.gone, .int .i64 x.lent, .int .i64 x.loops]
theorem blk_put9 {w : World} {g : Nat} {a0 a1 a2 a3 a4 a5 a6 a7 a8 : Value} {T : TypeId} (h : w.heap[g]? = some (.cells #[a0, a1, a2, a3, a4, a5, a6, a7, a8] T (0, 0))) (v0 v1 v2 v3 v4 v5 v6 v7 v8 : Value) :
    (((((((((w.setCell ⟨g, 0, none⟩ v0).setCell ⟨g, 1, none⟩ v1).setCell ⟨g, 2, none⟩ v2).setCell ⟨g, 3, none⟩ v3).setCell ⟨g, 4, none⟩ v4).setCell ⟨g, 5, none⟩ v5).setCell ⟨g, 6, none⟩ v6).setCell ⟨g, 7, none⟩ v7).setCell ⟨g, 8, none⟩ v8).heap[g]? = some (.cells #[v0, v1, v2, v3, v4, v5, v6, v7, v8] T (0, 0)) := by
  have h0 : (w.setCell ⟨g, 0, none⟩ v0).heap[g]? = some (.cells #[v0, a1, a2, a3, a4, a5, a6, a7, a8] T (0, 0)) := blk_set h 0 v0
  have h1 : ((w.setCell ⟨g, 0, none⟩ v0).setCell ⟨g, 1, none⟩ v1).heap[g]? = some (.cells #[v0, v1, a2, a3, a4, a5, a6, a7, a8] T (0, 0)) := blk_set h0 1 v1
  have h2 : (((w.setCell ⟨g, 0, none⟩ v0).setCell ⟨g, 1, none⟩ v1).setCell ⟨g, 2, none⟩ v2).heap[g]? = some (.cells #[v0, v1, v2, a3, a4, a5, a6, a7, a8] T (0, 0)) := blk_set h1 2 v2
  have h3 : ((((w.setCell ⟨g, 0, none⟩ v0).setCell ⟨g, 1, none⟩ v1).setCell ⟨g, 2, none⟩ v2).setCell ⟨g, 3, none⟩ v3).heap[g]? = some (.cells #[v0, v1, v2, v3, a4, a5, a6, a7, a8] T (0, 0)) := blk_set h2 3 v3
  have h4 : (((((w.setCell ⟨g, 0, none⟩ v0).setCell ⟨g, 1, none⟩ v1).setCell ⟨g, 2, none⟩ v2).setCell ⟨g, 3, none⟩ v3).setCell ⟨g, 4, none⟩ v4).heap[g]? = some (.cells #[v0, v1, v2, v3, v4, a5, a6, a7, a8] T (0, 0)) := blk_set h3 4 v4
  have h5 : ((((((w.setCell ⟨g, 0, none⟩ v0).setCell ⟨g, 1, none⟩ v1).setCell ⟨g, 2, none⟩ v2).setCell ⟨g, 3, none⟩ v3).setCell ⟨g, 4, none⟩ v4).setCell ⟨g, 5, none⟩ v5).heap[g]? = some (.cells #[v0, v1, v2, v3, v4, v5, a6, a7, a8] T (0, 0)) := blk_set h4 5 v5
  have h6 : (((((((w.setCell ⟨g, 0, none⟩ v0).setCell ⟨g, 1, none⟩ v1).setCell ⟨g, 2, none⟩ v2).setCell ⟨g, 3, none⟩ v3).setCell ⟨g, 4, none⟩ v4).setCell ⟨g, 5, none⟩ v5).setCell ⟨g, 6, none⟩ v6).heap[g]? = some (.cells #[v0, v1, v2, v3, v4, v5, v6, a7, a8] T (0, 0)) := blk_set h5 6 v6
  have h7 : ((((((((w.setCell ⟨g, 0, none⟩ v0).setCell ⟨g, 1, none⟩ v1).setCell ⟨g, 2, none⟩ v2).setCell ⟨g, 3, none⟩ v3).setCell ⟨g, 4, none⟩ v4).setCell ⟨g, 5, none⟩ v5).setCell ⟨g, 6, none⟩ v6).setCell ⟨g, 7, none⟩ v7).heap[g]? = some (.cells #[v0, v1, v2, v3, v4, v5, v6, v7, a8] T (0, 0)) := blk_set h6 7 v7
  have h8 : (((((((((w.setCell ⟨g, 0, none⟩ v0).setCell ⟨g, 1, none⟩ v1).setCell ⟨g, 2, none⟩ v2).setCell ⟨g, 3, none⟩ v3).setCell ⟨g, 4, none⟩ v4).setCell ⟨g, 5, none⟩ v5).setCell ⟨g, 6, none⟩ v6).setCell ⟨g, 7, none⟩ v7).setCell ⟨g, 8, none⟩ v8).heap[g]? = some (.cells #[v0, v1, v2, v3, v4, v5, v6, v7, v8] T (0, 0)) := blk_set h7 8 v8
  exact h8
theorem fr_put9 {g : Nat} {w : World} {S : Nat → Prop} (hs : S g) (v0 v1 v2 v3 v4 v5 v6 v7 v8 : Value) :
    Fr S w (((((((((w.setCell ⟨g, 0, none⟩ v0).setCell ⟨g, 1, none⟩ v1).setCell ⟨g, 2, none⟩ v2).setCell ⟨g, 3, none⟩ v3).setCell ⟨g, 4, none⟩ v4).setCell ⟨g, 5, none⟩ v5).setCell ⟨g, 6, none⟩ v6).setCell ⟨g, 7, none⟩ v7).setCell ⟨g, 8, none⟩ v8) :=
  (((((((((Fr.refl S w).setCell _ _ (.inl hs)).setCell _ _ (.inl hs)).setCell _ _ (.inl hs)).setCell _ _ (.inl hs)).setCell _ _ (.inl hs)).setCell _ _ (.inl hs)).setCell _ _ (.inl hs)).setCell _ _ (.inl hs)).setCell _ _ (.inl hs)
theorem Mid.own {base b : Nat} {PV : Value} {ru : Int} {w0 w w' : World} {ve0 vg0 ve vg : Value} {s : Wk} {q : Nat} (h : Mid base b PV ru w0 ve0 vg0 w s ve vg) (hf : Fr (fun k => k = q) w w') (hq : ¬ WS b ve vg q) (h0 : w0.heap.size ≤ q) : Mid base b PV ru w0 ve0 vg0 w' s ve vg :=
  h.away hf (fun k hk e => by subst e; exact hq hk) (fun k e => by subst e; exact h0)

set_option maxRecDepth 100000 in
set_option maxHeartbeats 4000000 in
theorem wklend_of (base b : Nat) (ok : Nat → Prop) (PA : Option Addr) (pc : Nat) (P : List Fu) (F : Nat) (ru : Int) (N : Nat) (BK : BkC base b ok PA pc P F ru N)
   (w : World) (s : Wk) (ve vg : Value) (k : UInt8) (nm fr : ByteArray) (sec mt : Bool) (ex : List Ex) (body : List St) (d : Nat) (A1 A2 A3 A4 : Option Addr) (c1 n2 c2 c3 n4 c4 : Nat)
   (hN : St.sizes body ≤ N) (hok : St.oks body d = true) (hx2 : 2 ≤ ex.length) (hex : ex.all exM = true) (r1 : RdRows ok w 5 A1 0 (Ex.ds ex)) (q1 : ex.length * 64 ≤ reach) (r3 : RdRows ok w 9 A3 0 (St.ds body)) (q3 : body.length * 144 ≤ reach)
   (hl : Lim (St.sizes body + 1) (St.sizes body) s) (hF : s.f = (F : Int)) (h : WkAt base b (.slice PA P.length pc) ru w s ve vg) (hP : ScP base ok PA pc P F w) :
   Calls Tryz.prog 81 #[.pointer (some ⟨b, 0, none⟩), .agg #[vu8 k, .string nm, .string fr, .bool sec, .bool mt, .slice A1 ex.length c1, .slice A2 n2 c2, .slice A3 body.length c3, .slice A4 n4 c4]] w
     (WkR base b (.slice PA P.length pc) ru w ve vg (((Wk.block ru P body ((s.lend1 ru fr mt ex).2.give ru (Va.bufv nm (s.lend1 ru fr mt ex).1.sec mt false))).cut (s.lend1 ru fr mt ex).2.env.length).lend3 fr (s.lend1 ru fr mt ex).1)) := by
  have hl1 : ex.length ≤ 140737488355328 := by unfold reach at q1; omega
  have hl3 : body.length ≤ 140737488355328 := by unfold reach at q3; omega
  have hx1 : 0 < ex.length := by omega
  have hx2' : 1 < ex.length := by omega
  obtain ⟨W1, HW1⟩ : ∃ W1, W1 = w.alloc (.cells #[vu8 k, .string nm, .string fr, .bool sec, .bool mt, .slice A1 ex.length c1, .slice A2 n2 c2, .slice A3 body.length c3, .slice A4 n4 c4] 53) := ⟨_, rfl⟩
  have hf1 : Fr Non w W1 := by rw [HW1]; exact (fr_refl w).alloc _
  have hb1 : W1.heap[w.heap.size]? = some (.cells #[vu8 k, .string nm, .string fr, .bool sec, .bool mt, .slice A1 ex.length c1, .slice A2 n2 c2, .slice A3 body.length c3, .slice A4 n4 c4] 53 (0, 0)) := by rw [HW1]; exact blk_new _ _ _
  have hfar := far_new h
  have HOKS := Lib.hid (show ∀ q, ok q → ¬ WS b ve vg q from fun q hq hs => by have h1 := hP.hok q hq; have h2 := (h.lt q hs).1; omega)
  have HP := Lib.hid hP; clear hP
  have R1 := Lib.hid r1; clear r1
  have R3 := Lib.hid r3; clear r3
  have M1 := Lib.hid ((Mid.start h).stay hf1); clear h hf1
  have s5 := (cells_of hb1).1 5 _ rfl
  have HB1 := Lib.hid hb1; clear hb1
  have HL := Lib.hid hl; clear hl
  have HSF := Lib.hid hF; clear hF
  have HOK := Lib.hid hok; clear hok
  obtain ⟨b6, o6, A6, c6, rfl, hb6, x0, x1, x2, x3, x4, p6, q6, r6⟩ := at_ex (R1.out.fr M1.out.fr HOKS.out fun _ h => h) 0 hx1
  have hem : exM ex[0] = true := by rw [← exAt_get hx1]; exact exAt_all hex hx1
  have hem1 : exM ex[1] = true := by rw [← exAt_get hx2']; exact exAt_all hex hx2'
  have HEM := Lib.hid hem; clear hem
  have HEM1 := Lib.hid hem1; clear hem1
  have HKL := Lib.hid (Kp.lend1 ru fr mt ex s)
  have HLN := Lib.hid (show s.lend1 ru fr mt ex = ((((s.pub ru ex[0]).pub ru ex[1]).ask ru fr true).1, (if mt then ((((s.pub ru ex[0]).pub ru ex[1]).ask ru fr true).2.turned ru fr).2 else (((s.pub ru ex[0]).pub ru ex[1]).ask ru fr true).2).put { (((s.pub ru ex[0]).pub ru ex[1]).ask ru fr true).1 with lent := if mt then 2 else max (((s.pub ru ex[0]).pub ru ex[1]).ask ru fr true).1.lent 1 }) by rw [← exAt_get hx1, ← exAt_get hx2']; rfl)
  have e01 : ex[0]'hx1 = ex[0]'hx1 := rfl
  go_enter Tryz.func81, Tryz.ntmps81
  go_upto_region 1 with fail
  rw [← HW1]; clear HW1
  simp only [Nat.zero_mul, Nat.add_zero] at x0 x1 x2 x3 x4
  generalize ex[0] = y at *
  have HR6 := Lib.hid r6; clear r6
  go_wp2_with fail
  refine (public_any y 1 ok A6 c6 base b _ ru W1 s ve vg HEM.out HR6.out (fun q hq e => HOKS.out q hq (.inl e)) M1.out.at' (by have := HL.out.env; omega)).mono ?_
  rintro e w2 ⟨rfl, hf2, h2⟩
  have hk1 := Kp.pub ru s y
  generalize s.pub ru y = s1 at *
  have hb2 := blk_fr HB1.out hf2 (far_b hfar)
  have m2 := M1.out.one hf2 h2
  obtain ⟨b7, o7, A7, c7, ee, hb7, y0, y1, y2, y3, y4, p7, q7, r7⟩ := at_ex (R1.out.fr m2.fr HOKS.out fun _ h => h) 1 hx2'
  cases ee
  have M2 := Lib.hid m2; clear m2 h2 hf2 x0 x1 x2 x3 x4 s5
  have s5 := (cells_of hb2).1 5 _ rfl
  have HB2 := Lib.hid hb2; clear hb2
  generalize ex[1] = z at *
  have HR7 := Lib.hid r7; clear r7
  go_wp2_with fail
  refine (public_any z 1 ok A7 c7 base b _ ru w2 s1 ve vg HEM1.out HR7.out (fun q hq e => HOKS.out q hq (.inl e)) M2.out.at' (by have := HL.out.env; have := hk1.env; omega)).mono ?_
  rintro e w3 ⟨rfl, hf3, h3⟩
  have hk2 := hk1.trans (Kp.pub ru s1 z)
  generalize s1.pub ru z = s2 at *
  have hb3 := blk_fr HB2.out hf3 (far_b hfar)
  have M3 := Lib.hid (M2.out.one hf3 h3); clear h3 hf3 y0 y1 y2 y3 y4 s5
  have HK2 := Lib.hid hk2; clear hk1 hk2
  have c2' := (cells_of hb3).1 2 _ rfl
  have HB3 := Lib.hid hb3; clear hb3
  go_wp2_with fail
  refine (ask_any base b _ ru w3 s2 ve vg fr true M3.out.at' (by have := HL.out.env; have := HK2.out.env; omega)).mono ?_
  rintro e w4 ⟨rfl, hf4, h4⟩
  have HK3 := Lib.hid (HK2.out.trans (Kp.ask ru s2 fr true))
  generalize (s2.ask ru fr true).1 = v at *
  generalize (s2.ask ru fr true).2 = t at *
  have hb4 := blk_fr HB3.out hf4 (far_b hfar)
  have hfv := far_new h4
  have hlt4 := blk_lt hb4
  obtain ⟨W5, HW5⟩ : ∃ W5, W5 = w4.alloc (.cells #[.string v.name, .bool v.buf, .bool v.sec, .bool v.mt, .bool v.own, .bool v.set, .bool v.gone, .int .i64 v.lent, .int .i64 v.loops] 148) := ⟨_, rfl⟩
  have hf5 : Fr Non w4 W5 := by rw [HW5]; exact (fr_refl _).alloc _
  have hv5 : W5.heap[w4.heap.size]? = some (.cells #[.string v.name, .bool v.buf, .bool v.sec, .bool v.mt, .bool v.own, .bool v.set, .bool v.gone, .int .i64 v.lent, .int .i64 v.loops] 148 (0, 0)) := by rw [HW5]; exact blk_new _ _ _
  have m4 := M3.out.one hf4 h4
  have hq4 : w.heap.size ≤ w4.heap.size := m4.fr.size
  have M5 := Lib.hid (m4.stay hf5); clear m4 hf4 h4 c2'
  have hb5 := blk_fr hb4 hf5 (non _)
  clear hb4 hf5
  have s4c := (cells_of hb5).1 4 _ rfl
  have c2' := (cells_of hb5).1 2 _ rfl
  have HB5 := Lib.hid hb5; clear hb5
  have HV5 := Lib.hid hv5; clear hv5
  unfold Va.v
  go_upto_region 4 with fail
  rw [← HW5]; clear HW5
  have hct : t.env.length ≤ 1099511627776 := by have := HL.out.env; have := HK3.out.env; omega
  cases mt with
  | true =>
    have HK6 := Lib.hid (HK3.out.trans (Kp.turned ru t fr))
    rw [if_pos rfl, if_pos rfl] at HLN
    go_wp2_with fail
    refine (turned_any base b _ ru W5 t ve vg fr M5.out.at' hct).mono ?_
    rintro e w6 ⟨rfl, hf6, h6⟩
    generalize (t.turned ru fr).2 = t6 at *
    generalize (t.turned ru fr).1 = xx at *
    have hb6 := blk_fr HB5.out hf6 (far_b hfar)
    have hv6 := blk_fr HV5.out hf6 (far_b hfv)
    have M6 := Lib.hid (M5.out.one hf6 h6); clear hf6 h6 s4c c2'
    have HB6 := Lib.hid hb6; clear hb6
    have HV6 := Lib.hid hv6; clear hv6
    have s4c := (cells_of HB6.out).1 4 _ rfl
    have l0 := (cells_of HV6.out).1 0 _ rfl
    have l1 := (cells_of HV6.out).1 1 _ rfl
    have l2 := (cells_of HV6.out).1 2 _ rfl
    have l3 := (cells_of HV6.out).1 3 _ rfl
    have l4 := (cells_of HV6.out).1 4 _ rfl
    have l5 := (cells_of HV6.out).1 5 _ rfl
    have l6 := (cells_of HV6.out).1 6 _ rfl
    have l7 := (cells_of HV6.out).1 7 _ rfl
    have l8 := (cells_of HV6.out).1 8 _ rfl
    have hfx := far_new M6.out.at'
    have hlt6 := blk_lt HB6.out
    have hlv6 := blk_lt HV6.out
    have hq6 : w.heap.size ≤ w6.heap.size := M6.out.fr.size
    go_upto_region 7 with fail
    obtain ⟨W7, HW7⟩ : ∃ W7, W7 = w6.alloc (.cells #[.string v.name, .bool v.buf, .bool v.sec, .bool v.mt, .bool v.own, .bool v.set, .bool v.gone, .int .i64 v.lent, .int .i64 v.loops] 148) := ⟨_, rfl⟩
    have hf7 : Fr Non w6 W7 := by rw [HW7]; exact (fr_refl _).alloc _
    have hx7 : W7.heap[w6.heap.size]? = some (.cells #[.string v.name, .bool v.buf, .bool v.sec, .bool v.mt, .bool v.own, .bool v.set, .bool v.gone, .int .i64 v.lent, .int .i64 v.loops] 148 (0, 0)) := by rw [HW7]; exact blk_new _ _ _
    rw [← HW7]; clear HW7
    have M7 := Lib.hid (M6.out.stay hf7)
    have HB7 := Lib.hid (blk_fr HB6.out hf7 (non _))
    have HV7 := Lib.hid (blk_fr HV6.out hf7 (non _))
    have HX7 := Lib.hid hx7
    clear s4c l0 l1 l2 l3 l4 l5 l6 l7 l8 hf7
    have l7 := (cells_of HV7.out).1 7 _ rfl
    have z7 := (cells_of hx7).1 7 _ rfl
    have zf := (cells_of hx7).2
    clear hx7
    have s4c := (cells_of HB7.out).1 4 _ rfl
    go_upto_region 8 with fail
    rw [show (if v.lent < 1 then (1 : Int) else v.lent) = max v.lent 1 by rw [Int.max_def]; split <;> split <;> omega]
    obtain ⟨W8, HW8⟩ : ∃ W8, W8 = W7.setCell ⟨w6.heap.size, 7, none⟩ (.int .i64 (max v.lent 1)) := ⟨_, rfl⟩
    have hf8 : Fr (fun q => q = w6.heap.size) W7 W8 := by rw [HW8]; exact (Fr.refl _ _).setCell _ _ (.inl rfl)
    have hx8 : W8.heap[w6.heap.size]? = some (.cells #[.string v.name, .bool v.buf, .bool v.sec, .bool v.mt, .bool v.own, .bool v.set, .bool v.gone, .int .i64 (max v.lent 1), .int .i64 v.loops] 148 (0, 0)) := by rw [HW8]; exact blk_set HX7.out 7 _
    rw [← HW8]; clear HW8
    have M8 := Lib.hid (M7.out.own hf8 hfx hq6)
    have HB8 := Lib.hid (blk_fr HB7.out hf8 (by omega))
    have HV8 := Lib.hid (blk_fr HV7.out hf8 (by omega))
    have HX8 := Lib.hid hx8
    clear l7 z7 zf s4c hf8
    have s4c := (cells_of HB8.out).1 4 _ rfl
    have z7 := (cells_of hx8).1 7 _ rfl
    have zf := (cells_of hx8).2
    go_upto_region 10 with fail
    obtain ⟨W9, HW9⟩ : ∃ W9, W9 = W8.setCell ⟨w6.heap.size, 7, none⟩ (.int .i64 2) := ⟨_, rfl⟩
    have hf9 : Fr (fun q => q = w6.heap.size) W8 W9 := by rw [HW9]; exact (Fr.refl _ _).setCell _ _ (.inl rfl)
    have hx9 : W9.heap[w6.heap.size]? = some (.cells #[.string v.name, .bool v.buf, .bool v.sec, .bool v.mt, .bool v.own, .bool v.set, .bool v.gone, .int .i64 2, .int .i64 v.loops] 148 (0, 0)) := by rw [HW9]; exact blk_set HX8.out 7 _
    rw [← HW9]; clear HW9
    have M9 := Lib.hid (M8.out.own hf9 hfx hq6)
    have HB9 := Lib.hid (blk_fr HB8.out hf9 (by omega))
    have HV9 := Lib.hid (blk_fr HV8.out hf9 (by omega))
    clear z7 zf hf9 s4c hx8
    have z0 := (cells_of hx9).1 0 _ rfl
    have z1 := (cells_of hx9).1 1 _ rfl
    have z2 := (cells_of hx9).1 2 _ rfl
    have z3 := (cells_of hx9).1 3 _ rfl
    have z4 := (cells_of hx9).1 4 _ rfl
    have z5 := (cells_of hx9).1 5 _ rfl
    have z6 := (cells_of hx9).1 6 _ rfl
    have z7 := (cells_of hx9).1 7 _ rfl
    have z8 := (cells_of hx9).1 8 _ rfl
    have HX9 := Lib.hid hx9; clear hx9
    have hc6 : t6.env.length ≤ 1099511627776 := by have := HL.out.env; have := HK6.out.env; omega
    go_wp2_with fail
    refine (put_any base b _ ru W9 t6 ve vg { v with lent := 2 } M9.out.at' hc6).mono ?_
    rintro e w10 ⟨rfl, h10⟩
    obtain ⟨ve10, vg10, m10, hf10, hn10⟩ := M9.out.step h10
    have HL1 := Lib.hid HLN.out
    rw [HL1.out] at HKL
    clear HLN
    simp only at HKL
    generalize t6.put { v with lent := 2 } = u10 at *
    have hfx10 := far_step hfx (blk_lt HX9.out) hn10
    have hfv10 := far_step hfv (blk_lt HV9.out) hn10
    have hfr10 := far_step hfar (blk_lt HB9.out) hn10
    have hb10 := blk_fr HB9.out hf10 hfar
    have hv10 := blk_fr HV9.out hf10 hfv
    have hx10 := blk_fr HX9.out hf10 hfx
    obtain ⟨A10, c10, rfl, hc10⟩ := row_slice m10.at'.env
    have M10 := Lib.hid m10; clear m10 h10 hf10 hn10 z0 z1 z2 z3 z4 z5 z6 z7 z8
    have b2 := (cells_of M10.out.at'.blk).1 2 _ rfl
    have c1' := (cells_of hb10).1 1 _ rfl
    have s4c := (cells_of hb10).1 4 _ rfl
    have v2 := (cells_of hv10).1 2 _ rfl
    have HB10 := Lib.hid hb10; clear hb10
    have HV10 := Lib.hid hv10; clear hv10
    have HX10 := Lib.hid hx10; clear hx10
    have hlb10 := blk_lt HB10.out
    have hlv10 := blk_lt HV10.out
    have hlx10 := blk_lt HX10.out
    have HLG := Lib.hid (HL.out.kp HKL.out)
    go_wp2_with fail
    refine (give_any base b _ ru w10 u10 _ vg10 (Va.bufv nm v.sec true false) M10.out.at' (by have := HLG.out.env; omega) (by have := HLG.out.giv; omega)).mono ?_
    rintro e w11 ⟨rfl, h11⟩
    obtain ⟨ve11, vg11, m11, hf11, hn11⟩ := M10.out.step h11
    have hg := Gr.give ru u10 (Va.bufv nm v.sec true false)
    have HLB := Lib.hid (HLG.out.gr hg)
    have HGE := Lib.hid (show u10.env.length ≤ (u10.give ru (Va.bufv nm v.sec true false)).env.length from hg.e1)
    have HF11 := Lib.hid (show (u10.give ru (Va.bufv nm v.sec true false)).f = (F : Int) from hg.f.trans (HKL.out.f.trans HSF.out))
    have HU11 := Lib.hid (show ∃ x, x = u10.give ru (Va.bufv nm v.sec true false) from ⟨_, rfl⟩)
    obtain ⟨u11, hu11⟩ := HU11.out
    rw [← hu11] at m11 HLB HGE HF11
    have HU := Lib.hid hu11; clear hu11 HU11 hg
    have hfx11 := far_step hfx10 hlx10 hn11
    have hfv11 := far_step hfv10 hlv10 hn11
    have hfr11 := far_step hfr10 hlb10 hn11
    have hb11 := blk_fr HB10.out hf11 hfr10
    have HV11 := Lib.hid (blk_fr HV10.out hf11 hfv10)
    have HX11 := Lib.hid (blk_fr HX10.out hf11 hfx10)
    have M11 := Lib.hid m11; clear m11 h11 hf11 hn11 b2 c1' s4c v2
    have c7' := (cells_of hb11).1 7 _ rfl
    have HB11 := Lib.hid hb11; clear hb11
    have hlb11 := blk_lt HB11.out
    have hlv11 := blk_lt HV11.out
    have hlx11 := blk_lt HX11.out
    go_wp2_with fail
    refine (BK body d A3 c3 w11 u11 ve11 vg11 hN HOK.out (R3.out.fr M11.out.fr (fun q hq hs => HOKS.out q hq hs) fun _ h => h) q3 HLB.out HF11.out M11.out.at' (HP.out.fr M11.out.fr fun q hq hs => HOKS.out q hq hs)).mono ?_
    rintro e w12 ⟨rfl, h12⟩
    obtain ⟨ve12, vg12, m12, hf12, hn12⟩ := M11.out.step h12
    have hgr := Gr.stmts ru P body u11
    have hel : u10.env.length ≤ (Wk.block ru P body u11).env.length := by
      show _ ≤ (List.take _ _).length
      rw [List.length_take, Nat.min_eq_left hgr.e1]; exact HGE.out
    have hel2 : (Wk.block ru P body u11).env.length ≤ 1099511627776 := by
      show (List.take _ _).length ≤ _
      rw [List.length_take, Nat.min_eq_left hgr.e1]; have := HLB.out.env; omega
    clear hgr
    have HUB := Lib.hid (show Wk.block ru P body (u10.give ru (Va.bufv nm v.sec true false)) = Wk.block ru P body u11 by rw [HU.out])
    generalize Wk.block ru P body u11 = u12 at *
    have hfx12 := far_step hfx11 hlx11 hn12
    have hfv12 := far_step hfv11 hlv11 hn12
    have hb12 := blk_fr HB11.out hf12 hfr11
    have HV12 := Lib.hid (blk_fr HV11.out hf12 hfv11)
    have HX12 := Lib.hid (blk_fr HX11.out hf12 hfx11)
    obtain ⟨A12, c12, rfl, hc12⟩ := row_slice m12.at'.env
    have hfr12 := far_step hfr11 hlb11 hn12
    have M12 := Lib.hid m12; clear m12 h12 hf12 hn12 c7'
    have b2 := (cells_of M12.out.at'.blk).1 2 _ rfl
    have bf := (cells_of M12.out.at'.blk).2
    have HC := Lib.hid (M12.out.cut (m := u10.env.length) hel)
    have hcc : u10.env.length ≤ c12 := Nat.le_trans hel hc12
    have hf13 : Fr (fun q => q = b) w12 (w12.setCell ⟨b, 2, none⟩ (.slice A12 u10.env.length c12)) := (Fr.refl _ _).setCell _ _ (.inl rfl)
    have hb13 := blk_fr hb12 hf13 (far_b hfr12)
    have HV13 := Lib.hid (blk_fr HV12.out hf13 (far_b hfv12))
    have HX13 := Lib.hid (blk_fr HX12.out hf13 (far_b hfx12))
    have hfx13 : ¬ WS b (.slice A12 u10.env.length c12) vg12 w6.heap.size := fun h => hfx12 (ws_slice h)
    clear hf13 hb12
    have hcut : (u12.cut u10.env.length).env.length ≤ 1099511627776 := by show (List.take _ _).length ≤ _; rw [List.length_take]; omega
    go_upto_region 15 with fail
    generalize w12.setCell ⟨b, 2, none⟩ (.slice A12 u10.env.length c12) = W13 at *
    clear b2 bf
    have c2' := (cells_of hb13).1 2 _ rfl
    have HB13 := Lib.hid hb13; clear hb13
    have z0 := (cells_of HX13.out).2
    have z1 := (cells_of HX13.out).1 0 _ rfl
    have HUC := Lib.hid (show ∃ x, x = u12.cut u10.env.length from ⟨_, rfl⟩)
    obtain ⟨u13, hu13⟩ := HUC.out
    rw [← hu13] at HC hcut
    have HU13 := Lib.hid hu13; clear hu13 HUC
    go_wp2_with fail
    refine (Find_any base b _ ru W13 u13 _ vg12 fr HC.out.at' hcut).mono ?_
    rintro e w14 ⟨rfl, hf14⟩
    have HU14 := Lib.hid (show (u13.lend3 fr v) = u13.put { (u13.find fr).getD Va.zero with lent := v.lent } from rfl)
    unfold foundV Va.v
    generalize (u13.find fr).getD Va.zero = y2 at *
    generalize (u13.find fr).isSome = is2
    have M14 := Lib.hid (HC.out.stay hf14)
    have HB14 := Lib.hid (blk_fr HB13.out hf14 (non _))
    have HV14 := Lib.hid (blk_fr HV13.out hf14 (non _))
    have hx14 := blk_fr HX13.out hf14 (non _)
    clear hf14 z0 z1 c2'
    have zf := (cells_of hx14).2
    have z0 := (cells_of hx14).1 0 _ rfl
    have z1 := (cells_of hx14).1 1 _ rfl
    have z2 := (cells_of hx14).1 2 _ rfl
    have z3 := (cells_of hx14).1 3 _ rfl
    have z4 := (cells_of hx14).1 4 _ rfl
    have z5 := (cells_of hx14).1 5 _ rfl
    have z6 := (cells_of hx14).1 6 _ rfl
    have z7 := (cells_of hx14).1 7 _ rfl
    have z8 := (cells_of hx14).1 8 _ rfl
    have HX14 := Lib.hid hx14; clear hx14
    go_upto_region 16 with fail
    have hx15 := blk_put9 HX14.out (.string y2.name) (.bool y2.buf) (.bool y2.sec) (.bool y2.mt) (.bool y2.own) (.bool y2.set) (.bool y2.gone) (.int .i64 y2.lent) (.int .i64 y2.loops)
    have hf15 := fr_put9 (S := fun q => q = w6.heap.size) (w := w14) rfl (.string y2.name) (.bool y2.buf) (.bool y2.sec) (.bool y2.mt) (.bool y2.own) (.bool y2.set) (.bool y2.gone) (.int .i64 y2.lent) (.int .i64 y2.loops)
    generalize (((((((((w14.setCell ⟨w6.heap.size, 0, none⟩ (.string y2.name)).setCell ⟨w6.heap.size, 1, none⟩ (.bool y2.buf)).setCell ⟨w6.heap.size, 2, none⟩ (.bool y2.sec)).setCell ⟨w6.heap.size, 3, none⟩ (.bool y2.mt)).setCell ⟨w6.heap.size, 4, none⟩ (.bool y2.own)).setCell ⟨w6.heap.size, 5, none⟩ (.bool y2.set)).setCell ⟨w6.heap.size, 6, none⟩ (.bool y2.gone)).setCell ⟨w6.heap.size, 7, none⟩ (.int .i64 y2.lent)).setCell ⟨w6.heap.size, 8, none⟩ (.int .i64 y2.loops)) = W15 at *
    have M15 := Lib.hid (M14.out.own hf15 hfx13 hq6)
    have HV15 := Lib.hid (blk_fr HV14.out hf15 (by omega))
    clear hf15 zf z0 z1 z2 z3 z4 z5 z6 z7 z8
    have v7 := (cells_of HV15.out).1 7 _ rfl
    have z7 := (cells_of hx15).1 7 _ rfl
    have zf := (cells_of hx15).2
    have HX15 := Lib.hid hx15; clear hx15
    go_upto_region 17 with fail
    obtain ⟨W16, HW16⟩ : ∃ W16, W16 = W15.setCell ⟨w6.heap.size, 7, none⟩ (.int .i64 v.lent) := ⟨_, rfl⟩
    have hf16 : Fr (fun q => q = w6.heap.size) W15 W16 := by rw [HW16]; exact (Fr.refl _ _).setCell _ _ (.inl rfl)
    have hx16 : W16.heap[w6.heap.size]? = some (.cells #[.string y2.name, .bool y2.buf, .bool y2.sec, .bool y2.mt, .bool y2.own, .bool y2.set, .bool y2.gone, .int .i64 v.lent, .int .i64 y2.loops] 148 (0, 0)) := by rw [HW16]; exact blk_set HX15.out 7 _
    rw [← HW16]; clear HW16
    have M16 := Lib.hid (M15.out.own hf16 hfx13 hq6)
    clear hf16 v7 z7 zf
    have z0 := (cells_of hx16).1 0 _ rfl
    have z1 := (cells_of hx16).1 1 _ rfl
    have z2 := (cells_of hx16).1 2 _ rfl
    have z3 := (cells_of hx16).1 3 _ rfl
    have z4 := (cells_of hx16).1 4 _ rfl
    have z5 := (cells_of hx16).1 5 _ rfl
    have z6 := (cells_of hx16).1 6 _ rfl
    have z7 := (cells_of hx16).1 7 _ rfl
    have z8 := (cells_of hx16).1 8 _ rfl
    clear hx16
    go_wp2_with fail
    refine (put_any base b _ ru W16 u13 _ vg12 { y2 with lent := v.lent } M16.out.at' hcut).mono ?_
    rintro e w17 ⟨rfl, h17⟩
    obtain ⟨ve17, vg17, m17, _, _⟩ := M16.out.step h17
    have M17 := Lib.hid m17; clear m17 h17
    go_wp2_with fail
    go_end0
    refine ⟨rfl, ?_⟩
    rw [HL1.out]
    simp only
    rw [HUB.out, ← HU13.out, HU14.out]
    exact M17.out.stp
  | false =>
    have HK6 := Lib.hid HK3.out
    rw [if_neg Bool.false_ne_true, if_neg Bool.false_ne_true] at HLN
    generalize t = t6 at *
    generalize W5 = w6 at *
    have M6 := Lib.hid M5.out
    have HB6 := Lib.hid HB5.out
    have HV6 := Lib.hid HV5.out
    clear s4c c2'
    have s4c := (cells_of HB6.out).1 4 _ rfl
    have l0 := (cells_of HV6.out).1 0 _ rfl
    have l1 := (cells_of HV6.out).1 1 _ rfl
    have l2 := (cells_of HV6.out).1 2 _ rfl
    have l3 := (cells_of HV6.out).1 3 _ rfl
    have l4 := (cells_of HV6.out).1 4 _ rfl
    have l5 := (cells_of HV6.out).1 5 _ rfl
    have l6 := (cells_of HV6.out).1 6 _ rfl
    have l7 := (cells_of HV6.out).1 7 _ rfl
    have l8 := (cells_of HV6.out).1 8 _ rfl
    have hfx := far_new M6.out.at'
    have hlt6 := blk_lt HB6.out
    have hlv6 := blk_lt HV6.out
    have hq6 : w.heap.size ≤ w6.heap.size := M6.out.fr.size
    go_upto_region 7 with fail
    obtain ⟨W7, HW7⟩ : ∃ W7, W7 = w6.alloc (.cells #[.string v.name, .bool v.buf, .bool v.sec, .bool v.mt, .bool v.own, .bool v.set, .bool v.gone, .int .i64 v.lent, .int .i64 v.loops] 148) := ⟨_, rfl⟩
    have hf7 : Fr Non w6 W7 := by rw [HW7]; exact (fr_refl _).alloc _
    have hx7 : W7.heap[w6.heap.size]? = some (.cells #[.string v.name, .bool v.buf, .bool v.sec, .bool v.mt, .bool v.own, .bool v.set, .bool v.gone, .int .i64 v.lent, .int .i64 v.loops] 148 (0, 0)) := by rw [HW7]; exact blk_new _ _ _
    rw [← HW7]; clear HW7
    have M7 := Lib.hid (M6.out.stay hf7)
    have HB7 := Lib.hid (blk_fr HB6.out hf7 (non _))
    have HV7 := Lib.hid (blk_fr HV6.out hf7 (non _))
    have HX7 := Lib.hid hx7
    clear s4c l0 l1 l2 l3 l4 l5 l6 l7 l8 hf7
    have l7 := (cells_of HV7.out).1 7 _ rfl
    have z7 := (cells_of hx7).1 7 _ rfl
    have zf := (cells_of hx7).2
    clear hx7
    have s4c := (cells_of HB7.out).1 4 _ rfl
    go_upto_region 8 with fail
    rw [show (if v.lent < 1 then (1 : Int) else v.lent) = max v.lent 1 by rw [Int.max_def]; split <;> split <;> omega]
    obtain ⟨W8, HW8⟩ : ∃ W8, W8 = W7.setCell ⟨w6.heap.size, 7, none⟩ (.int .i64 (max v.lent 1)) := ⟨_, rfl⟩
    have hf8 : Fr (fun q => q = w6.heap.size) W7 W8 := by rw [HW8]; exact (Fr.refl _ _).setCell _ _ (.inl rfl)
    have hx8 : W8.heap[w6.heap.size]? = some (.cells #[.string v.name, .bool v.buf, .bool v.sec, .bool v.mt, .bool v.own, .bool v.set, .bool v.gone, .int .i64 (max v.lent 1), .int .i64 v.loops] 148 (0, 0)) := by rw [HW8]; exact blk_set HX7.out 7 _
    rw [← HW8]; clear HW8
    have M8 := Lib.hid (M7.out.own hf8 hfx hq6)
    have HB8 := Lib.hid (blk_fr HB7.out hf8 (by omega))
    have HV8 := Lib.hid (blk_fr HV7.out hf8 (by omega))
    have HX8 := Lib.hid hx8
    clear l7 z7 zf s4c hf8
    have s4c := (cells_of HB8.out).1 4 _ rfl
    go_upto_region 10 with fail
    generalize W8 = W9 at *
    have M9 := Lib.hid M8.out
    have HB9 := Lib.hid HB8.out
    have HV9 := Lib.hid HV8.out
    have hx9 := hx8
    clear s4c hx8
    have z0 := (cells_of hx9).1 0 _ rfl
    have z1 := (cells_of hx9).1 1 _ rfl
    have z2 := (cells_of hx9).1 2 _ rfl
    have z3 := (cells_of hx9).1 3 _ rfl
    have z4 := (cells_of hx9).1 4 _ rfl
    have z5 := (cells_of hx9).1 5 _ rfl
    have z6 := (cells_of hx9).1 6 _ rfl
    have z7 := (cells_of hx9).1 7 _ rfl
    have z8 := (cells_of hx9).1 8 _ rfl
    have HX9 := Lib.hid hx9; clear hx9
    have hc6 : t6.env.length ≤ 1099511627776 := by have := HL.out.env; have := HK6.out.env; omega
    go_wp2_with fail
    refine (put_any base b _ ru W9 t6 ve vg { v with lent := max v.lent 1 } M9.out.at' hc6).mono ?_
    rintro e w10 ⟨rfl, h10⟩
    obtain ⟨ve10, vg10, m10, hf10, hn10⟩ := M9.out.step h10
    have HL1 := Lib.hid HLN.out
    rw [HL1.out] at HKL
    clear HLN
    simp only at HKL
    generalize t6.put { v with lent := max v.lent 1 } = u10 at *
    have hfx10 := far_step hfx (blk_lt HX9.out) hn10
    have hfv10 := far_step hfv (blk_lt HV9.out) hn10
    have hfr10 := far_step hfar (blk_lt HB9.out) hn10
    have hb10 := blk_fr HB9.out hf10 hfar
    have hv10 := blk_fr HV9.out hf10 hfv
    have hx10 := blk_fr HX9.out hf10 hfx
    obtain ⟨A10, c10, rfl, hc10⟩ := row_slice m10.at'.env
    have M10 := Lib.hid m10; clear m10 h10 hf10 hn10 z0 z1 z2 z3 z4 z5 z6 z7 z8
    have b2 := (cells_of M10.out.at'.blk).1 2 _ rfl
    have c1' := (cells_of hb10).1 1 _ rfl
    have s4c := (cells_of hb10).1 4 _ rfl
    have v2 := (cells_of hv10).1 2 _ rfl
    have HB10 := Lib.hid hb10; clear hb10
    have HV10 := Lib.hid hv10; clear hv10
    have HX10 := Lib.hid hx10; clear hx10
    have hlb10 := blk_lt HB10.out
    have hlv10 := blk_lt HV10.out
    have hlx10 := blk_lt HX10.out
    have HLG := Lib.hid (HL.out.kp HKL.out)
    go_wp2_with fail
    refine (give_any base b _ ru w10 u10 _ vg10 (Va.bufv nm v.sec false false) M10.out.at' (by have := HLG.out.env; omega) (by have := HLG.out.giv; omega)).mono ?_
    rintro e w11 ⟨rfl, h11⟩
    obtain ⟨ve11, vg11, m11, hf11, hn11⟩ := M10.out.step h11
    have hg := Gr.give ru u10 (Va.bufv nm v.sec false false)
    have HLB := Lib.hid (HLG.out.gr hg)
    have HGE := Lib.hid (show u10.env.length ≤ (u10.give ru (Va.bufv nm v.sec false false)).env.length from hg.e1)
    have HF11 := Lib.hid (show (u10.give ru (Va.bufv nm v.sec false false)).f = (F : Int) from hg.f.trans (HKL.out.f.trans HSF.out))
    have HU11 := Lib.hid (show ∃ x, x = u10.give ru (Va.bufv nm v.sec false false) from ⟨_, rfl⟩)
    obtain ⟨u11, hu11⟩ := HU11.out
    rw [← hu11] at m11 HLB HGE HF11
    have HU := Lib.hid hu11; clear hu11 HU11 hg
    have hfx11 := far_step hfx10 hlx10 hn11
    have hfv11 := far_step hfv10 hlv10 hn11
    have hfr11 := far_step hfr10 hlb10 hn11
    have hb11 := blk_fr HB10.out hf11 hfr10
    have HV11 := Lib.hid (blk_fr HV10.out hf11 hfv10)
    have HX11 := Lib.hid (blk_fr HX10.out hf11 hfx10)
    have M11 := Lib.hid m11; clear m11 h11 hf11 hn11 b2 c1' s4c v2
    have c7' := (cells_of hb11).1 7 _ rfl
    have HB11 := Lib.hid hb11; clear hb11
    have hlb11 := blk_lt HB11.out
    have hlv11 := blk_lt HV11.out
    have hlx11 := blk_lt HX11.out
    go_wp2_with fail
    refine (BK body d A3 c3 w11 u11 ve11 vg11 hN HOK.out (R3.out.fr M11.out.fr (fun q hq hs => HOKS.out q hq hs) fun _ h => h) q3 HLB.out HF11.out M11.out.at' (HP.out.fr M11.out.fr fun q hq hs => HOKS.out q hq hs)).mono ?_
    rintro e w12 ⟨rfl, h12⟩
    obtain ⟨ve12, vg12, m12, hf12, hn12⟩ := M11.out.step h12
    have hgr := Gr.stmts ru P body u11
    have hel : u10.env.length ≤ (Wk.block ru P body u11).env.length := by
      show _ ≤ (List.take _ _).length
      rw [List.length_take, Nat.min_eq_left hgr.e1]; exact HGE.out
    have hel2 : (Wk.block ru P body u11).env.length ≤ 1099511627776 := by
      show (List.take _ _).length ≤ _
      rw [List.length_take, Nat.min_eq_left hgr.e1]; have := HLB.out.env; omega
    clear hgr
    have HUB := Lib.hid (show Wk.block ru P body (u10.give ru (Va.bufv nm v.sec false false)) = Wk.block ru P body u11 by rw [HU.out])
    generalize Wk.block ru P body u11 = u12 at *
    have hfx12 := far_step hfx11 hlx11 hn12
    have hfv12 := far_step hfv11 hlv11 hn12
    have hb12 := blk_fr HB11.out hf12 hfr11
    have HV12 := Lib.hid (blk_fr HV11.out hf12 hfv11)
    have HX12 := Lib.hid (blk_fr HX11.out hf12 hfx11)
    obtain ⟨A12, c12, rfl, hc12⟩ := row_slice m12.at'.env
    have hfr12 := far_step hfr11 hlb11 hn12
    have M12 := Lib.hid m12; clear m12 h12 hf12 hn12 c7'
    have b2 := (cells_of M12.out.at'.blk).1 2 _ rfl
    have bf := (cells_of M12.out.at'.blk).2
    have HC := Lib.hid (M12.out.cut (m := u10.env.length) hel)
    have hcc : u10.env.length ≤ c12 := Nat.le_trans hel hc12
    have hf13 : Fr (fun q => q = b) w12 (w12.setCell ⟨b, 2, none⟩ (.slice A12 u10.env.length c12)) := (Fr.refl _ _).setCell _ _ (.inl rfl)
    have hb13 := blk_fr hb12 hf13 (far_b hfr12)
    have HV13 := Lib.hid (blk_fr HV12.out hf13 (far_b hfv12))
    have HX13 := Lib.hid (blk_fr HX12.out hf13 (far_b hfx12))
    have hfx13 : ¬ WS b (.slice A12 u10.env.length c12) vg12 w6.heap.size := fun h => hfx12 (ws_slice h)
    clear hf13 hb12
    have hcut : (u12.cut u10.env.length).env.length ≤ 1099511627776 := by show (List.take _ _).length ≤ _; rw [List.length_take]; omega
    go_upto_region 15 with fail
    generalize w12.setCell ⟨b, 2, none⟩ (.slice A12 u10.env.length c12) = W13 at *
    clear b2 bf
    have c2' := (cells_of hb13).1 2 _ rfl
    have HB13 := Lib.hid hb13; clear hb13
    have z0 := (cells_of HX13.out).2
    have z1 := (cells_of HX13.out).1 0 _ rfl
    have HUC := Lib.hid (show ∃ x, x = u12.cut u10.env.length from ⟨_, rfl⟩)
    obtain ⟨u13, hu13⟩ := HUC.out
    rw [← hu13] at HC hcut
    have HU13 := Lib.hid hu13; clear hu13 HUC
    go_wp2_with fail
    refine (Find_any base b _ ru W13 u13 _ vg12 fr HC.out.at' hcut).mono ?_
    rintro e w14 ⟨rfl, hf14⟩
    have HU14 := Lib.hid (show (u13.lend3 fr v) = u13.put { (u13.find fr).getD Va.zero with lent := v.lent } from rfl)
    unfold foundV Va.v
    generalize (u13.find fr).getD Va.zero = y2 at *
    generalize (u13.find fr).isSome = is2
    have M14 := Lib.hid (HC.out.stay hf14)
    have HB14 := Lib.hid (blk_fr HB13.out hf14 (non _))
    have HV14 := Lib.hid (blk_fr HV13.out hf14 (non _))
    have hx14 := blk_fr HX13.out hf14 (non _)
    clear hf14 z0 z1 c2'
    have zf := (cells_of hx14).2
    have z0 := (cells_of hx14).1 0 _ rfl
    have z1 := (cells_of hx14).1 1 _ rfl
    have z2 := (cells_of hx14).1 2 _ rfl
    have z3 := (cells_of hx14).1 3 _ rfl
    have z4 := (cells_of hx14).1 4 _ rfl
    have z5 := (cells_of hx14).1 5 _ rfl
    have z6 := (cells_of hx14).1 6 _ rfl
    have z7 := (cells_of hx14).1 7 _ rfl
    have z8 := (cells_of hx14).1 8 _ rfl
    have HX14 := Lib.hid hx14; clear hx14
    go_upto_region 16 with fail
    have hx15 := blk_put9 HX14.out (.string y2.name) (.bool y2.buf) (.bool y2.sec) (.bool y2.mt) (.bool y2.own) (.bool y2.set) (.bool y2.gone) (.int .i64 y2.lent) (.int .i64 y2.loops)
    have hf15 := fr_put9 (S := fun q => q = w6.heap.size) (w := w14) rfl (.string y2.name) (.bool y2.buf) (.bool y2.sec) (.bool y2.mt) (.bool y2.own) (.bool y2.set) (.bool y2.gone) (.int .i64 y2.lent) (.int .i64 y2.loops)
    generalize (((((((((w14.setCell ⟨w6.heap.size, 0, none⟩ (.string y2.name)).setCell ⟨w6.heap.size, 1, none⟩ (.bool y2.buf)).setCell ⟨w6.heap.size, 2, none⟩ (.bool y2.sec)).setCell ⟨w6.heap.size, 3, none⟩ (.bool y2.mt)).setCell ⟨w6.heap.size, 4, none⟩ (.bool y2.own)).setCell ⟨w6.heap.size, 5, none⟩ (.bool y2.set)).setCell ⟨w6.heap.size, 6, none⟩ (.bool y2.gone)).setCell ⟨w6.heap.size, 7, none⟩ (.int .i64 y2.lent)).setCell ⟨w6.heap.size, 8, none⟩ (.int .i64 y2.loops)) = W15 at *
    have M15 := Lib.hid (M14.out.own hf15 hfx13 hq6)
    have HV15 := Lib.hid (blk_fr HV14.out hf15 (by omega))
    clear hf15 zf z0 z1 z2 z3 z4 z5 z6 z7 z8
    have v7 := (cells_of HV15.out).1 7 _ rfl
    have z7 := (cells_of hx15).1 7 _ rfl
    have zf := (cells_of hx15).2
    have HX15 := Lib.hid hx15; clear hx15
    go_upto_region 17 with fail
    obtain ⟨W16, HW16⟩ : ∃ W16, W16 = W15.setCell ⟨w6.heap.size, 7, none⟩ (.int .i64 v.lent) := ⟨_, rfl⟩
    have hf16 : Fr (fun q => q = w6.heap.size) W15 W16 := by rw [HW16]; exact (Fr.refl _ _).setCell _ _ (.inl rfl)
    have hx16 : W16.heap[w6.heap.size]? = some (.cells #[.string y2.name, .bool y2.buf, .bool y2.sec, .bool y2.mt, .bool y2.own, .bool y2.set, .bool y2.gone, .int .i64 v.lent, .int .i64 y2.loops] 148 (0, 0)) := by rw [HW16]; exact blk_set HX15.out 7 _
    rw [← HW16]; clear HW16
    have M16 := Lib.hid (M15.out.own hf16 hfx13 hq6)
    clear hf16 v7 z7 zf
    have z0 := (cells_of hx16).1 0 _ rfl
    have z1 := (cells_of hx16).1 1 _ rfl
    have z2 := (cells_of hx16).1 2 _ rfl
    have z3 := (cells_of hx16).1 3 _ rfl
    have z4 := (cells_of hx16).1 4 _ rfl
    have z5 := (cells_of hx16).1 5 _ rfl
    have z6 := (cells_of hx16).1 6 _ rfl
    have z7 := (cells_of hx16).1 7 _ rfl
    have z8 := (cells_of hx16).1 8 _ rfl
    clear hx16
    go_wp2_with fail
    refine (put_any base b _ ru W16 u13 _ vg12 { y2 with lent := v.lent } M16.out.at' hcut).mono ?_
    rintro e w17 ⟨rfl, h17⟩
    obtain ⟨ve17, vg17, m17, _, _⟩ := M16.out.step h17
    have M17 := Lib.hid m17; clear m17 h17
    go_wp2_with fail
    go_end0
    refine ⟨rfl, ?_⟩
    rw [HL1.out]
    simp only
    rw [HUB.out, ← HU13.out, HU14.out]
    exact M17.out.stp
end Go.Proofs.YtnlnejpioijkiaaGreatDoor
/- Contracts of the reference's walker: two blocks, one of which is gone through, given the blocks within them. -/
namespace Go.Proofs.YtnlnejpioijkiaaGreatDoor
open Go.RowKit
set_option linter.unusedVariables false
set_option linter.unusedSimpArgs false
theorem va_one (l : List Va) : ∀ u ∈ vasC l, u.oneCell' = true := by
  intro u hu
  simp only [vasC, List.mem_flatMap, Va.cells] at hu
  obtain ⟨v, _, hv⟩ := hu
  simp at hv
  rcases hv with rfl | rfl | rfl | rfl | rfl | rfl | rfl | rfl | rfl <;> rfl
theorem copy_va {ops : Array Oper} {rest : List Oper} {o : Oper} {a : Act} {Q : Exit → Act → World → Prop} {w : World} (hgd : o.guard = none) (s x : Operand)
    (ho : o.op = .call { callee := .builtin .append, args := #[s, x], argTypes := #[68, 68] })
    (base : Nat) (hs : a.eval s = .slice none 0 0) (A : Option Addr) (c : Nat) (l : List Va) (hx : a.eval x = .slice A l.length c) (hrow : w.ownsRow base 148 9 (.slice A l.length c) l.length (vasC l))
    (hb : l.length ≤ 1099511627776)
    (h : ∀ A' c' w', w'.ownsRow w.heap.size 148 9 (.slice A' l.length c') l.length (vasC l) → l.length ≤ c' → Fr Non w w' → wpList Tryz.prog ops Q rest (a.put o.dst (.slice A' l.length c')) w') : wpList Tryz.prog ops Q (o :: rest) a w := by
  have hi : (Tryz.prog.info? 148).map (fun i => (i.zero, i.size, i.bytes)) = some (some vaZ, 9, 40) := by kernel_rfl
  have ht : Tryz.prog.underlying 68 = some (.slice 148) := by kernel_rfl
  obtain ⟨i0, h0, h1, h2, h3⟩ := info_parts hi
  cases A with
  | none =>
    obtain rfl : l = [] := by
      rcases hrow.2 with ⟨_, h9⟩ | ⟨g, cap, cur, hv, _⟩
      · exact List.eq_nil_of_length_eq_zero h9
      · cases hv
    have hr : (Builtin.append_ #[68, 68] o.type #[.slice none 0 0, .slice none ([] : List Va).length c]).run Tryz.prog w = .ok (.slice none 0 0) w := by
      simp [Builtin.append_, run_underlying ht, sizeOf, typeInfo, h0, Builtin.lenOf, Builtin.firstCells]
    exact wp_append_run hgd s x ho hs hx hr (h none 0 w ⟨rfl, .inl ⟨rfl, rfl⟩⟩ (Nat.le_refl _) (fr_refl _))
  | some ad =>
    obtain ⟨v', w', hr, hrow', hgr, hwh⟩ := run_append_where (P := Tryz.prog) w w.heap.size 68 o.type 148 i0 vaZ 9 40 ht h0 h1 h2 h3 rfl (by decide) (.slice none 0 0) 0 [] ⟨rfl, .inl ⟨rfl, rfl⟩⟩ ad l.length c (vasC l) (vas_len l)
      (fun j u hu => by
        have hj := (List.getElem?_eq_some_iff.1 hu).1
        rw [vas_len] at hj
        obtain ⟨g, e, hg, hc⟩ := row_at hrow (by omega)
        cases e
        rw [Addr.add_lit]; simpa using (hc j u hu).1) (va_one l) (by unfold maxLen; omega) (by omega) (Nat.le_refl _)
    rw [Nat.zero_add, List.nil_append] at hrow'
    obtain ⟨A', c', rfl, hc'⟩ := row_slice hrow'
    have hfr : Fr Non w w' := ⟨hgr.os, hgr.tape, hgr.output, hgr.size, fun k hk hn => hgr.block k hk (by simp [Value.ownBlock])⟩
    exact wp_append_run hgd s x ho hs hx hr (h A' c' w' hrow' hc' hfr)
theorem row_low {base base' : Nat} {e : TypeId} {sz : Nat} {w : World} {v : Value} {n : Nat} {xs : List Value} (h : w.ownsRow base e sz v n xs) (hb : base' ≤ base) : w.ownsRow base' e sz v n xs := by
  obtain ⟨h1, h2⟩ := h
  refine ⟨h1, ?_⟩
  rcases h2 with h2 | ⟨g, cap, cur, hv, hg, r⟩
  · exact .inl h2
  · exact .inr ⟨g, cap, cur, hv, Nat.le_trans hb hg, r⟩
/-- Another row in the place of what is known. -/
theorem WkAt.swap {base b lo : Nat} {PV : Value} {ru : Int} {w : World} {s : Wk} {ve vg : Value} {A : Option Addr} {c : Nat} {l : List Va} (h : WkAt base b PV ru w s ve vg) (hr : w.ownsRow lo 148 9 (.slice A l.length c) l.length (vasC l)) (hlo : base ≤ lo)
    (hf : ∀ k, (Value.slice A l.length c).ownBlock = some k → ¬ WS b ve vg k) : WkAt base b PV ru (w.setCell ⟨b, 2, none⟩ (.slice A l.length c)) (s.back l) (.slice A l.length c) vg := by
  have hfr : Fr (fun k => k = b) w (w.setCell ⟨b, 2, none⟩ (.slice A l.length c)) := (Fr.refl _ _).setCell _ _ (.inl rfl)
  refine ⟨blk_set h.blk 2 _, row_fr (row_low hr hlo) hfr (fun k hk e => hf k hk (.inl e)), row_fr h.giv hfr (fun k hk e => h.bg (by rw [hk, e])), fun e => hf b e (.inl rfl), h.bg, fun k hk e => hf k hk (.inr (.inr e)), h.hb⟩
theorem WkAt.putAt {base b g c : Nat} {PV : Value} {ru : Int} {w : World} {s : Wk} {vg : Value} {k : Nat} (h : WkAt base b PV ru w s (.slice (some ⟨g, 0, none⟩) s.env.length c) vg) (hk : k < s.env.length) (x : Va) :
    WkAt base b PV ru (((((((((w.setCell ⟨g, k * 9, none⟩ (.string x.name)).setCell ⟨g, k * 9 + 1, none⟩ (.bool x.buf)).setCell ⟨g, k * 9 + 2, none⟩ (.bool x.sec)).setCell ⟨g, k * 9 + 3, none⟩ (.bool x.mt)).setCell ⟨g, k * 9 + 4, none⟩ (.bool x.own)).setCell ⟨g, k * 9 + 5, none⟩ (.bool x.set)).setCell ⟨g, k * 9 + 6, none⟩ (.bool x.gone)).setCell ⟨g, k * 9 + 7, none⟩ (.int .i64 x.lent)).setCell ⟨g, k * 9 + 8, none⟩ (.int .i64 x.loops))
      (s.back (s.env.set k x)) (.slice (some ⟨g, 0, none⟩) s.env.length c) vg := by
  have hf := fr_put (w := w) (g := g) (k := k) (S := fun q => q = g) rfl (.string x.name) (.bool x.buf) (.bool x.sec) (.bool x.mt) (.bool x.own) (.bool x.set) (.bool x.gone) (.int .i64 x.lent) (.int .i64 x.loops)
  have hr := row_put h.env k hk x
  have hbe := h.be
  have heg := h.eg g rfl
  refine ⟨blk_fr h.blk hf fun e => hbe (by rw [e]; rfl), ?_, row_fr h.giv hf (fun q hq e => heg (by rw [hq, e])), h.be, h.bg, h.eg, h.hb⟩
  show World.ownsRow _ _ _ _ _ (s.env.set k x).length (vasC (s.env.set k x))
  rw [List.length_set]
  exact hr
def gonesN (l r : List Va) (i : Nat) : List Va := gones (l.take i) r ++ l.drop i
theorem gones_take : ∀ (l r : List Va) (i : Nat) (hi : i < l.length) (hr : i < r.length), gones (l.take (i + 1)) r = gones (l.take i) r ++ [{ l[i] with gone := l[i].gone || r[i].gone }]
  | v :: l, x :: r, 0, _, _ => by simp [gones]
  | v :: l, x :: r, i + 1, hi, hr => by
    have := gones_take l r i (by simpa using hi) (by simpa using hr)
    rw [List.take_succ_cons, gones, this]
    simp [gones]
theorem gonesN_len (l r : List Va) (i : Nat) : (gonesN l r i).length = l.length := by simp [gonesN, gones_len]; omega
theorem gonesN_step (l r : List Va) (i : Nat) (hi : i < l.length) (hr : i < r.length) : gonesN l r (i + 1) = (gonesN l r i).set i { l[i] with gone := l[i].gone || r[i].gone } := by
  have hl : (gones (l.take i) r).length = i := by rw [gones_len, List.length_take]; omega
  rw [gonesN, gonesN, gones_take l r i hi hr, List.set_append_right _ _ (by omega), hl, List.drop_eq_getElem_cons hi, Nat.sub_self, List.set_cons_zero, List.append_assoc]; rfl
theorem gonesN_at (l r : List Va) (i : Nat) (hi : i < l.length) : (gonesN l r i)[i]'(by rw [gonesN_len]; exact hi) = l[i] := by
  have hl : (gones (l.take i) r).length = i := by rw [gones_len, List.length_take]; omega
  simp only [gonesN]
  rw [List.getElem_append_right (by omega)]
  simp [hl]
theorem gonesN_zero (l r : List Va) : gonesN l r 0 = l := by
  unfold gonesN
  cases r <;> simp [gones]
theorem gonesN_all (l r : List Va) : gonesN l r l.length = gones l r := by unfold gonesN; rw [List.take_length, List.drop_length, List.append_nil]
theorem Mid.swap {base b lo : Nat} {PV : Value} {ru : Int} {w0 w : World} {ve0 vg0 : Value} {s : Wk} {ve vg : Value} {A : Option Addr} {c : Nat} {l : List Va} (h : Mid base b PV ru w0 ve0 vg0 w s ve vg) (hr : w.ownsRow lo 148 9 (.slice A l.length c) l.length (vasC l)) (hlo : base ≤ lo) (hlo0 : w0.heap.size ≤ lo)
    (hf : ∀ k, (Value.slice A l.length c).ownBlock = some k → ¬ WS b ve vg k) : Mid base b PV ru w0 ve0 vg0 (w.setCell ⟨b, 2, none⟩ (.slice A l.length c)) (s.back l) (.slice A l.length c) vg := by
  refine ⟨h.at'.swap hr hlo hf, h.fr.trans ((Fr.refl _ _).setCell _ _ (.inl (.inl rfl))), fun k hk => ?_⟩
  rcases hk with hk | hk | hk
  · exact .inl (.inl hk)
  · exact .inr (Nat.le_trans hlo0 (hr.lt k hk).1)
  · exact h.new k (.inr (.inr hk))
theorem Mid.putAt {base b g c n : Nat} {PV : Value} {ru : Int} {w0 w : World} {ve0 vg0 : Value} {s : Wk} {vg : Value} {k : Nat} (h : Mid base b PV ru w0 ve0 vg0 w s (.slice (some ⟨g, 0, none⟩) n c) vg) (hn : s.env.length = n) (hk : k < s.env.length) (x : Va) :
    Mid base b PV ru w0 ve0 vg0 (((((((((w.setCell ⟨g, k * 9, none⟩ (.string x.name)).setCell ⟨g, k * 9 + 1, none⟩ (.bool x.buf)).setCell ⟨g, k * 9 + 2, none⟩ (.bool x.sec)).setCell ⟨g, k * 9 + 3, none⟩ (.bool x.mt)).setCell ⟨g, k * 9 + 4, none⟩ (.bool x.own)).setCell ⟨g, k * 9 + 5, none⟩ (.bool x.set)).setCell ⟨g, k * 9 + 6, none⟩ (.bool x.gone)).setCell ⟨g, k * 9 + 7, none⟩ (.int .i64 x.lent)).setCell ⟨g, k * 9 + 8, none⟩ (.int .i64 x.loops))
      (s.back (s.env.set k x)) (.slice (some ⟨g, 0, none⟩) n c) vg := by
  subst hn
  have hf := fr_put (w := w) (g := g) (k := k) (S := fun q => q = g) rfl (.string x.name) (.bool x.buf) (.bool x.sec) (.bool x.mt) (.bool x.own) (.bool x.set) (.bool x.gone) (.int .i64 x.lent) (.int .i64 x.loops)
  refine ⟨h.at'.putAt hk x, h.fr.then hf fun q hq e => ?_, h.new⟩
  have e : q = g := e
  subst e
  rcases h.new q (.inr (.inl rfl)) with h9 | h9
  · exact h9
  · omega

set_option maxRecDepth 100000 in
set_option maxHeartbeats 4000000 in
theorem wkeither_of (base b : Nat) (ok : Nat → Prop) (PA : Option Addr) (pc : Nat) (P : List Fu) (F : Nat) (ru : Int) (N : Nat) (BK : BkC base b ok PA pc P F ru N)
   (w : World) (s : Wk) (ve vg : Value) (k : UInt8) (nm fr : ByteArray) (sec mt : Bool) (ex : List Ex) (body els : List St) (d : Nat) (A1 A2 A3 A4 : Option Addr) (c1 n2 c2 c3 c4 : Nat)
   (hN : St.sizes body ≤ N) (hok : St.oks body d = true) (hN4 : St.sizes els ≤ N) (hok4 : St.oks els d = true) (hx1 : 0 < ex.length) (hex : ex.all exM = true) (r1 : RdRows ok w 5 A1 0 (Ex.ds ex)) (q1 : ex.length * 64 ≤ reach) (r3 : RdRows ok w 9 A3 0 (St.ds body)) (q3 : body.length * 144 ≤ reach) (r4 : RdRows ok w 9 A4 0 (St.ds els)) (q4 : els.length * 144 ≤ reach)
   (hl : Lim (St.sizes body + St.sizes els) (St.sizes body + St.sizes els) s) (hF : s.f = (F : Int)) (h : WkAt base b (.slice PA P.length pc) ru w s ve vg) (hP : ScP base ok PA pc P F w) :
   Calls Tryz.prog 79 #[.pointer (some ⟨b, 0, none⟩), .agg #[vu8 k, .string nm, .string fr, .bool sec, .bool mt, .slice A1 ex.length c1, .slice A2 n2 c2, .slice A3 body.length c3, .slice A4 els.length c4]] w
     (WkR base b (.slice PA P.length pc) ru w ve vg ((Wk.block ru P els ((Wk.block ru P body (s.pub ru (exAt ex 0))).back (s.pub ru (exAt ex 0)).env)).join (Wk.block ru P body (s.pub ru (exAt ex 0))).env)) := by
  have hl1 : ex.length ≤ 140737488355328 := by unfold reach at q1; omega
  have hl3 : body.length ≤ 140737488355328 := by unfold reach at q3; omega
  have hl4 : els.length ≤ 140737488355328 := by unfold reach at q4; omega
  obtain ⟨W1, HW1⟩ : ∃ W1, W1 = w.alloc (.cells #[vu8 k, .string nm, .string fr, .bool sec, .bool mt, .slice A1 ex.length c1, .slice A2 n2 c2, .slice A3 body.length c3, .slice A4 els.length c4] 53) := ⟨_, rfl⟩
  have hf1 : Fr Non w W1 := by rw [HW1]; exact (fr_refl w).alloc _
  have hb1 : W1.heap[w.heap.size]? = some (.cells #[vu8 k, .string nm, .string fr, .bool sec, .bool mt, .slice A1 ex.length c1, .slice A2 n2 c2, .slice A3 body.length c3, .slice A4 els.length c4] 53 (0, 0)) := by rw [HW1]; exact blk_new _ _ _
  have hfar := far_new h
  have HOKS := Lib.hid (show ∀ q, ok q → ¬ WS b ve vg q from fun q hq hs => by have h1 := hP.hok q hq; have h2 := (h.lt q hs).1; omega)
  have HP := Lib.hid hP; clear hP
  have R1 := Lib.hid r1; clear r1
  have R3 := Lib.hid r3; clear r3
  have R4 := Lib.hid r4; clear r4
  have M1 := Lib.hid ((Mid.start h).stay hf1); clear h hf1
  have s5 := (cells_of hb1).1 5 _ rfl
  have HB1 := Lib.hid hb1; clear hb1
  have HL := Lib.hid hl; clear hl
  have HSF := Lib.hid hF; clear hF
  have HOK := Lib.hid hok; clear hok
  have HOK4 := Lib.hid hok4; clear hok4
  obtain ⟨b6, o6, A6, c6, rfl, hb6, x0, x1, x2, x3, x4, p6, q6, r6⟩ := at_ex (R1.out.fr M1.out.fr HOKS.out fun _ h => h) 0 hx1
  have hem : exM ex[0] = true := by rw [← exAt_get hx1]; exact exAt_all hex hx1
  have HEM := Lib.hid hem; clear hem
  rw [exAt_get hx1]
  go_enter Tryz.func79, Tryz.ntmps79
  go_upto_region 1 with fail
  rw [← HW1]; clear HW1
  simp only [Nat.zero_mul, Nat.add_zero] at x0 x1 x2 x3 x4
  generalize hy : ex[0] = y at *
  have HY := Lib.hid hy; clear hy
  have HR6 := Lib.hid r6; clear r6
  go_wp2_with fail
  refine (public_any y 1 ok A6 c6 base b _ ru W1 s ve vg HEM.out HR6.out (fun q hq e => HOKS.out q hq (.inl e)) M1.out.at' (by have := HL.out.env; omega)).mono ?_
  rintro e w2 ⟨rfl, hf2, h2⟩
  have HK1 := Lib.hid (Kp.pub ru s y)
  generalize hs1 : s.pub ru y = s1 at *
  have HS1 := Lib.hid hs1; clear hs1
  have hb2 := blk_fr HB1.out hf2 (far_b hfar)
  obtain ⟨Ae, ce, rfl, hce⟩ := row_slice h2.env
  have M2 := Lib.hid (M1.out.one hf2 h2); clear h2 hf2 x0 x1 x2 x3 x4 s5
  have HB2 := Lib.hid hb2; clear hb2
  have b2 := (cells_of M2.out.at'.blk).1 2 _ rfl
  have hL1 := HL.out.kp HK1.out
  have hcs : s1.env.length ≤ 1099511627776 := by have := hL1.env; omega
  have HL1 := Lib.hid hL1; clear hL1
  go_wp2_with (at_builtin; refine copy_va rfl _ _ rfl base rfl Ae ce s1.env rfl M2.out.at'.env hcs ?kc)
  case kc =>
  intro Ab cb w3 hrb hcb hf3
  have hfb : ∀ q, (Value.slice Ab s1.env.length cb).ownBlock = some q → ¬ WS b (.slice Ae s1.env.length ce) vg q := fun q hq hs => by have := (hrb.lt q hq).1; have := (M2.out.at'.lt q hs).2; omega
  have hlo2 : w.heap.size ≤ w2.heap.size := M2.out.fr.size
  have hb0 : base ≤ w2.heap.size := by have := M2.out.at'.hb; have := blk_lt M2.out.at'.blk; omega
  have M3 := Lib.hid (M2.out.stay hf3)
  have hb3 := blk_fr HB2.out hf3 (non _)
  have HRB := Lib.hid hrb; clear hrb hf3 b2
  have s7 := (cells_of hb3).1 7 _ rfl
  have HB3 := Lib.hid hb3; clear hb3
  have hlb3 := blk_lt HB3.out
  go_wp2_with fail
  refine (BK body d A3 c3 w3 s1 _ vg hN HOK.out (R3.out.fr M3.out.fr (fun q hq hs => HOKS.out q hq hs) fun _ h => h) q3 (HL1.out.le (by omega) (by omega)) (HK1.out.f.trans HSF.out) M3.out.at' (HP.out.fr M3.out.fr fun q hq hs => HOKS.out q hq hs)).mono ?_
  rintro e w4 ⟨rfl, h4⟩
  obtain ⟨ve4, vg4, m4, hf4, hn4⟩ := M3.out.step h4
  have HG4 := Lib.hid (show Gr (St.sizes body) (St.sizes body) s1 (Wk.block ru P body s1) from (Gr.stmts ru P body s1).cut rfl)
  have he4 : (Wk.block ru P body s1).env.length = s1.env.length := by
    show (List.take _ _).length = _
    rw [List.length_take, Nat.min_eq_left (Gr.stmts ru P body s1).e1]
  generalize hsB : Wk.block ru P body s1 = sB at *
  have HSB := Lib.hid hsB; clear hsB
  have hrb4 := row_fr HRB.out hf4 (fun q hq => hfb q hq)
  have hfb4 : ∀ q, (Value.slice Ab s1.env.length cb).ownBlock = some q → ¬ WS b ve4 vg4 q := fun q hq => far_step (hfb q hq) ((HRB.out.lt q hq).2) hn4
  have hfr4 := far_step hfar hlb3 hn4
  obtain ⟨A4e, c4e, rfl, hc4⟩ := row_slice m4.at'.env
  have HB4 := Lib.hid (blk_fr HB3.out hf4 hfar)
  have M4 := Lib.hid m4; clear m4 h4 hf4 hn4 s7
  have HRB4 := Lib.hid hrb4; clear hrb4
  have b2 := (cells_of M4.out.at'.blk).1 2 _ rfl
  have hcs4 : sB.env.length ≤ 1099511627776 := by rw [he4]; exact hcs
  have HE4 := Lib.hid he4; clear he4
  go_wp2_with (at_builtin; refine copy_va rfl _ _ rfl base rfl A4e c4e sB.env rfl M4.out.at'.env hcs4 ?ka)
  case ka =>
  intro Aa ca w5 hra hca hf5
  have hfa : ∀ q, (Value.slice Aa sB.env.length ca).ownBlock = some q → ¬ WS b (.slice A4e sB.env.length c4e) vg4 q := fun q hq hs => by have := (hra.lt q hq).1; have := (M4.out.at'.lt q hs).2; omega
  have hfab : ∀ q, (Value.slice Aa sB.env.length ca).ownBlock = some q → (Value.slice Ab s1.env.length cb).ownBlock ≠ some q := fun q hq e => by have := (hra.lt q hq).1; have := (HRB4.out.lt q e).2; omega
  have M5 := Lib.hid (M4.out.stay hf5)
  have HB5 := Lib.hid (blk_fr HB4.out hf5 (non _))
  have HRB5 := Lib.hid (row_fr HRB4.out hf5 (fun _ _ => non _))
  have HRA := Lib.hid hra; clear hra hf5 b2
  have b2 := (cells_of M5.out.at'.blk).1 2 _ rfl
  have bf := (cells_of M5.out.at'.blk).2
  go_upto_region 6 with fail
  have M6 := Lib.hid (M5.out.swap HRB5.out hb0 hlo2 hfb4)
  have hf6 : Fr (fun k => k = b) w5 (w5.setCell ⟨b, 2, none⟩ (.slice Ab s1.env.length cb)) := (Fr.refl _ _).setCell _ _ (.inl rfl)
  have hb6 := blk_fr HB5.out hf6 (far_b hfr4)
  have HRA6 := Lib.hid (row_fr HRA.out hf6 (fun q hq e => hfa q hq (.inl e)))
  have hfa6 : ∀ q, (Value.slice Aa sB.env.length ca).ownBlock = some q → ¬ WS b (.slice Ab s1.env.length cb) vg4 q := fun q hq hs => by
    rcases hs with hs | hs | hs
    · exact hfa q hq (.inl hs)
    · exact hfab q hq hs
    · exact hfa q hq (.inr (.inr hs))
  have hfr6 : ¬ WS b (.slice Ab s1.env.length cb) vg4 w.heap.size := fun hs => by
    rcases hs with hs | hs | hs
    · exact hfr4 (.inl hs)
    · have := (HRB5.out.lt _ hs).1; have := blk_lt HB2.out; omega
    · exact hfr4 (.inr (.inr hs))
  have HF6 := Lib.hid (show (sB.back s1.env).f = (F : Int) from HG4.out.f.trans (HK1.out.f.trans HSF.out))
  have HL6 := Lib.hid (((HL1.out.le (a' := St.sizes els + St.sizes body) (m' := St.sizes els + St.sizes body) (by omega) (by omega)).gr (HG4.out.back (e := s1.env) rfl)))
  have hlen6 : (sB.back s1.env).env.length = s1.env.length := rfl
  generalize w5.setCell ⟨b, 2, none⟩ (.slice Ab s1.env.length cb) = W6 at *
  clear hf6 b2 bf
  have s8 := (cells_of hb6).1 8 _ rfl
  have HB6 := Lib.hid hb6; clear hb6
  go_wp2_with fail
  refine (BK els d A4 c4 W6 (sB.back s1.env) _ vg4 hN4 HOK4.out (R4.out.fr M6.out.fr (fun q hq hs => HOKS.out q hq hs) fun _ h => h) q4 HL6.out HF6.out M6.out.at' (HP.out.fr M6.out.fr fun q hq hs => HOKS.out q hq hs)).mono ?_
  rintro e w7 ⟨rfl, h7⟩
  obtain ⟨ve7, vg7, m7, hf7, hn7⟩ := M6.out.step h7
  have he7 : (Wk.block ru P els (sB.back s1.env)).env.length = s1.env.length := by
    show (List.take _ _).length = _
    rw [List.length_take, Nat.min_eq_left (Gr.stmts ru P els (sB.back s1.env)).e1]; rfl
  generalize hsE : Wk.block ru P els (sB.back s1.env) = sE at *
  have HSE := Lib.hid hsE; clear hsE
  have hra7 := row_fr HRA6.out hf7 (fun q hq => hfa6 q hq)
  have hfa7 : ∀ q, (Value.slice Aa sB.env.length ca).ownBlock = some q → ¬ WS b ve7 vg7 q := fun q hq => far_step (hfa6 q hq) ((HRA6.out.lt q hq).2) hn7
  obtain ⟨A7, c7, rfl, hc7⟩ := row_slice m7.at'.env
  have hn4 : sB.env.length = sE.env.length := HE4.out.trans he7.symm
  have HE7 := Lib.hid hn4; clear hn4
  have hcs7 : sE.env.length ≤ 1099511627776 := by rw [he7]; exact hcs
  have hcs4' : sB.env.length ≤ 1099511627776 := hcs4
  have M7 := Lib.hid m7; clear m7 h7 hf7 hn7 s8 hlen6 he7
  have HRA7 := Lib.hid hra7; clear hra7
  have HW7 := Lib.hid (show w.heap.size ≤ w7.heap.size from M7.out.fr.size)
  have HFA7 := Lib.hid hfa7; clear hfa7 hfa hfab hfa6 hfb hfb4
  go_wp2_with fail
  go_loopw [6] (fun i wr => ∃ j : Nat, i = .int .i64 j ∧ j ≤ sE.env.length ∧ Mid base b (.slice PA P.length pc) ru w (.slice Ae s1.env.length ce) vg wr (sE.back (gonesN sE.env sB.env j)) (.slice A7 sE.env.length c7) vg7 ∧ wr.ownsRow w4.heap.size 148 9 (.slice Aa sB.env.length ca) sB.env.length (vasC sB.env)) (fun i _ => sE.env.length - (intOf i).toNat)
  case atStart => exact ⟨0, rfl, by omega, by rw [gonesN_zero]; exact M7.out, HRA7.out⟩
  case round =>
    obtain ⟨j, rfl, hj, hm, hra⟩ := hrel
    have b2 := (cells_of hm.at'.blk).1 2 _ rfl
    have HM := Lib.hid hm
    have HR := Lib.hid hra
    by_cases hlt : j < sE.env.length
    · have hlt4 : j < sB.env.length := by rw [HE7.out]; exact hlt
      have henv := hm.at'.env
      have ht : (sE.back (gonesN sE.env sB.env j)).env.length = sE.env.length := gonesN_len _ _ _
      rw [ht] at henv
      obtain ⟨g, rfl, hg, hcell⟩ := row_at henv (by omega)
      obtain ⟨⟨v0, v1, v2, v3, v4, v5, v6, v7, v8⟩, fz, fi⟩ := va_cells (l := gonesN sE.env sB.env j) hcell j (by rw [gonesN_len]; exact hlt)
      rw [gonesN_at _ _ _ hlt] at v0 v1 v2 v3 v4 v5 v6 v7 v8
      obtain ⟨g2, rfl, hg2, hcell2⟩ := row_at hra (by omega)
      obtain ⟨⟨_, _, _, _, _, _, y6, _, _⟩, _, _⟩ := va_cells hcell2 j hlt4
      have HST := Lib.hid (gonesN_step sE.env sB.env j hlt hlt4)
      clear henv hcell hcell2 hm hra
      generalize sE.env[j] = v at *
      generalize sB.env[j] = x at *
      have hfx := far_new HM.out.at'
      go_upto_region 11 with fail
      obtain ⟨W8, HW8⟩ : ∃ W8, W8 = wr.alloc (.cells #[.string v.name, .bool v.buf, .bool v.sec, .bool v.mt, .bool v.own, .bool v.set, .bool v.gone, .int .i64 v.lent, .int .i64 v.loops] 148) := ⟨_, rfl⟩
      have hf8 : Fr Non wr W8 := by rw [HW8]; exact (fr_refl _).alloc _
      have hx8 : W8.heap[wr.heap.size]? = some (.cells #[.string v.name, .bool v.buf, .bool v.sec, .bool v.mt, .bool v.own, .bool v.set, .bool v.gone, .int .i64 v.lent, .int .i64 v.loops] 148 (0, 0)) := by rw [HW8]; exact blk_new _ _ _
      rw [← HW8]; clear HW8
      have y6' := hf8.cell' y6 (non _)
      have x6 := (cells_of hx8).1 6 _ rfl
      have xf := (cells_of hx8).2
      have HM8 := Lib.hid (HM.out.stay hf8)
      have HR8 := Lib.hid (row_fr HR.out hf8 (fun _ _ => non _))
      have HX8 := Lib.hid hx8
      clear b2 v0 v1 v2 v3 v4 v5 v6 v7 v8 fz fi y6 hf8
      go_cut [60] (fun v60 wx => wx = W8.setCell ⟨wr.heap.size, 6, none⟩ (.bool (v.gone || x.gone)))
      case first =>
        cases hg1 : v.gone with
        | true =>
          rw [hg1] at x6
          have HG := Lib.hid hg1; clear hg1
          go_wp2_with fail
          go_meet
          rw [HG.out]; rfl
        | false =>
          rw [hg1] at x6
          have HG := Lib.hid hg1; clear hg1
          go_wp2_with fail
          go_meet
          rw [HG.out]; rfl
      case rest =>
        subst hcut
        have hxs := blk_set hx8 6 (.bool (v.gone || x.gone))
        have hfs : Fr (fun q => q = wr.heap.size) W8 (W8.setCell ⟨wr.heap.size, 6, none⟩ (.bool (v.gone || x.gone))) := (Fr.refl _ _).setCell _ _ (.inl rfl)
        have hx9 : (W8.setCell ⟨wr.heap.size, 6, none⟩ (.bool (v.gone || x.gone))).heap[wr.heap.size]? = some (.cells #[.string v.name, .bool v.buf, .bool v.sec, .bool v.mt, .bool v.own, .bool v.set, .bool (v.gone || x.gone), .int .i64 v.lent, .int .i64 v.loops] 148 (0, 0)) := hxs
        have hwr : w.heap.size ≤ wr.heap.size := HM.out.fr.size
        have HM9 := Lib.hid (HM8.out.own hfs hfx hwr)
        have HR9 := Lib.hid (row_fr HR8.out hfs (fun q hq e => by subst e; have := (HR.out.lt _ hq).2; omega))
        clear hxs hfs hx8 x6 xf y6'
        generalize W8.setCell ⟨wr.heap.size, 6, none⟩ (.bool (v.gone || x.gone)) = W9 at *
        have x0 := (cells_of hx9).1 0 _ rfl
        have x1 := (cells_of hx9).1 1 _ rfl
        have x2 := (cells_of hx9).1 2 _ rfl
        have x3 := (cells_of hx9).1 3 _ rfl
        have x4 := (cells_of hx9).1 4 _ rfl
        have x5 := (cells_of hx9).1 5 _ rfl
        have x6 := (cells_of hx9).1 6 _ rfl
        have x7 := (cells_of hx9).1 7 _ rfl
        have x8 := (cells_of hx9).1 8 _ rfl
        have b2 := (cells_of HM9.out.at'.blk).1 2 _ rfl
        have henv := HM9.out.at'.env
        rw [ht] at henv
        obtain ⟨g', e', hg', hcell⟩ := row_at henv (by omega)
        cases e'
        obtain ⟨⟨v0, v1, v2, v3, v4, v5, v6, v7, v8⟩, fz, fi⟩ := va_cells (l := gonesN sE.env sB.env j) hcell j (by rw [gonesN_len]; exact hlt)
        have f1 := fi 1 (by omega)
        have f2 := fi 2 (by omega)
        have f3 := fi 3 (by omega)
        have f4 := fi 4 (by omega)
        have f5 := fi 5 (by omega)
        have f6 := fi 6 (by omega)
        have f7 := fi 7 (by omega)
        have f8 := fi 8 (by omega)
        clear fi hcell hx9 henv
        have HT := Lib.hid ht; clear ht
        go_upto_region 12 with fail
        go_region
        have hmp := HM9.out.putAt HT.out (by rw [HT.out]; exact hlt) { v with gone := v.gone || x.gone }
        have hrp := row_fr HR9.out (fr_put (w := W9) (g := g) (k := j) (S := fun q => q = g) rfl (.string v.name) (.bool v.buf) (.bool v.sec) (.bool v.mt) (.bool v.own) (.bool v.set) (.bool (v.gone || x.gone)) (.int .i64 v.lent) (.int .i64 v.loops)) (fun q hq e => HFA7.out q hq (.inr (.inl (by subst e; rfl))))
        have HMP := Lib.hid (hmp.stay (fr_refl _).drew); clear hmp
        have HRP := Lib.hid (row_fr hrp (fr_refl _).drew (fun _ _ => non _)); clear hrp
        clear x0 x1 x2 x3 x4 x5 x6 x7 x8 v0 v1 v2 v3 v4 v5 v6 v7 v8 fz f1 f2 f3 f4 f5 f6 f7 f8 b2
        generalize hw9 : World.drew _ = w9 at *
        clear hw9
        go_wp2_with fail
        go_roundw
        case rel => exact ⟨j + 1, by go_num, by omega, by rw [HST.out]; exact HMP.out, HRP.out⟩
        case measure => simp [intOf]; omega
    · obtain rfl : j = sE.env.length := by omega
      rw [gonesN_all] at HM
      go_wp2_with fail
      go_end0
      refine ⟨rfl, ?_⟩
      rw [HY.out, HS1.out, HSB.out, HSE.out]
      exact HM.out.stp
end Go.Proofs.YtnlnejpioijkiaaGreatDoor
