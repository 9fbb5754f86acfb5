/- Contracts and laws, file 14: JhA, CdH -/
import Derived.Test.YtfncbemligfloaaGreatDoorMg13
import Derived.StillTailTactics
import Derived.Deep.DeepHandedRow
/- ScopeAhead of a program and statements that lie in memory: it answers true, and what was there stays. -/
namespace Go.Proofs.YtfncbemligfloaaGreatDoor
open Go.RowKit
set_option linter.unusedVariables false
set_option linter.unusedSimpArgs false
set_option maxRecDepth 100000 in
set_option maxHeartbeats 8000000 in
theorem scopeAhead_any (P : List Fu) (M : List St) (ok : Nat → Prop) (A : Option Addr) (c : Nat) (B : Option Addr) (d : Nat) (w : World) (hr : RdRows ok w 5 A 0 (P.map Fu.d)) (hc : P.length * 96 ≤ reach) (hpc : P.length ≤ c)
    (hm : RdRows ok w 9 B 0 (St.ds M)) (hmc : M.length ≤ d) (hsm : P.length ≤ 1048576) (hsb : ∀ f ∈ P, f.body.length + M.length ≤ 1048576) (hmm : M.length ≤ 1048576) (hok : ∀ q, ok q → q < w.heap.size)
    (hg : w.cell? ⟨0, 0, none⟩ = some (rty 30)) (tb : Int) (ht : w.cell? ⟨1, 2, none⟩ = some (.int .u64 tb)) :
   Calls Tryz.prog 4 #[.agg #[.slice A P.length c], .slice B M.length d] w fun e w' => e = .returned (.bool true) ∧ Fr Non w w' := by
  obtain ⟨W1, HW1⟩ : ∃ W1, W1 = w.alloc (.cells #[.slice A P.length c] 24) := ⟨_, rfl⟩
  have hf1 : Fr Non w W1 := by rw [HW1]; exact (fr_refl w).alloc _
  have B1 := Lib.hid (show W1.heap[w.heap.size]? = some (.cells #[.slice A P.length c] 24 (0, 0)) by rw [HW1]; exact blk_new _ _ _)
  have hz1 : W1.heap.size = w.heap.size + 1 := by rw [HW1]; simp
  have R1 := Lib.hid (hr.fr hf1 (fun _ _ => non _) fun _ h => h)
  have M1 := Lib.hid (hm.fr hf1 (fun _ _ => non _) fun _ h => h)
  have G1 := Lib.hid (hf1.cell' hg (non _))
  have T1 := Lib.hid (hf1.cell' ht (non _))
  have F1 := Lib.hid hf1
  have hok1 := Lib.hid (show ∀ q, ok q → q < W1.heap.size from fun q hq => by have := hok q hq; omega)
  have HOK0 := Lib.hid hok
  have HSB := Lib.hid hsb
  clear hf1 hr hm hg ht hok hsb
  have x1 := (cells_of B1.out).1 0 _ rfl
  have HC := Lib.hid hc; have HPC := Lib.hid hpc; have HMC := Lib.hid hmc
  clear hc hpc hmc
  go_enter Tryz.func4, Tryz.ntmps4
  go_upto_region 1 with fail
  rw [← HW1]; clear HW1
  go_wp2_with fail
  refine (copyP_last P ok A c W1 hok1.out R1.out HPC.out HC.out (by omega)).mono ?_
  rintro e w2 ⟨A2, c2, rfl, hf2, hc2, how2, hlast2⟩
  obtain ⟨w3, HW3⟩ : ∃ W, W = w2.alloc (.cells #[.slice A2 P.length c2] 24) := ⟨_, rfl⟩
  have hf3 : Fr Non w2 w3 := by rw [HW3]; exact (fr_refl w2).alloc _
  have hq3 : w3.heap[w2.heap.size]? = some (.cells #[.slice A2 P.length c2] 24 (0, 0)) := by rw [HW3]; exact blk_new _ _ _
  have hz3 : w3.heap.size = w2.heap.size + 1 := by rw [HW3]; simp
  go_upto_region 2 with fail
  rw [← HW3]; clear HW3
  have hz2 := hf2.size
  have F3 := Lib.hid ((F1.out.trans hf2).trans hf3)
  have G3 := Lib.hid (hf3.cell' (hf2.cell' G1.out (non _)) (non _))
  have T3 := Lib.hid (hf3.cell' (hf2.cell' T1.out (non _)) (non _))
  have M3 := Lib.hid ((M1.out.fr hf2 (fun _ _ => non _) fun _ h => h).fr hf3 (fun _ _ => non _) fun _ h => h)
  have hok3 := Lib.hid (show ∀ q, ok q → q < w.heap.size from HOK0.out)
  have BQ3 := Lib.hid hq3
  have HL2 := Lib.hid hlast2
  obtain ⟨qb, hqb⟩ : ∃ b, b = w2.heap.size := ⟨_, rfl⟩
  rw [← hqb] at BQ3 hz3 ⊢
  have HF3 := Lib.hid hf3
  have HQB := Lib.hid hqb; clear hqb
  have HZ3 := Lib.hid hz3; clear hz3
  have HZ1 := Lib.hid hz1; clear hz1
  clear hf2 hf3 how2 hlast2 hq3 F1 G1 T1 M1 R1 B1 x1 HOK0
  have x2 : w3.cell? ⟨qb, 0, none⟩ = some (.slice A2 P.length c2) := (cells_of BQ3.out).1 0 _ rfl
  by_cases hP : P.length = 0
  · rw [hP] at x2
    go_wp2_with fail
    refine (alive_any w3 G3.out).mono ?_
    rintro e w4 ⟨rfl, hf4⟩
    have F4 := Lib.hid (F3.out.trans hf4); clear hf4
    go_wp2_with fail
    go_ret
    exact ⟨rfl, F4.out⟩
  · have hP0 : (P.length == 0) = false := by simpa using hP
    obtain ⟨P0, f, hPE⟩ : ∃ P0 f, P = P0 ++ [f] := by
      rcases List.eq_nil_or_concat P with h | ⟨l, a, h⟩
      · rw [h] at hP; exact absurd rfl hP
      · exact ⟨l, a, by rw [h, List.concat_eq_append]⟩
    obtain ⟨g, c', B1, B2, xs, A1, c1, Ab, cb, A3, c3, e, L⟩ := HL2.out P0 f hPE
    obtain ⟨n, hn⟩ : ∃ n, n = P.length := ⟨_, rfl⟩
    have hK : P0.length = n - 1 := by rw [hn, hPE]; simp
    rw [← hn] at e ⊢ x2 hP hP0 hc2 hsm BQ3
    injection e with e1 e2 e3
    subst e1
    subst e3
    have hfm : f ∈ P := by rw [hPE]; simp
    have hbm : f.body.length + M.length ≤ 1048576 := HSB.out f hfm
    have L3 := Lib.hid (L.fr HF3.out (fun _ _ => non _))
    have B2Q := Lib.hid (show B2 ≤ qb by have := L.hi; have := HQB.out; omega)
    have GQ := Lib.hid (show g < qb by have := L.gh; have := HQB.out; omega)
    have HPE := Lib.hid hPE; have HN := Lib.hid hn; have HKE := Lib.hid hK
    clear hPE hn e2 L HL2 HF3 hfm
    have k' := L3.out.cell
    rw [HKE.out] at k'
    clear hK
    have k0 : w3.cell? ⟨g, (n - 1) * 5, none⟩ = some (.string f.name) := k'.1 0 _ rfl
    have k1 : w3.cell? ⟨g, (n - 1) * 5 + 1, none⟩ = some (.slice A1 f.params.length c1) := k'.1 1 _ rfl
    have k2 : w3.cell? ⟨g, (n - 1) * 5 + 2, none⟩ = some (.slice Ab f.body.length cb) := k'.1 2 _ rfl
    have k3 : w3.cell? ⟨g, (n - 1) * 5 + 3, none⟩ = some (.bool f.sec) := k'.1 3 _ rfl
    have k4 : w3.cell? ⟨g, (n - 1) * 5 + 4, none⟩ = some (.slice A3 f.ret.length c3) := k'.1 4 _ rfl
    have hfz := k'.2
    clear k'
    have hn1 : 1 ≤ n := by omega
    obtain ⟨w4, HW4⟩ : ∃ W, W = w3.alloc (.cells #[.string f.name, .slice A1 f.params.length c1, .slice Ab f.body.length cb, .bool f.sec, .slice A3 f.ret.length c3] 36) := ⟨_, rfl⟩
    have hf4 : Fr Non w3 w4 := by rw [HW4]; exact (fr_refl w3).alloc _
    have hb4 : w4.heap[w3.heap.size]? = some (.cells #[.string f.name, .slice A1 f.params.length c1, .slice Ab f.body.length cb, .bool f.sec, .slice A3 f.ret.length c3] 36 (0, 0)) := by rw [HW4]; exact blk_new _ _ _
    have HZ4 := Lib.hid (show w4.heap.size = w3.heap.size + 1 by rw [HW4]; simp)
    go_upto_region 5 with fail
    rw [← HW4]; clear HW4
    obtain ⟨fb, hfb⟩ : ∃ b, b = w3.heap.size := ⟨_, rfl⟩
    rw [← hfb] at hb4 ⊢
    have x4 := (cells_of hb4).1 4 _ rfl
    have x3 := (cells_of hb4).1 3 _ rfl
    have xf := (cells_of hb4).2
    obtain ⟨w6, HW6⟩ : ∃ W, W = (w4.setCell ⟨fb, 4, none⟩ (.slice none 0 0)).setCell ⟨fb, 3, none⟩ (.bool false) := ⟨_, rfl⟩
    have hf6 : Fr Non w3 w6 := by rw [HW6]; exact (hf4.setCell _ _ (.inr (by show w3.heap.size ≤ fb; omega))).setCell _ _ (.inr (by show w3.heap.size ≤ fb; omega))
    have hb6 : w6.heap[fb]? = some (.cells #[.string f.name, .slice A1 f.params.length c1, .slice Ab f.body.length cb, .bool false, .slice none 0 0] 36 (0, 0)) := by rw [HW6]; exact blk_set (blk_set hb4 4 _) 3 _
    have HZ6 := Lib.hid (show w6.heap.size = w4.heap.size by rw [HW6]; simp)
    have HFB := Lib.hid hfb; clear hfb
    go_upto_region 7 with fail
    rw [← HW6]; clear HW6 x4 x3 xf
    have k0 := (cells_of hb6).1 0 _ rfl
    have k1 := (cells_of hb6).1 1 _ rfl
    have k2 := (cells_of hb6).1 2 _ rfl
    have k3 := (cells_of hb6).1 3 _ rfl
    have k4 := (cells_of hb6).1 4 _ rfl
    obtain ⟨w7, HW7⟩ : ∃ W, W = w6.alloc (.cells #[.string f.name, .slice A1 f.params.length c1, .slice Ab f.body.length cb, .bool false, .slice none 0 0] 36) := ⟨_, rfl⟩
    have hf7 : Fr Non w3 w7 := by rw [HW7]; exact hf6.alloc _
    have hb7 : w7.heap[w6.heap.size]? = some (.cells #[.string f.name, .slice A1 f.params.length c1, .slice Ab f.body.length cb, .bool false, .slice none 0 0] 36 (0, 0)) := by rw [HW7]; exact blk_new _ _ _
    have hc7 : w7.heap[fb]? = some (.cells #[.string f.name, .slice A1 f.params.length c1, .slice Ab f.body.length cb, .bool false, .slice none 0 0] 36 (0, 0)) := by rw [HW7]; exact blk_old hb6
    have HZ7 := Lib.hid (show w7.heap.size = w6.heap.size + 1 by rw [HW7]; simp)
    go_upto_region 8 with fail
    rw [← HW7]; clear HW7
    obtain ⟨bb, hbb⟩ : ∃ b, b = w6.heap.size := ⟨_, rfl⟩
    rw [← hbb] at hb7 ⊢
    have HBB := Lib.hid hbb; clear hbb
    clear k0 k1 k2 k3 k4 hf6 hb6 hf4 hb4 x2
    have L7 := Lib.hid (L3.out.fr hf7 (fun _ _ => non _))
    have F7 := Lib.hid (F3.out.trans hf7)
    have G7 := Lib.hid (hf7.cell' G3.out (non _))
    have T7 := Lib.hid (hf7.cell' T3.out (non _))
    have M7 := Lib.hid (M3.out.fr hf7 (fun _ _ => non _) fun _ h => h)
    have BQ7 := Lib.hid (blk_fr BQ3.out hf7 (non _))
    have BF7 := Lib.hid hc7
    have BB7 := Lib.hid hb7
    have B2H := Lib.hid (show B2 ≤ w3.heap.size from L3.out.hi)
    have HF37 := Lib.hid hf7
    clear hf7 hc7 hb7 M3
    obtain ⟨xb, hxr, hxc⟩ := L7.out.body
    rw [St.ds_length] at hxr
    have HXR := Lib.hid hxr; have HXC := Lib.hid hxc; clear hxr hxc
    have b2 := (cells_of BF7.out).1 2 _ rfl
    have hmr : M.length * 144 ≤ reach := by unfold reach; omega
    have hfb2 : ∀ k, (Value.slice Ab f.body.length cb).ownBlock = some k → k ≠ fb := fun k hk e => by have := L7.out.bh k hk; have := B2H.out; have := HFB.out; omega
    have HFB2 := Lib.hid hfb2; clear hfb2
    have HOK7 := Lib.hid (show ∀ q, ok q → q < w7.drew.heap.size from fun q hq => by have := hok3.out q hq; have h : w.heap.size ≤ w7.heap.size := F7.out.size; have : w7.drew.heap.size = w7.heap.size := rfl; omega)
    refine (fun (key : RowKit.Hid ?K8) => ?main8) (Lib.hid ?kp8)
    case main8 =>
      go_region_law (first | (refine step_app (z := stZ) (size := 9) (bytes := 144) (by kernel_rfl) (by kernel_rfl) rfl (by decide) rfl (.tmp 29) (.tmp 31) rfl B1 (.slice Ab f.body.length cb) f.body.length xb rfl (ownsRow_fr' HXR.out hf8' (fun _ _ => non _)) _ A8 M.length c8 (St.ds M) (by rw [St.ds_length]) rfl how8.rows (one_sts _) (by unfold maxLen; omega) (by omega) hB18 ?_; intro A9 c9 w9 us hch9 hrow9 hf9 hpre9 hkeep9; have hb9 := blk_fr hb8 hf9 (fun h => HFB2.out _ h rfl); have b2 := (cells_of hb9).1 2 _ rfl; have bf9 := (cells_of hb9).2) | (go_simp; go_at_call 13; refine (copySts_own M ok B d w7.drew HOK7.out (M7.out.fr (fr_refl w7).drew (fun _ _ => non _) fun _ h => h) HMC.out hmr).mono ?_; rintro e w8 ⟨A8, c8, rfl, hf8, hc8, how8⟩; have hf8' : Fr Non w7 w8 := (fr_refl w7).drew.trans hf8; have hb8 := blk_fr BF7.out hf8' (non _); have b2 := (cells_of hb8).1 2 _ rfl; have hB18 : B1 ≤ w8.heap.size := by have h1 := L7.out.mid; have h2 := L7.out.hi; have h3 : w7.heap.size ≤ w8.heap.size := hf8'.size; omega))
      all_goals
        obtain ⟨⟨A', c', e9, hl9, hr9⟩, hr9b, hf79⟩ := app_body (lb := St.ds f.body) (lm := St.ds M) (by rw [St.ds_length]) (by rw [St.ds_length]) L7.out.hi HXR.out HXC.out L7.out.bh hf8' (fun k hk => hk) hch9 hrow9 hf9 hpre9 hkeep9
        cases e9
        have hz7 : fb < w7.heap.size := by have := HFB.out; have := HZ4.out; have := HZ6.out; have := HZ7.out; omega
        have hb2h : B2 ≤ fb := by have := B2H.out; have := HFB.out; omega
        have hb10 := blk_set hb9 2 (.slice A9 (f.body.length + M.length) c9)
        have hs10 : Fr (fun k => k = fb) w9 (w9.setCell ⟨fb, 2, none⟩ (.slice A9 (f.body.length + M.length) c9)) := (Fr.refl (fun k => k = fb) _).setCell _ _ (.inl rfl)
        have hr10 : RdRows (fun k => (B1 ≤ k ∧ k < B2) ∨ w7.heap.size ≤ k ∧ k < (w9.setCell ⟨fb, 2, none⟩ (.slice A9 (f.body.length + M.length) c9)).heap.size) (w9.setCell ⟨fb, 2, none⟩ (.slice A9 (f.body.length + M.length) c9)) 9 A9 0 (St.ds f.body ++ St.ds M) :=
          hr9.fr hs10 (fun k hk h => by have h : k = fb := h; omega) (fun k hk => by rw [setCell_size]; exact hk)
        have hr10b := hr9b.fr hs10 (fun k hk h => by have h : k = fb := h; omega) (fun _ h => h)
        have hf10 : Fr (fun k => k = fb ∨ B1 ≤ k ∧ k < B2) w7 (w9.setCell ⟨fb, 2, none⟩ (.slice A9 (f.body.length + M.length) c9)) := (hf79.mono fun _ _ h => .inr h).trans (hs10.mono fun _ _ h => .inl h)
        have hall := And.intro hl9 (And.intro hb10 (And.intro hr10 (And.intro hr10b hf10)))
        clear hl9 hr9 hr9b hf79 hb10 hr10 hr10b hf10 hs10 b2 bf9 hb9 hkeep9 hpre9 hf9 hrow9 hch9 how8 hc8
        generalize World.setCell w9 _ _ = w10 at *
        revert hall
        revert w10 A9 c9 A8 c8
        exact key.out
    case kp8 =>
      intro A8 c8 A9 c9 w10 ⟨hl9, hb10, hr10, hr10b, hf10⟩
      have hb2q := B2Q.out
      have hgq := GQ.out
      have hlo := L3.out.lo
      have hqf : qb < fb := by have := HQB.out; have := HZ3.out; have := HFB.out; omega
      have hw37 : fb < w7.heap.size := by have := HFB.out; have := HZ4.out; have := HZ6.out; have := HZ7.out; omega
      have hbw : fb < bb ∧ bb < w7.heap.size := by have := HFB.out; have := HZ4.out; have := HZ6.out; have := HZ7.out; have := HBB.out; omega
      have hf310 : Fr (fun k => k = fb ∨ B1 ≤ k ∧ k < B2) w3 w10 := (HF37.out.mono fun k _ h => absurd h (non _)).trans hf10
      have hz10 := hf310.size
      have hz710 := hf10.size
      have row10 := ownsRow_fr' L3.out.row hf310 (fun k hk h => by
        have e : k = g := by cases hk; rfl
        rcases (show k = fb ∨ B1 ≤ k ∧ k < B2 from h) with h | h
        · omega
        · rw [e] at h; exact L3.out.out h)
      have rest10 : Chunks (okL (W1.heap.size + 3) B1 B2 g w3.heap.size) w10 5 (P0.map Fu.d) xs := L3.out.rest.mono (fun b o v hb hc => hf310.cell' hc (fun h => by
        rcases (show b = fb ∨ B1 ≤ b ∧ b < B2 from h) with h | h
        · have h2 := hb.2.1; have h3 := HFB.out; omega
        · exact hb.2.2.2 h)) (fun _ h => h)
      have p10 : RdRows (okL (W1.heap.size + 3) B1 B2 g w3.heap.size) w10 4 A1 0 (f.params.map Pa.d) := L3.out.r1.fr hf310 (fun k hb h => by
        rcases (show k = fb ∨ B1 ≤ k ∧ k < B2 from h) with h | h
        · have h2 := hb.2.1; have h3 := HFB.out; omega
        · exact hb.2.2.2 h) (fun _ h => h)
      have F10 := Lib.hid (F3.out.then hf310 (fun k hk h => by have := HZ1.out; have := HFB.out; have h9 : w.heap.size ≤ w3.heap.size := F3.out.size; omega))
      have G10 := Lib.hid (hf310.cell' G3.out (fun h => by have h : 0 = fb ∨ B1 ≤ 0 ∧ 0 < B2 := h; omega))
      have T10 := Lib.hid (hf310.cell' T3.out (fun h => by have h : 1 = fb ∨ B1 ≤ 1 ∧ 1 < B2 := h; omega))
      have BQ10 := Lib.hid (blk_fr BQ3.out hf310 (fun h => by have h : qb = fb ∨ B1 ≤ qb ∧ qb < B2 := h; omega))
      have BB10 := Lib.hid (blk_fr BB7.out hf10 (fun h => by have h : bb = fb ∨ B1 ≤ bb ∧ bb < B2 := h; omega))
      have BF10 := Lib.hid (show w10.heap[fb]? = some (.cells #[.string f.name, .slice A1 f.params.length c1, .slice A9 (f.body.length + M.length) c9, .bool false, .slice none 0 0] 36 (0, 0)) from hb10)
      have R10 := Lib.hid hr10
      have R10b := Lib.hid hr10b
      have ROW10 := Lib.hid row10; have REST10 := Lib.hid rest10; have P10 := Lib.hid p10
      have cs10 := (ROW10.out.cells (g := g) rfl)
      have hxl : xs.length = (n - 1) * 5 := by rw [REST10.out.length, List.length_map, HKE.out]
      have k' : ∀ i u, [Value.string f.name, .slice A1 f.params.length c1, .slice Ab f.body.length cb, .bool f.sec, .slice A3 f.ret.length c3][i]? = some u → w10.cell? ⟨g, (n - 1) * 5 + i, none⟩ = some u := fun i u hu => by
        have := cs10 ((n - 1) * 5 + i) u (by rw [List.getElem?_append_right (by omega), hxl, Nat.add_sub_cancel_left]; exact hu)
        simpa [Addr.add_lit] using this
      have hfz : ∀ i, w10.frozen? ⟨g, i, none⟩ = false := fun i => by
        rcases ROW10.out.2 with ⟨hv, _⟩ | ⟨g', cap, cur, hv, _, hh, _⟩
        · cases hv
        · cases hv; exact (cells_of hh).2 i
      have k0 : w10.cell? ⟨g, (n - 1) * 5, none⟩ = some (.string f.name) := k' 0 _ rfl
      have k1 : w10.cell? ⟨g, (n - 1) * 5 + 1, none⟩ = some (.slice A1 f.params.length c1) := k' 1 _ rfl
      have k2 : w10.cell? ⟨g, (n - 1) * 5 + 2, none⟩ = some (.slice Ab f.body.length cb) := k' 2 _ rfl
      have k3 : w10.cell? ⟨g, (n - 1) * 5 + 3, none⟩ = some (.bool f.sec) := k' 3 _ rfl
      have k4 : w10.cell? ⟨g, (n - 1) * 5 + 4, none⟩ = some (.slice A3 f.ret.length c3) := k' 4 _ rfl
      have y0 : w10.cell? ⟨bb, 0, none⟩ = some (.string f.name) := (cells_of BB10.out).1 0 _ rfl
      have y1 : w10.cell? ⟨bb, 1, none⟩ = some (.slice A1 f.params.length c1) := (cells_of BB10.out).1 1 _ rfl
      have y2 : w10.cell? ⟨bb, 2, none⟩ = some (.slice Ab f.body.length cb) := (cells_of BB10.out).1 2 _ rfl
      have y3 : w10.cell? ⟨bb, 3, none⟩ = some (.bool false) := (cells_of BB10.out).1 3 _ rfl
      have y4 : w10.cell? ⟨bb, 4, none⟩ = some (.slice none 0 0) := (cells_of BB10.out).1 4 _ rfl
      have xq : w10.cell? ⟨qb, 0, none⟩ = some (.slice (some ⟨g, 0, none⟩) n c2) := (cells_of BQ10.out).1 0 _ rfl
      clear k' cs10 hxl hb10 hr10 hr10b row10 rest10 p10 b2 F3 G3 T3 BQ3 F7 G7 T7 BF7 BB7 BQ7 M7 L7 HXR HXC HFB2 HOK7
      obtain ⟨w11, HW11⟩ : ∃ W, W = put5 w10 g ((n - 1) * 5) (.string f.name) (.slice A1 f.params.length c1) (.slice Ab f.body.length cb) (.bool false) (.slice none 0 0) := ⟨_, rfl⟩
      have h11 : Fr (fun q => q = g) w10 w11 := by rw [HW11]; exact put5_fr _ _ _ _ _ _ _ _
      have hl2 : f.body.length ≤ cb := L3.out.l2
      have hrd : RdL (fun k => okL (W1.heap.size + 3) B1 B2 g w3.heap.size k ∨ B1 ≤ k ∧ k < B2) w10 f.bare.d [.string f.name, .slice A1 f.params.length c1, .slice Ab f.body.length cb, .bool false, .slice none 0 0] := by
        have h := chunk_fu (ok := fun k => okL (W1.heap.size + 3) B1 B2 g w3.heap.size k ∨ B1 ≤ k ∧ k < B2) (w := w10) f.bare (A1 := A1) (c1 := c1) (A2 := Ab) (c2 := cb) (A3 := none) (c3 := 0) L3.out.l1 L3.out.q1 (P10.out.fr (Fr.refl Non _) (fun _ _ => non _) (fun _ h => .inl h)) hl2 L3.out.q2 (R10b.out.fr (Fr.refl Non _) (fun _ _ => non _) (fun _ h => .inr h)) (Nat.le_refl _) (Nat.zero_le _) trivial
        obtain ⟨us, r, e, h5, _, hr, e2⟩ := h
        subst e2
        rw [List.append_nil] at e
        rw [← e] at hr
        exact hr
      have RQ11 := Lib.hid (show RdRows (fun k => (okL (W1.heap.size + 3) B1 B2 g w3.heap.size k ∨ (okL (W1.heap.size + 3) B1 B2 g w3.heap.size k ∨ B1 ≤ k ∧ k < B2)) ∨ k = g) w11 5 (some ⟨g, 0, none⟩) 0 ((P0 ++ [f.bare]).map Fu.d) by
        rw [HW11, ← HKE.out]
        exact last_put ROW10.out rfl REST10.out (fun k hk => hk.2.2.1) hrd (fun k hk => by rcases hk with hk | hk; exact hk.2.2.1; (intro e; subst e; exact L3.out.out hk)))
      unfold put5 at HW11
      go_upto_region 10 with fail
      rw [← HW11]
      clear HW11 k0 k1 k2 k3 k4 y0 y1 y2 y3 y4 xq hfz hrd
      have hz11 := h11.size
      have F11 := Lib.hid (F10.out.then h11 (fun k hk h => by have h : k = g := h; have := L3.out.gl; have := HZ1.out; omega))
      have hg0 : 0 < g := by have := L3.out.gl; omega
      have hg1 : 1 < g := by have := L3.out.gl; omega
      have G11 := Lib.hid (h11.cell' G10.out (fun h => by have h : 0 = g := h; omega))
      have T11 := Lib.hid (h11.cell' T10.out (fun h => by have h : 1 = g := h; omega))
      have BQ11 := Lib.hid (blk_fr BQ10.out h11 (fun h => by have h : qb = g := h; omega))
      have BF11 := Lib.hid (blk_fr BF10.out h11 (fun h => by have h : fb = g := h; omega))
      have P11 := Lib.hid (P10.out.fr h11 (fun k hk h => hk.2.2.1 h) (fun _ h => h))
      have R11 := Lib.hid (R10.out.fr h11 (fun k hk h => by have h : k = g := h; rcases hk with hk | hk; (subst h; exact L3.out.out hk); omega) (fun _ h => h))
      obtain ⟨Q, hQ⟩ : ∃ Q, Q = P0 ++ [f.bare] := ⟨_, rfl⟩
      rw [← hQ] at RQ11
      have hQl : Q.length = n := by rw [hQ, List.length_append, HKE.out]; simp; omega
      obtain ⟨okQ, hokQ⟩ : ∃ o : Nat → Prop, o = fun k => (okL (W1.heap.size + 3) B1 B2 g w3.heap.size k ∨ (okL (W1.heap.size + 3) B1 B2 g w3.heap.size k ∨ B1 ≤ k ∧ k < B2)) ∨ k = g := ⟨_, rfl⟩
      rw [← hokQ] at RQ11
      have HOQ := Lib.hid (show ∀ k, okQ k → k < w11.heap.size from fun k hk => by
        rw [hokQ] at hk
        have h3 : w3.heap.size ≤ w11.heap.size := by omega
        have h4 := HFB.out
        rcases hk with (hk | hk | hk) | hk
        · have := hk.2.1; omega
        · have := hk.2.1; omega
        · omega
        · omega)
      have HQE := Lib.hid hQ; have HQL := Lib.hid hQl
      have hcc : n ≤ c2 := hc2
      have CQ := Lib.hid (copyP_last Q okQ (some ⟨g, 0, none⟩) c2 w11 HOQ.out RQ11.out (by rw [hQl]; exact hcc) (by rw [hQl]; unfold reach; omega) (by rw [hQl]; omega))
      rw [hQl] at CQ
      clear hQ hokQ F10 G10 T10 BQ10 BF10 P10 R10 R10b BB10 REST10 ROW10 h11
      have xq : w11.cell? ⟨qb, 0, none⟩ = some (.slice (some ⟨g, 0, none⟩) n c2) := (cells_of BQ11.out).1 0 _ rfl
      have HQL' := Lib.hid hQl; clear hQl
      go_wp2_with fail
      refine CQ.out.mono ?_
      rintro e w12 ⟨Ar, cr, rfl, hf12, hcr, how12, _⟩
      obtain ⟨w13, HW13⟩ : ∃ W, W = w12.alloc (.cells #[.slice Ar n cr] 24) := ⟨_, rfl⟩
      have hf13 : Fr Non w11 w13 := by rw [HW13]; exact hf12.alloc _
      have hr13 : w13.heap[w12.heap.size]? = some (.cells #[.slice Ar n cr] 24 (0, 0)) := by rw [HW13]; exact blk_new _ _ _
      have how13 : Own (w11.heap.size + 3) 36 5 w13 (.slice Ar n cr) (Q.map Fu.d) := by rw [HW13]; exact how12.fr ((fr_refl _).alloc _) (fun _ _ => non _)
      have hz13 : w13.heap.size = w12.heap.size + 1 := by rw [HW13]; simp
      have HZ13 := Lib.hid hz13; clear hz13
      go_upto_region 11 with fail
      rw [← HW13]; clear HW13
      obtain ⟨rb, hrb⟩ : ∃ b, b = w12.heap.size := ⟨_, rfl⟩
      rw [← hrb] at hr13 ⊢
      have HRB := Lib.hid hrb; clear hrb
      obtain ⟨gr, us, rfl, hgr, hgr12, _, hul, huc, hfz⟩ := how12.at (n - 1) (by rw [List.length_map, HQL.out]; omega)
      have HGR := Lib.hid (show gr < rb by have := HRB.out; omega)
      obtain ⟨gr', us', e', _, _, _, hul, huc, hfz⟩ := how13.at (n - 1) (by rw [List.length_map, HQL.out]; omega)
      cases e'
      obtain ⟨z0, z1, z2, z3, z4, rfl⟩ : ∃ v0 v1 v2 v3 v4, us' = [v0, v1, v2, v3, v4] := by
        match us', hul with
        | [a, b, c, d, e], _ => exact ⟨a, b, c, d, e, rfl⟩
      have k0 : w13.cell? ⟨gr, (n - 1) * 5, none⟩ = some z0 := huc 0 _ rfl
      have k1 : w13.cell? ⟨gr, (n - 1) * 5 + 1, none⟩ = some z1 := huc 1 _ rfl
      have k2 : w13.cell? ⟨gr, (n - 1) * 5 + 2, none⟩ = some z2 := huc 2 _ rfl
      have k3 : w13.cell? ⟨gr, (n - 1) * 5 + 3, none⟩ = some z3 := huc 3 _ rfl
      have k4 : w13.cell? ⟨gr, (n - 1) * 5 + 4, none⟩ = some z4 := huc 4 _ rfl
      have BF13 := blk_fr BF11.out hf13 (non _)
      have f0 : w13.cell? ⟨fb, 0, none⟩ = some (.string f.name) := (cells_of BF13).1 0 _ rfl
      have f1 : w13.cell? ⟨fb, 1, none⟩ = some (.slice A1 f.params.length c1) := (cells_of BF13).1 1 _ rfl
      have f2 : w13.cell? ⟨fb, 2, none⟩ = some (.slice A9 (f.body.length + M.length) c9) := (cells_of BF13).1 2 _ rfl
      have f3 : w13.cell? ⟨fb, 3, none⟩ = some (.bool false) := (cells_of BF13).1 3 _ rfl
      have f4 : w13.cell? ⟨fb, 4, none⟩ = some (.slice none 0 0) := (cells_of BF13).1 4 _ rfl
      have xr : w13.cell? ⟨rb, 0, none⟩ = some (.slice (some ⟨gr, 0, none⟩) n cr) := (cells_of hr13).1 0 _ rfl
      have hz12 := hf12.size
      have h1113 := hf13.size
      obtain ⟨okR, hokR⟩ : ∃ o : Nat → Prop, o = fun k => (okL (W1.heap.size + 3) B1 B2 g w3.heap.size k ∨ ((B1 ≤ k ∧ k < B2) ∨ w7.heap.size ≤ k ∧ k < w10.heap.size)) := ⟨_, rfl⟩
      have hokR11 : ∀ k, okR k → k < w11.heap.size := fun k hk => by
        rw [hokR] at hk
        have h3 : w3.heap.size ≤ w11.heap.size := by omega
        have h4 := HFB.out
        rcases hk with hk | hk | hk
        · have := hk.2.1; omega
        · omega
        · omega
      have hrdm : RdL okR w13 (f.more M).d [.string f.name, .slice A1 f.params.length c1, .slice A9 (f.body.length + M.length) c9, .bool false, .slice none 0 0] :=
        more_cells L3.out.l1 L3.out.q1 (P11.out.fr hf13 (fun _ _ => non _) (fun k h => by rw [hokR]; exact .inl h)) hl9 (by unfold reach; omega) (R11.out.fr hf13 (fun _ _ => non _) (fun k h => by rw [hokR]; exact .inr h))
      have RR14 := Lib.hid (own_put (K := n - 1) (P := Q) (c := cr) (f' := f.more M) (by rw [HQL.out]; exact how13) (by rw [HQL.out]; omega) hrdm (fun k hk e => by have h := hokR11 k hk; rw [e] at h; omega))
      have hset : Q.set (n - 1) (f.more M) = P0 ++ [f.more M] := by rw [HQE.out, ← HKE.out]; simp
      rw [hset] at RR14
      have RQ13 := Lib.hid (RQ11.out.fr hf13 (fun _ _ => non _) (fun _ h => h))
      have F13 := Lib.hid (F11.out.trans hf13)
      have G13 := Lib.hid (hf13.cell' G11.out (non _))
      have T13 := Lib.hid (hf13.cell' T11.out (non _))
      have BQ13 := Lib.hid (blk_fr BQ11.out hf13 (non _))
      have BR13 := Lib.hid hr13
      clear hset hrdm hul huc BF13 xq how12 how13 F11 G11 T11 BQ11 BF11 P11 R11 hr13 CQ
      obtain ⟨w14, HW14⟩ : ∃ W, W = put5 w13 gr ((n - 1) * 5) (.string f.name) (.slice A1 f.params.length c1) (.slice A9 (f.body.length + M.length) c9) (.bool false) (.slice none 0 0) := ⟨_, rfl⟩
      have h14 : Fr (fun q => q = gr) w13 w14 := by rw [HW14]; exact put5_fr _ _ _ _ _ _ _ _
      rw [← HW14] at RR14
      unfold put5 at HW14
      go_upto_region 12 with fail
      rw [← HW14]
      clear HW14 k0 k1 k2 k3 k4 f0 f1 f2 f3 f4 xr hfz
      have hgq14 : ∀ k, okQ k → ¬ k = gr := fun k hk e => by have := HOQ.out k hk; omega
      obtain ⟨R, hR⟩ : ∃ R, R = P0 ++ [f.more M] := ⟨_, rfl⟩
      rw [← hR] at RR14
      have hRl : R.length = n := by rw [hR, List.length_append, HKE.out]; simp; omega
      have HRE := Lib.hid hR; have HRL := Lib.hid hRl
      obtain ⟨okS, hokS⟩ : ∃ o : Nat → Prop, o = fun k => okR k ∨ w11.heap.size + 3 ≤ k ∧ k < w13.heap.size := ⟨_, rfl⟩
      rw [← hokS] at RR14
      have hz14 := h14.size
      have HOS := Lib.hid (show ∀ k, okS k → k < w14.heap.size from fun k hk => by
        rw [hokS] at hk
        rcases hk with hk | hk
        · have := hokR11 k hk; omega
        · omega)
      have HOQ14 := Lib.hid (show ∀ k, okQ k → k < w14.heap.size from fun k hk => by have := HOQ.out k hk; omega)
      have RQ14 := Lib.hid (RQ13.out.fr h14 hgq14 (fun _ h => h))
      have hw11 : w.heap.size ≤ w11.heap.size := F13.out.size |> fun _ => by have h3 : w.heap.size ≤ w3.heap.size := by have := HFB.out; have := HQB.out; have := HZ1.out; omega
                                                                             omega
      have F14 := Lib.hid (F13.out.then h14 (fun k hk h => by have h : k = gr := h; omega))
      have G14 := Lib.hid (h14.cell' G13.out (fun h => by have h : 0 = gr := h; omega))
      have T14 := Lib.hid (h14.cell' T13.out (fun h => by have h : 1 = gr := h; omega))
      have hgr' := HGR.out
      have BQ14 := Lib.hid (blk_fr BQ13.out h14 (fun h => by have h : qb = gr := h; omega))
      have BR14 := Lib.hid (blk_fr BR13.out h14 (fun h => by have h : rb = gr := h; omega))
      have Z14 := Lib.hid (Nat.le_refl w14.heap.size)
      have hn96 : n * 96 ≤ reach := by unfold reach; omega
      clear hR hRl hokS F13 G13 T13 BQ13 BR13 RQ13 h14 hokR hokR11
      have xq14 : w14.cell? ⟨qb, 0, none⟩ = some (.slice (some ⟨g, 0, none⟩) n c2) := (cells_of BQ14.out).1 0 _ rfl
      have xr14 : w14.cell? ⟨rb, 0, none⟩ = some (.slice (some ⟨gr, 0, none⟩) n cr) := (cells_of BR14.out).1 0 _ rfl
      have C1 := large08_any Q okQ (some ⟨g, 0, none⟩) c2 w14 RQ14.out (by rw [HQL.out]; exact hn96) HOQ14.out
      rw [HQL.out] at C1
      have C1 := Lib.hid C1
      go_wp2_with fail
      refine C1.out.mono ?_
      rintro e w15 ⟨⟨b1, rfl, hb1⟩, hf15⟩
      have F15 := Lib.hid (F14.out.trans hf15)
      have G15 := Lib.hid (hf15.cell' G14.out (non _))
      have T15 := Lib.hid (hf15.cell' T14.out (non _))
      have RQ15 := Lib.hid (RQ14.out.fr hf15 (fun _ _ => non _) (fun _ h => h))
      have RR15 := Lib.hid (RR14.out.fr hf15 (fun _ _ => non _) (fun _ h => h))
      have BQ15 := Lib.hid (blk_fr BQ14.out hf15 (non _))
      have BR15 := Lib.hid (blk_fr BR14.out hf15 (non _))
      have Z15 := Lib.hid (Nat.le_trans Z14.out hf15.size)
      clear F14 G14 T14 RQ14 RR14 BQ14 BR14 Z14 hf15
      have HB1 := Lib.hid hb1
      clear C1 xq14 xr14 hb1
      cases b1
      case true =>
        go_wp2_with fail
        refine (alive_any w15 G15.out).mono ?_
        rintro e w16 ⟨rfl, hf16⟩
        have F16 := Lib.hid (F15.out.trans hf16); clear hf16
        go_wp2_with fail
        go_ret
        exact ⟨rfl, F16.out⟩
      case false =>
        have xq15 : w15.cell? ⟨qb, 0, none⟩ = some (.slice (some ⟨g, 0, none⟩) n c2) := (cells_of BQ15.out).1 0 _ rfl
        have xr15 : w15.cell? ⟨rb, 0, none⟩ = some (.slice (some ⟨gr, 0, none⟩) n cr) := (cells_of BR15.out).1 0 _ rfl
        have C2 := large08_any R okS (some ⟨gr, 0, none⟩) cr w15 RR15.out (by rw [HRL.out]; exact hn96) (fun k hk => by have := HOS.out k hk; have := Z15.out; omega)
        rw [HRL.out] at C2
        have C2 := Lib.hid C2
        go_wp2_with fail
        refine C2.out.mono ?_
        rintro e w16 ⟨⟨b2, rfl, hb2⟩, hf16⟩
        have F16 := Lib.hid (F15.out.trans hf16)
        have G16 := Lib.hid (hf16.cell' G15.out (non _))
        have T16 := Lib.hid (hf16.cell' T15.out (non _))
        have RQ16 := Lib.hid (RQ15.out.fr hf16 (fun _ _ => non _) (fun _ h => h))
        have RR16 := Lib.hid (RR15.out.fr hf16 (fun _ _ => non _) (fun _ h => h))
        have BQ16 := Lib.hid (blk_fr BQ15.out hf16 (non _))
        have BR16 := Lib.hid (blk_fr BR15.out hf16 (non _))
        have Z16 := Lib.hid (Nat.le_trans Z15.out hf16.size)
        clear F15 G15 T15 RQ15 RR15 BQ15 BR15 Z15 hf16
        have HB2 := Lib.hid hb2
        clear C2 xq15 xr15 hb2
        cases b2
        case true =>
          go_wp2_with fail
          refine (alive_any w16 G16.out).mono ?_
          rintro e w17 ⟨rfl, hf17⟩
          have F17 := Lib.hid (F16.out.trans hf17); clear hf17
          go_wp2_with fail
          go_ret
          exact ⟨rfl, F17.out⟩
        case false =>
          obtain ⟨hq30, hqs, hqli⟩ := HB1.out (by simp)
          obtain ⟨hr30, hrs, hrli⟩ := HB2.out (by simp)
          have HQS := Lib.hid hqs; have HRS := Lib.hid hrs
          clear hq30 hqs hqli hr30 hrs hrli HB1 HB2
          have xq16 : w16.cell? ⟨qb, 0, none⟩ = some (.slice (some ⟨g, 0, none⟩) n c2) := (cells_of BQ16.out).1 0 _ rfl
          have xr16 : w16.cell? ⟨rb, 0, none⟩ = some (.slice (some ⟨gr, 0, none⟩) n cr) := (cells_of BR16.out).1 0 _ rfl
          have C3 := mayP_any R okS (some ⟨gr, 0, none⟩) cr w16 RR16.out (by rw [HRL.out]; exact hn96) (by have := HRS.out; omega)
          rw [HRL.out] at C3
          have C3 := Lib.hid C3
          go_wp2_with fail
          refine C3.out.mono ?_
          rintro e w17 ⟨rfl, hf17⟩
          have F17 := Lib.hid (F16.out.trans hf17)
          have G17 := Lib.hid (hf17.cell' G16.out (non _))
          have T17 := Lib.hid (hf17.cell' T16.out (non _))
          have RQ17 := Lib.hid (RQ16.out.fr hf17 (fun _ _ => non _) (fun _ h => h))
          have RR17 := Lib.hid (RR16.out.fr hf17 (fun _ _ => non _) (fun _ h => h))
          have BQ17 := Lib.hid (blk_fr BQ16.out hf17 (non _))
          have BR17 := Lib.hid (blk_fr BR16.out hf17 (non _))
          have Z17 := Lib.hid (Nat.le_trans Z16.out hf17.size)
          clear F16 G16 T16 RQ16 RR16 BQ16 BR16 Z16 hf17
          clear C3 xq16 xr16
          cases hmr2 : mayM R
          case false =>
            go_wp2_with fail
            refine (alive_any w17 G17.out).mono ?_
            rintro e w18 ⟨rfl, hf18⟩
            have F18 := Lib.hid (F17.out.trans hf18); clear hf18
            go_wp2_with fail
            go_ret
            exact ⟨rfl, F18.out⟩
          case true =>
            have HMR := Lib.hid hmr2; clear hmr2
            have xq17 : w17.cell? ⟨qb, 0, none⟩ = some (.slice (some ⟨g, 0, none⟩) n c2) := (cells_of BQ17.out).1 0 _ rfl
            have xr17 : w17.cell? ⟨rb, 0, none⟩ = some (.slice (some ⟨gr, 0, none⟩) n cr) := (cells_of BR17.out).1 0 _ rfl
            have C4 := mayP_any Q okQ (some ⟨g, 0, none⟩) c2 w17 RQ17.out (by rw [HQL.out]; exact hn96) (by have := HQS.out; omega)
            rw [HQL.out] at C4
            have C4 := Lib.hid C4
            go_wp2_with fail
            refine C4.out.mono ?_
            rintro e w18 ⟨rfl, hf18⟩
            have F18 := Lib.hid (F17.out.trans hf18)
            have G18 := Lib.hid (hf18.cell' G17.out (non _))
            have T18 := Lib.hid (hf18.cell' T17.out (non _))
            have RQ18 := Lib.hid (RQ17.out.fr hf18 (fun _ _ => non _) (fun _ h => h))
            have RR18 := Lib.hid (RR17.out.fr hf18 (fun _ _ => non _) (fun _ h => h))
            have BQ18 := Lib.hid (blk_fr BQ17.out hf18 (non _))
            have BR18 := Lib.hid (blk_fr BR17.out hf18 (non _))
            have Z18 := Lib.hid (Nat.le_trans Z17.out hf18.size)
            clear F17 G17 T17 RQ17 RR17 BQ17 BR17 Z17 hf18
            clear C4 xq17 xr17
            cases hmq2 : mayM Q
            case false =>
              go_wp2_with fail
              refine (alive_any w18 G18.out).mono ?_
              rintro e w19 ⟨rfl, hf19⟩
              have F19 := Lib.hid (F18.out.trans hf19); clear hf19
              go_wp2_with fail
              go_ret
              exact ⟨rfl, F19.out⟩
            case true =>
              have HMQ := Lib.hid hmq2; clear hmq2
              have xq18 : w18.cell? ⟨qb, 0, none⟩ = some (.slice (some ⟨g, 0, none⟩) n c2) := (cells_of BQ18.out).1 0 _ rfl
              have xr18 : w18.cell? ⟨rb, 0, none⟩ = some (.slice (some ⟨gr, 0, none⟩) n cr) := (cells_of BR18.out).1 0 _ rfl
              have C5 := scheck_any Q okQ (some ⟨g, 0, none⟩) c2 w18 RQ18.out (by rw [HQL.out]; exact hn96) (by rw [HQL.out]; exact hcc) (by have := HQS.out; omega) (fun k hk => by have := HOQ14.out k hk; have := Z18.out; omega)
              rw [HQL.out, scCheck_errV] at C5
              obtain ⟨r, hr⟩ : ∃ r, r = scCheck Q := ⟨_, rfl⟩
              rw [← hr] at C5
              have HR := Lib.hid hr; clear hr
              by_cases hz : r.2 = 0
              · unfold errV at C5
                rw [if_pos hz] at C5
                have C5 := Lib.hid C5
                go_wp2_with fail
                refine C5.out.mono ?_
                rintro e w19 ⟨rfl, hf19⟩
                have G19 := Lib.hid (hf19.cell' G18.out (non _))
                have F19 := Lib.hid (F18.out.trans hf19)
                clear C5 xq18 xr18 hf19
                go_wp2_with fail
                refine (alive_any w19 G19.out).mono ?_
                rintro e w20 ⟨rfl, hf20⟩
                have F20 := Lib.hid (F19.out.trans hf20); clear hf20
                go_wp2_with fail
                go_ret
                exact ⟨rfl, F20.out⟩
              · have bd := scCheck_bd Q HMQ.out
                rw [← HR.out] at bd
                have hlaw : scCheck R = r := by
                  rw [HR.out]
                  have h1 := HMQ.out; have h2 := HMR.out
                  have hne : scCheck Q ≠ (0, 0) := fun e => hz (by rw [HR.out, e])
                  rw [HQE.out] at h1 hne ⊢
                  rw [HRE.out] at h2 ⊢
                  exact law_ahead P0 f M h1 h2 hne
                have HLAW := Lib.hid hlaw; clear hlaw
                have S5 := Lib.hid (fun (wx : World) (hx : wx.cell? ⟨1, 2, none⟩ = some (.int .u64 tb)) => by
                  have h := alike_any r bd.1 bd.2.1 bd.2.2.1 bd.2.2.2 tb wx hx
                  unfold errV at h
                  rw [if_neg hz] at h
                  unfold faultV at h
                  exact h)
                clear bd
                unfold errV at C5
                rw [if_neg hz] at C5
                unfold faultV at C5
                have C5 := Lib.hid C5
                have HNZ := Lib.hid hz; clear hz
                go_wp2_with fail
                refine C5.out.mono ?_
                rintro e w19 ⟨rfl, hf19⟩
                have F19 := Lib.hid (F18.out.trans hf19)
                have G19 := Lib.hid (hf19.cell' G18.out (non _))
                have T19 := Lib.hid (hf19.cell' T18.out (non _))
                have RQ19 := Lib.hid (RQ18.out.fr hf19 (fun _ _ => non _) (fun _ h => h))
                have RR19 := Lib.hid (RR18.out.fr hf19 (fun _ _ => non _) (fun _ h => h))
                have BQ19 := Lib.hid (blk_fr BQ18.out hf19 (non _))
                have BR19 := Lib.hid (blk_fr BR18.out hf19 (non _))
                have Z19 := Lib.hid (Nat.le_trans Z18.out hf19.size)
                clear F18 G18 T18 RQ18 RR18 BQ18 BR18 Z18 hf19
                clear C5 xq18 xr18
                have xr19 : w19.cell? ⟨rb, 0, none⟩ = some (.slice (some ⟨gr, 0, none⟩) n cr) := (cells_of BR19.out).1 0 _ rfl
                have C6 := scheck_any R okS (some ⟨gr, 0, none⟩) cr w19 RR19.out (by rw [HRL.out]; exact hn96) (by rw [HRL.out]; exact hcr) (by have := HRS.out; omega) (fun k hk => by have := HOS.out k hk; have := Z19.out; omega)
                rw [HRL.out, scCheck_errV, HLAW.out] at C6
                unfold errV at C6
                rw [if_neg HNZ.out] at C6
                unfold faultV at C6
                have C6 := Lib.hid C6
                go_wp2_with fail
                refine C6.out.mono ?_
                rintro e w20 ⟨rfl, hf20⟩
                have G20 := Lib.hid (hf20.cell' G19.out (non _))
                have T20 := Lib.hid (hf20.cell' T19.out (non _))
                have F20 := Lib.hid (F19.out.trans hf20)
                clear C6 xr19 hf20
                go_wp2_with fail
                refine (S5.out w20 T20.out).mono ?_
                rintro e w21 ⟨rfl, hf21⟩
                have G21 := Lib.hid (hf21.cell' G20.out (non _))
                have F21 := Lib.hid (F20.out.trans hf21); clear hf21
                go_wp2_with fail
                refine (alive_any w21 G21.out).mono ?_
                rintro e w22 ⟨rfl, hf22⟩
                have F22 := Lib.hid (F21.out.trans hf22); clear hf22
                go_wp2_with fail
                go_ret
                exact ⟨rfl, F22.out⟩
end Go.Proofs.YtfncbemligfloaaGreatDoor
/- The second form's row of ScopeAhead, proved: for every program and all statements that come in, together of bulk at most 1048576, the call returns true, and they read as they did. Conditions: those of the row. -/
namespace Go.Proofs.YtfncbemligfloaaGreatDoor
open Go.RowKit
set_option linter.unusedVariables false
set_option linter.unusedSimpArgs false
open Go.ChangeShapes Go.WideShapes
theorem readStmts : Program.readableRec Tryz.prog 32 = true := by kernel_rfl
theorem rowStmts : 32 < Tryz.prog.types.size := by rw [et_size]; omega
theorem ahead_reads (os : Os) {H : Type} (enc : TypeId × Value → H) : ∃ places, DataW.whole enc Tryz.prog ((laidWorld os).forCall (fun _ _ => 0) ⟨#[], #[.agg #[.slice none 0 0], .slice none 0 0], []⟩).memory Tryz.f4.params.toList Rows.scopeAheadSpec.vars false #[Value.agg #[.slice none 0 0], .slice none 0 0].toList 8 = some ([.agg [.nil], .nil], [], places) :=
  ⟨[], by kernel_rfl⟩
set_option maxRecDepth 100000 in
set_option maxHeartbeats 4000000 in
theorem ahead_lifted (os : Os) (started : os.Started) (H : Type) (enc : TypeId × Value → H) (F : Stop.Interp) :
    ReturnsInHanded {} Tryz.checked os 4 .any ((Rows.OpenSpec.upto Rows.scopeAheadSpec).preRow enc Tryz.prog Tryz.f4 Rows.scopeAheadUptoRow.domain false Rows.scopeAheadUptoRow.laid) (((Rows.OpenSpec.upto Rows.scopeAheadSpec).at F).post enc Tryz.prog Tryz.f4 false true false false) := by
  obtain ⟨places, hx⟩ := ahead_reads os enc
  refine returnsInHanded_of_row (C := Tryz.checked) (s := Rows.OpenSpec.upto Rows.scopeAheadSpec) own_knob started (by kernel_rfl) Tryz.func4
    (witness_row_at (enc := enc) (C := Tryz.checked) false (laidWorld os) #[.agg #[.slice none 0 0], .slice none 0 0] rfl (by kernel_rfl) (by kernel_rfl) (by kernel_rfl)
      (OpenSpec.preRow_of_cond 8 hx (by kernel_rfl) (fun k hk => by cases hk; kernel_rfl) (by kernel_rfl) (laidWorld_met os _))) ?_
  intro W base args ds gs before hval0 hW _ hcond hsz hL hsh _
  obtain ⟨tb, htb⟩ := tab_of_shaped hsh
  have hval : ∀ (j : Nat) t v, Tryz.f4.params[j]? = some t → args[j]? = some v → Value.okWide Tryz.prog W .any base t v := hval0
  have hW' := hW
  obtain ⟨p, q, hA0, hV0, rfl, hfz, hnd⟩ := hW
  have hA : DataW.TrodAll enc Tryz.prog W 0 (fun _ => true) true Tryz.f4.params.toList args.toList ds p := hA0
  have hV : DataW.TrodVars enc Tryz.prog W (fun _ => true) [] gs q := hV0
  rw [Tryz.params4] at hA hval
  obtain ⟨v0, v1, d0, d1, p0, p1, rfl, rfl, rfl, h0, h1⟩ := trodAll_two hA
  obtain ⟨rfl, rfl⟩ : gs = [] ∧ q = [] := by
    cases gs with
    | nil => exact ⟨rfl, hV⟩
    | cons g r => exact absurd hV (by intro h; cases h)
  have hval1 := hval 0 24 v0 rfl rfl
  have hval2 := hval 1 32 v1 rfl rfl
  obtain ⟨cs, rfl⟩ : ∃ cs, v0 = .agg cs := by
    unfold Value.okWide at hval1
    rw [Tryz.underlying24] at hval1
    obtain ⟨cs, h, _⟩ := hval1
    exact ⟨cs, h⟩
  have h0k := h0
  have h1k := h1
  obtain ⟨fuel, hf⟩ := h0
  obtain ⟨fuel1, hf1⟩ := h1
  have hsz' : (DataW.weightsEach Tryz.prog (Tryz.f4.params.toList ++ Rows.scopeAheadSpec.plain.varTypes Tryz.prog) ([d0, d1] ++ [])).all (· ≤ reachBytes) = true := hsz
  rw [Tryz.params4] at hsz'
  have hlt : Light (DataW.weightsEach Tryz.prog (#[24, 32].toList ++ Rows.scopeAheadSpec.plain.varTypes Tryz.prog) ([d0, d1] ++ [])) := hsz'
  have hlight : Light (d0.weights Tryz.prog 24) := Light.left hlt
  have hlight1 : Light (d1.weights Tryz.prog 32) := Light.left (Light.right hlt)
  have hk : Rows.uptoSmall H ([d0, d1] ++ []) = true := hcond _ rfl
  have hbulk : Rows.uptoBulkAll ([d0, d1] ++ []) ≤ 1048576 := of_decide_eq_true hk
  simp only [List.append_nil, Rows.uptoBulkAll] at hbulk
  obtain ⟨P, A, c, hcs, hc1, hc2, hrd, hbP, hbf⟩ := op_progB fuel (.agg cs) _ _ hf hlight
  have hcs' : cs = #[.slice A P.length c] := by
    have : cs.toList = [.slice A P.length c] := hcs
    rw [← Array.toList_inj]; exact this
  subst hcs'
  obtain ⟨M, B, d, hcm, hm1, hm2, hrm, hbM⟩ := op_stsB fuel1 _ _ hf1 hlight1
  have hv1 : v1 = .slice B M.length d := by
    obtain ⟨B', n', d', e⟩ := okWide_slice Tryz.underlying32 hval2
    subst e
    simpa [Value.cells] using hcm
  subst hv1
  have hb0 : P.length ≤ 1048576 := by have h : P.length ≤ Rows.uptoBulk d0 := hbP; omega
  have hb1 : ∀ f ∈ P, f.body.length + M.length ≤ 1048576 := fun f hf => by have h : f.body.length ≤ Rows.uptoBulk d0 := hbf f hf; have h' : M.length ≤ Rows.uptoBulk d1 := hbM; omega
  have hb2 : M.length ≤ 1048576 := by have h' : M.length ≤ Rows.uptoBulk d1 := hbM; omega
  refine (scopeAhead_any P M (InW W) A c B d W hrd hc2 hc1 hrm hm1 hb0 hb1 hb2 (fun q hq => hq) (handle_of_laid hL) tb htb).mono fun e W' ⟨he, hw⟩ => ?_
  subst he
  have e1 : Rows.scopeAheadSpec.fn H ([d0, d1] ++ []) = { results := [.lit (.bool true)], args := [d0, d1] } := by simp [Rows.scopeAheadSpec]
  have hl0 : ∀ x ∈ p0, x.block < W.heap.size := fun x hx => hW'.lt x (by simp [hx])
  have hl1 : ∀ x ∈ p1, x.block < W.heap.size := fun x hx => hW'.lt x (by simp [hx])
  refine ⟨_, rfl, post_of_fr (s := Rows.scopeAheadSpec) hw hW' ?_ ?_ ?_ ?_⟩
  · intro b sp hd
    rw [e1]
    exact trodAll_mk1 (shut_bool Tryz.underlying4 true)
  · intro sp hsp
    rw [e1, Tryz.params4]
    have h3 := trodAll_mk2 (WideElems.Trod_stays laidOut readProg rowProg h0k (fun x hx => hw.below.same (hl0 x hx)) (fun x hx => hsp x (by simp [hx]))) (WideElems.Trod_stays laidOut readStmts rowStmts h1k (fun x hx => hw.below.same (hl1 x hx)) (fun x hx => hsp x (by simp [hx])))
    simp only [List.append_nil] at h3 ⊢
    exact h3
  · intro sp
    rw [e1]; rfl
  · exact ok_one (by kernel_rfl) rfl (okWide_bool_mk Tryz.underlying4 true)
end Go.Proofs.YtfncbemligfloaaGreatDoor
