/- Contracts and laws, file 3: RefY, RefZ, RefV, RefS, RefO, RefP, RefQ, Mod -/
import Derived.Test.YtnlnejpioijkiaaGreatDoorMg02
import Derived.Deep.DeepCutAuto
import Derived.StillTailTactics
import Derived.Deep.AppendLies
import Derived.Deep.RegionLaw
import Derived.Deep.RegionHeld3
/- Contracts of the reference's walker: names that are given. -/
namespace Go.Proofs.YtnlnejpioijkiaaGreatDoor
open Go.RowKit
set_option linter.unusedVariables false
set_option linter.unusedSimpArgs false

def Wk.give (ru : Int) (s : Wk) (v : Va) : Wk :=
  let s1 := s.bad ru 10 (inM s.given v.name) 9
  { s1 with given := s1.given ++ [v.name], env := s1.env ++ [{ v with loops := s1.loops }] }
theorem bad_env (ru : Int) (s : Wk) (r : Int) (is : Bool) (e : Int) : (s.bad ru r is e).env = s.env ∧ (s.bad ru r is e).given = s.given ∧ (s.bad ru r is e).loops = s.loops ∧ (s.bad ru r is e).n = s.n ∧ (s.bad ru r is e).f = s.f := by
  unfold Wk.bad; split <;> exact ⟨rfl, rfl, rfl, rfl, rfl⟩

/-- What a step of append in a region that draws gives: the element lies in a block of its own. -/
theorem step_one {t e : TypeId} {z : Value} {size bytes : Nat} (ht : Tryz.prog.underlying t = some (.slice e)) (hi : (Tryz.prog.info? e).map (fun i => (i.zero, i.size, i.bytes)) = some (some z, size, bytes)) (hzs : z.cells.size = size) (hsz : 0 < size) (hby : bytes ≤ 64)
    {ops : Array Oper} {o : Oper} {a : Act} {K : Act → World → Prop} {Q : Exit → Act → World → Prop} {E : Prop} {w : World} (hgd : o.guard = none) (s x : Operand)
    (ho : o.op = .call { callee := .builtin .append, args := #[s, x], argTypes := #[t, t] })
    (base : Nat) (v : Value) (n : Nat) (xs : List Value) (hs : a.eval s = v) (hown : w.ownsRow base e size v n xs)
    (ad : Addr) (c : Nat) (news : List Value) (hx : a.eval x = .slice (some ad) 1 c) (hl : news.length = size) (hnews : ∀ j u, news[j]? = some u → w.cell? (ad.add j) = some u) (h1 : ∀ u ∈ news, u.oneCell' = true)
    (hn : n ≤ 1099511627776) (hbase : base ≤ w.heap.size)
    (h : ∀ g cap w', w'.ownsRow base e size (.slice (some ⟨g, 0, none⟩) (n + 1) cap) (n + 1) (xs ++ news) → Fr (fun k => v.ownBlock = some k) w w' → (v.ownBlock = some g ∨ w.heap.size ≤ g) → K (a.put o.dst (.slice (some ⟨g, 0, none⟩) (n + 1) cap)) w') :
    if Region.wanted o (yielded ops a.tmps) = true then Oper.wp Tryz.prog o a w K Q else E := by
  obtain ⟨i0, h0, hz1, hz2, hz3⟩ := info_parts hi
  refine step_append_lies w hgd s x t ho base e i0 z size bytes ht h0 hz1 hz2 hz3 hzs hsz v n xs hs hown ad 1 c news hx (by omega) hnews h1 (by omega) (by unfold maxLen; omega) ?_ hbase w.heap.size rfl ?_
  · have := Nat.mul_le_mul (show n + 1 ≤ 1099511627777 by omega) hby; omega
  · intro g cap w' h2 h3 h4 h5
    exact h g cap w' h2 ⟨h3.os, h3.tape, h3.output, h3.size, fun k hk hn => h3.block k hk fun e => hn e.symm⟩ (h4.imp id fun e => by omega)

theorem WkAt.far {base b : Nat} {PV : Value} {ru : Int} {w w' : World} {s : Wk} {ve vg : Value} {S : Nat → Prop} (h : WkAt base b PV ru w s ve vg) (hf : Fr S w w') (hs : ∀ k, WS b ve vg k → ¬ S k) : WkAt base b PV ru w' s ve vg :=
  ⟨blk_fr h.blk hf (hs b (.inl rfl)), row_fr h.env hf (fun k hk => hs k (.inr (.inl hk))), row_fr h.giv hf (fun k hk => hs k (.inr (.inr hk))), h.be, h.bg, h.eg, h.hb⟩
theorem WkAt.gaveG {base b g n cap : Nat} {PV : Value} {ru : Int} {W3 W4 w4 : World} {s1 : Wk} {ve vg : Value} {nm : ByteArray} (h3 : WkAt base b PV ru W3 s1 ve vg) (hfa : Fr Non W3 W4) (hn : s1.given.length = n)
    (hr4 : w4.ownsRow base 9 1 (.slice (some ⟨g, 0, none⟩) (n + 1) cap) (n + 1) (s1.given.map Value.string ++ [.string nm])) (hf4 : Fr (fun k => vg.ownBlock = some k) W4 w4) (hw4 : vg.ownBlock = some g ∨ W4.heap.size ≤ g) :
    WkAt base b PV ru (w4.setCell ⟨b, 3, none⟩ (.slice (some ⟨g, 0, none⟩) (n + 1) cap)) { s1 with given := s1.given ++ [nm] } ve (.slice (some ⟨g, 0, none⟩) (n + 1) cap) ∧
    Fr (WS b ve vg) W3 (w4.setCell ⟨b, 3, none⟩ (.slice (some ⟨g, 0, none⟩) (n + 1) cap)) ∧ ∀ k, WS b ve (.slice (some ⟨g, 0, none⟩) (n + 1) cap) k → WS b ve vg k ∨ W3.heap.size ≤ k := by
  have hsz := hfa.size
  have hgb : g ≠ b := by
    rintro rfl
    rcases hw4 with h | h
    · exact h3.bg h
    · have := blk_lt h3.blk; omega
  have hf5 : Fr (fun k => k = b) w4 (w4.setCell ⟨b, 3, none⟩ (.slice (some ⟨g, 0, none⟩) (n + 1) cap)) := (Fr.refl (fun k => k = b) w4).setCell _ _ (.inl rfl)
  have hb4 := blk_fr (blk_fr h3.blk hfa (non _)) hf4 h3.bg
  have he4 := row_fr (row_fr h3.env hfa (fun _ _ => non _)) hf4 (fun k hk e => h3.eg k hk e)
  refine ⟨⟨blk_set hb4 3 _, row_fr he4 hf5 (fun k hk e => h3.be (by rw [hk, e])), ?_, h3.be, ?_, ?_, h3.hb⟩, ?_, ?_⟩
  · have := row_fr hr4 hf5 (fun k hk e => hgb (by simpa [Value.ownBlock, e] using hk))
    show World.ownsRow _ _ _ _ _ (s1.given ++ [nm]).length ((s1.given ++ [nm]).map Value.string)
    rw [List.length_append, hn, List.map_append]; exact this
  · intro h; exact hgb (by simpa [Value.ownBlock] using h)
  · intro k hk h
    have hk2 : g = k := by simpa [Value.ownBlock] using h
    subst hk2
    rcases hw4 with h | h
    · exact h3.eg _ hk h
    · have := (h3.env.lt _ hk).2; omega
  · have h1 := hfa.non (S := WS b ve vg)
    exact (h1.trans (hf4.mono fun k _ h => .inr (.inr h))).trans (hf5.mono fun k _ h => .inl h)
  · rintro k (h | h | h)
    · exact .inl (.inl h)
    · exact .inl (.inr (.inl h))
    · have hk2 : g = k := by simpa [Value.ownBlock] using h
      subst hk2
      rcases hw4 with h | h
      · exact .inl (.inr (.inr h))
      · exact .inr (by omega)
theorem WkAt.gaveE {base b g n cap : Nat} {PV : Value} {ru : Int} {W3 W4 w4 : World} {s1 : Wk} {ve vg : Value} {x : Va} (h3 : WkAt base b PV ru W3 s1 ve vg) (hfa : Fr Non W3 W4) (hn : s1.env.length = n)
    (hr4 : w4.ownsRow base 148 9 (.slice (some ⟨g, 0, none⟩) (n + 1) cap) (n + 1) (vasC s1.env ++ x.cells)) (hf4 : Fr (fun k => ve.ownBlock = some k) W4 w4) (hw4 : ve.ownBlock = some g ∨ W4.heap.size ≤ g) :
    WkAt base b PV ru (w4.setCell ⟨b, 2, none⟩ (.slice (some ⟨g, 0, none⟩) (n + 1) cap)) { s1 with env := s1.env ++ [x] } (.slice (some ⟨g, 0, none⟩) (n + 1) cap) vg ∧
    Fr (WS b ve vg) W3 (w4.setCell ⟨b, 2, none⟩ (.slice (some ⟨g, 0, none⟩) (n + 1) cap)) ∧ ∀ k, WS b (.slice (some ⟨g, 0, none⟩) (n + 1) cap) vg k → WS b ve vg k ∨ W3.heap.size ≤ k := by
  have hsz := hfa.size
  have hgb : g ≠ b := by
    rintro rfl
    rcases hw4 with h | h
    · exact h3.be h
    · have := blk_lt h3.blk; omega
  have hf5 : Fr (fun k => k = b) w4 (w4.setCell ⟨b, 2, none⟩ (.slice (some ⟨g, 0, none⟩) (n + 1) cap)) := (Fr.refl (fun k => k = b) w4).setCell _ _ (.inl rfl)
  have hb4 := blk_fr (blk_fr h3.blk hfa (non _)) hf4 h3.be
  have he4 := row_fr (row_fr h3.giv hfa (fun _ _ => non _)) hf4 (fun k hk e => h3.eg k e hk)
  refine ⟨⟨blk_set hb4 2 _, ?_, row_fr he4 hf5 (fun k hk e => h3.bg (by rw [hk, e])), ?_, h3.bg, ?_, h3.hb⟩, ?_, ?_⟩
  · have := row_fr hr4 hf5 (fun k hk e => hgb (by simpa [Value.ownBlock, e] using hk))
    show World.ownsRow _ _ _ _ _ (s1.env ++ [x]).length (vasC (s1.env ++ [x]))
    rw [List.length_append, hn, show vasC (s1.env ++ [x]) = vasC s1.env ++ x.cells by simp [vasC]]; exact this
  · intro h; exact hgb (by simpa [Value.ownBlock] using h)
  · intro k h hk
    have hk2 : g = k := by simpa [Value.ownBlock] using h
    subst hk2
    rcases hw4 with h | h
    · exact h3.eg _ h hk
    · have := (h3.giv.lt _ hk).2; omega
  · have h1 := hfa.non (S := WS b ve vg)
    exact (h1.trans (hf4.mono fun k _ h => .inr (.inl h))).trans (hf5.mono fun k _ h => .inl h)
  · rintro k (h | h | h)
    · exact .inl (.inl h)
    · have hk2 : g = k := by simpa [Value.ownBlock] using h
      subst hk2
      rcases hw4 with h | h
      · exact .inl (.inr (.inl h))
      · exact .inr (by omega)
    · exact .inl (.inr (.inr h))

set_option maxRecDepth 4000 in
set_option maxHeartbeats 2000000 in
theorem give_any (base b : Nat) (PV : Value) (ru : Int) (w : World) (s : Wk) (ve vg : Value) (v : Va) (h : WkAt base b PV ru w s ve vg) (hc : s.env.length ≤ 1099511627776) (hc2 : s.given.length ≤ 1099511627776) :
   Calls Tryz.prog 74 #[.pointer (some ⟨b, 0, none⟩), v.v] w fun e w' => e = .returned (.tuple #[]) ∧ Stp base b PV ru w ve vg w' (s.give ru v) := by
  obtain ⟨A, c, rfl, hlc⟩ := row_slice h.giv
  obtain ⟨Ae, ce, rfl, hlce⟩ := row_slice h.env
  obtain ⟨W1, HW1⟩ : ∃ W1, W1 = w.alloc (.cells #[.string v.name, .bool v.buf, .bool v.sec, .bool v.mt, .bool v.own, .bool v.set, .bool v.gone, .int .i64 v.lent, .int .i64 v.loops] 148) := ⟨_, rfl⟩
  have hbx : W1.heap[w.heap.size]? = some (.cells #[.string v.name, .bool v.buf, .bool v.sec, .bool v.mt, .bool v.own, .bool v.set, .bool v.gone, .int .i64 v.lent, .int .i64 v.loops] 148 (0, 0)) := by rw [HW1]; exact blk_new _ _ _
  have hf1 : Fr Non w W1 := by rw [HW1]; exact (fr_refl w).alloc _
  have h1 := h.stay hf1
  have HLT := Lib.hid h.lt
  have HW := Lib.hid h; clear h
  have b3 := (cells_of h1.blk).1 3 _ rfl
  have x0 := (cells_of hbx).1 0 _ rfl
  have H1 := Lib.hid h1; clear h1
  have HBX := Lib.hid hbx; clear hbx
  have HF1 := Lib.hid hf1; clear hf1
  unfold Va.v
  go_enter Tryz.func74, Tryz.ntmps74
  go_wp2_with fail
  rw [← HW1]
  clear HW1
  go_still_tail 8, (by kernel_rfl)
  change wpStill _ _ W1.drew _ _ _
  have h2 := H1.out.stay (fr_refl W1).drew
  still_call ((in10_any base _ A c s.given v.name W1.drew h2.giv (by omega)).mono fun e w' h => ⟨h.1, h.2.symm⟩)
  refine wpStill_nil ?_
  change wpList _ _ _ _ _ W1.drew
  have hx2 := blk_fr HBX.out (fr_refl W1).drew (non _)
  have hf2 := HF1.out.trans (fr_refl W1).drew
  clear b3 x0 H1 HBX HF1
  generalize W1.drew = W2 at *
  have H2 := Lib.hid h2; clear h2
  have HX2 := Lib.hid hx2; clear hx2
  have HF2 := Lib.hid hf2; clear hf2
  go_wp2_with fail
  refine (bad_any base b PV ru W2 s (.slice Ae s.env.length ce) (.slice A s.given.length c) 10 (inM s.given v.name) 9 H2.out).mono ?_
  rintro e W3 ⟨rfl, hf3, h3⟩
  have hnb : w.heap.size ≠ b := fun e => by have := (HLT.out b (.inl rfl)).2; omega
  have hx3 := blk_fr HX2.out hf3 hnb
  have HX3 := Lib.hid hx3; clear hx3
  have b3 := (cells_of h3.blk).1 3 _ rfl
  have bf := (cells_of h3.blk).2
  have x0 := (cells_of HX3.out).1 0 _ rfl
  obtain ⟨s1, hs1⟩ : ∃ s1, s1 = s.bad ru 10 (inM s.given v.name) 9 := ⟨_, rfl⟩
  rw [← hs1] at h3
  have hg1 : s1.given = s.given := by rw [hs1]; exact (bad_env ru s 10 _ 9).2.1
  have he1 : s1.env = s.env := by rw [hs1]; exact (bad_env ru s 10 _ 9).1
  have hgr := h3.giv
  rw [hg1] at hgr
  have hb3lt : b < W3.heap.size := blk_lt h3.blk
  have hw3lt : w.heap.size < W3.heap.size := blk_lt HX3.out
  have hB3 : base ≤ W3.heap.size := by have := blk_lt h3.blk; have := h3.hb; omega
  have H3 := Lib.hid h3; clear h3
  have HS1 := Lib.hid hs1; clear hs1
  have HG1 := Lib.hid hg1; clear hg1
  have HE1 := Lib.hid he1; clear he1
  have HGR := Lib.hid hgr; clear hgr
  have HF3 := Lib.hid hf3; clear hf3
  go_wp2_with fail
  refine (fun (key : ?K) => ?main) ?kp
  case main =>
    go_region_law (refine step_one (z := .string ⟨#[]⟩) (size := 1) (bytes := 16) (by kernel_rfl) (by kernel_rfl) rfl (by decide) (by decide) rfl (.tmp 17) (.tmp 20) rfl base (.slice A s.given.length c) s.given.length (s.given.map Value.string) rfl (row_fr HGR.out ((fr_refl _).alloc _).drew (fun _ _ => non _)) ⟨W3.heap.size, 0, none⟩ 1 [.string v.name] rfl rfl (fun j u h => by rw [World.cell?_drew]; exact new_cells' rfl j u h) (by intro u hu; simp at hu; subst hu; rfl) hc2 (Nat.le_trans hB3 ((fr_refl W3).alloc _).drew.size) ?_; intro g cap w4 hr4 hf4 hw4; have hb4 := blk_fr (blk_fr H3.out.blk ((fr_refl _).alloc _).drew (non _)) hf4 H3.out.bg; have bf4 := (cells_of hb4).2; have b34 := (cells_of hb4).1 3 _ rfl)
    all_goals
      obtain ⟨h5, hf5, hn5⟩ := H3.out.gaveG ((fr_refl _).alloc _).drew (by rw [HG1.out]) (by rw [HG1.out]; exact hr4) hf4 hw4
      generalize hw5 : World.setCell w4 _ _ = w5 at *
      clear hw5 hr4 hf4 hw4 hb4 bf4 b34 w4
      revert h5 hf5 hn5
      revert g cap w5
      exact key
  case kp =>
    intro g cap w5 hn5 h5 hf5
    clear b3 bf x0 hB3 hb3lt hw3lt
    have hnw : ¬ WS b (.slice Ae s.env.length ce) (.slice A s.given.length c) w.heap.size := fun h => by have := (HLT.out _ h).2; omega
    have hx5 := blk_fr HX3.out hf5 hnw
    have hsz5 : w.heap.size < w5.heap.size := blk_lt hx5
    have hnw5 : ¬ WS b (.slice Ae s.env.length ce) (.slice (some ⟨g, 0, none⟩) (s.given.length + 1) cap) w.heap.size := fun h => by
      rcases hn5 _ h with h | h
      · exact hnw h
      · have := blk_lt HX3.out; omega
    have b8 := (cells_of h5.blk).1 8 _ rfl
    have x8 := (cells_of hx5).1 8 _ rfl
    have xf := (cells_of hx5).2
    have hx6 : (w5.setCell ⟨w.heap.size, 8, none⟩ (.int .i64 s1.loops)).heap[w.heap.size]? = some (.cells #[.string v.name, .bool v.buf, .bool v.sec, .bool v.mt, .bool v.own, .bool v.set, .bool v.gone, .int .i64 v.lent, .int .i64 s1.loops] 148 (0, 0)) := blk_set hx5 8 (.int .i64 s1.loops)
    have hf6 : Fr (fun k => k = w.heap.size) w5 (w5.setCell ⟨w.heap.size, 8, none⟩ (.int .i64 s1.loops)) := (Fr.refl (fun k => k = w.heap.size) w5).setCell _ _ (.inl rfl)
    have h6 := h5.far hf6 (fun k hk e => hnw5 (e ▸ hk))
    have HX6 := Lib.hid hx6; clear hx6 hx5
    have H5 := Lib.hid h5; clear h5
    have H6 := Lib.hid h6; clear h6
    have HF5 := Lib.hid hf5; clear hf5
    have HN5 := Lib.hid hn5; clear hn5
    have HNW := Lib.hid hnw; clear hnw
    have HNW5 := Lib.hid hnw5; clear hnw5
    have HF6 := Lib.hid hf6; clear hf6
    go_upto_region 4 with fail
    generalize hw6 : World.setCell w5 _ _ = w6 at *
    clear hw6 b8 x8 xf
    have b2 := (cells_of H6.out.blk).1 2 _ rfl
    have bf := (cells_of H6.out.blk).2
    have x0 := (cells_of HX6.out).1 0 _ rfl
    have x1 := (cells_of HX6.out).1 1 _ rfl
    have x2 := (cells_of HX6.out).1 2 _ rfl
    have x3 := (cells_of HX6.out).1 3 _ rfl
    have x4 := (cells_of HX6.out).1 4 _ rfl
    have x5 := (cells_of HX6.out).1 5 _ rfl
    have x6 := (cells_of HX6.out).1 6 _ rfl
    have x7 := (cells_of HX6.out).1 7 _ rfl
    have x8 := (cells_of HX6.out).1 8 _ rfl
    have hb6lt : b < w6.heap.size := blk_lt H6.out.blk
    have hx6lt : w.heap.size < w6.heap.size := blk_lt HX6.out
    have hB6 : base ≤ w6.heap.size := by have := H6.out.hb; omega
    have hgr := H6.out.env
    rw [show (⟨s1.env, s1.given ++ [v.name], s1.n, s1.fat, s1.ferr, s1.loops, s1.f⟩ : Wk).env = s.env from HE1.out] at hgr
    have HGE := Lib.hid hgr; clear hgr
    refine (fun (key : ?K2) => ?main2) ?kp2
    case main2 =>
      go_region_law (refine step_one (z := vaZ) (size := 9) (bytes := 40) (by kernel_rfl) (by kernel_rfl) rfl (by decide) (by decide) rfl (.tmp 33) (.tmp 35) rfl base (.slice Ae s.env.length ce) s.env.length (vasC s.env) rfl (row_fr HGE.out ((fr_refl _).alloc _).drew (fun _ _ => non _)) ⟨w6.heap.size, 0, none⟩ 1 (Va.cells { v with loops := s1.loops }) rfl rfl (fun j u h => by rw [World.cell?_drew]; exact new_cells' rfl j u h) (by intro u hu; simp [Va.cells] at hu; rcases hu with rfl | rfl | rfl | rfl | rfl | rfl | rfl | rfl | rfl <;> rfl) hc (Nat.le_trans hB6 ((fr_refl w6).alloc _).drew.size) ?_; intro g' cap' w4 hr4 hf4 hw4; have hb4 := blk_fr (blk_fr H6.out.blk ((fr_refl _).alloc _).drew (non _)) hf4 H6.out.be; have bf4 := (cells_of hb4).2; have b34 := (cells_of hb4).1 2 _ rfl)
      all_goals
        obtain ⟨h7, hf7, hn7⟩ := H6.out.gaveE (x := { v with loops := s1.loops }) ((fr_refl _).alloc _).drew (show (⟨s1.env, s1.given ++ [v.name], s1.n, s1.fat, s1.ferr, s1.loops, s1.f⟩ : Wk).env.length = s.env.length by rw [show (⟨s1.env, s1.given ++ [v.name], s1.n, s1.fat, s1.ferr, s1.loops, s1.f⟩ : Wk).env = s.env from HE1.out]) (by rw [show (⟨s1.env, s1.given ++ [v.name], s1.n, s1.fat, s1.ferr, s1.loops, s1.f⟩ : Wk).env = s.env from HE1.out]; exact hr4) hf4 hw4
        generalize hw7 : World.setCell w4 _ _ = w7 at *
        clear hw7 hr4 hf4 hw4 hb4 bf4 b34 w4
        revert h7 hf7 hn7
        revert g' cap' w7
        exact key
    case kp2 =>
      intro g' cap' w7 hn7 h7 hf7
      clear b2 bf x0 x1 x2 x3 x4 x5 x6 x7 x8
      have HN7 := Lib.hid hn7; clear hn7
      have H7 := Lib.hid h7; clear h7
      have HF7 := Lib.hid hf7; clear hf7
      go_wp2_with fail
      go_end0
      refine ⟨rfl, .slice (some ⟨g', 0, none⟩) (s.env.length + 1) cap', .slice (some ⟨g, 0, none⟩) (s.given.length + 1) cap, ?_, ?_, ?_⟩
      · have h7 := H7.out
        rw [HS1.out] at h7
        exact h7
      · have f1 : Fr (WS b (.slice Ae s.env.length ce) (.slice A s.given.length c)) w W3 := (HF2.out.non).trans (HF3.out.mono fun k _ h => .inl h)
        have f2 := f1.trans HF5.out
        have f3 := f2.then HF6.out (fun k hk e => by have e : k = w.heap.size := e; omega)
        exact f3.then HF7.out (fun k hk h => by
          rcases HN5.out k h with h | h
          · exact h
          · have := blk_lt HX3.out; omega)
      · intro k h
        rcases HN7.out k h with h | h
        · rcases HN5.out k h with h | h
          · exact .inl h
          · have := blk_lt HX3.out; exact .inr (by omega)
        · exact .inr (by omega)
end Go.Proofs.YtnlnejpioijkiaaGreatDoor
/- Contracts of the reference's walker: names that are asked, and expressions. -/
namespace Go.Proofs.YtnlnejpioijkiaaGreatDoor
open Go.RowKit
set_option linter.unusedVariables false
set_option linter.unusedSimpArgs false

def Wk.askS (ru : Int) (s : Wk) (o : Option Va) (buf : Bool) : Wk :=
  (((s.bad ru 10 (!o.isSome) 3).bad ru 11 (o.isSome && ((o.getD Va.zero).buf != buf)) 8).bad ru 13 (o.isSome && buf && ((o.getD Va.zero).lent == 2)) 130).bad ru 14 (o.isSome && buf && (o.getD Va.zero).gone) 140
def Wk.ask (ru : Int) (s : Wk) (nm : ByteArray) (buf : Bool) : Va × Wk := ((s.find nm).getD Va.zero, s.askS ru (s.find nm) buf)

set_option maxRecDepth 4000 in
set_option maxHeartbeats 4000000 in
theorem ask_any (base b : Nat) (PV : Value) (ru : Int) (w : World) (s : Wk) (ve vg : Value) (nm : ByteArray) (buf : Bool) (h : WkAt base b PV ru w s ve vg) (hc : s.env.length ≤ 1099511627776) :
   Calls Tryz.prog 76 #[.pointer (some ⟨b, 0, none⟩), .string nm, .bool buf] w fun e w' => e = .returned (s.ask ru nm buf).1.v ∧ Fr (fun k => k = b) w w' ∧ WkAt base b PV ru w' (s.ask ru nm buf).2 ve vg := by
  have HW := Lib.hid h
  have hb := blk_lt h.blk
  have h0 := h.stay ((fr_refl w).alloc (.cells #[.string ⟨#[]⟩, .bool false, .bool false, .bool false, .bool false, .bool false, .bool false, .int .i64 0, .int .i64 0] 148))
  have H0 := Lib.hid h0; clear h0 h
  go_enter Tryz.func76, Tryz.ntmps76
  go_wp2_with fail
  refine (Find_any base b PV ru _ s ve vg nm H0.out hc).mono ?_
  rintro e w1 ⟨rfl, hf1⟩
  have hz := blk_fr (blk_new w _ _) hf1 (non _)
  have h1 := H0.out.stay hf1
  have hf01 := (fr_refl w).alloc (.cells #[.string ⟨#[]⟩, .bool false, .bool false, .bool false, .bool false, .bool false, .bool false, .int .i64 0, .int .i64 0] 148) |>.trans hf1
  have H1 := Lib.hid h1; clear h1
  have HZ := Lib.hid hz; clear hz
  have HF1 := Lib.hid hf01; clear hf01 hf1
  unfold foundV Va.v
  generalize ho : s.find nm = o
  have HO := Lib.hid ho; clear ho
  generalize hx : o.getD Va.zero = x
  generalize hi : o.isSome = is
  have HX := Lib.hid hx; clear hx
  have HI := Lib.hid hi; clear hi
  go_upto_region 2 with fail
  obtain ⟨W2, HW2⟩ : ∃ W2, W2 = w1.alloc (.cells #[.string x.name, .bool x.buf, .bool x.sec, .bool x.mt, .bool x.own, .bool x.set, .bool x.gone, .int .i64 x.lent, .int .i64 x.loops] 148) := ⟨_, rfl⟩
  rw [← HW2]
  have hx2 : W2.heap[w1.heap.size]? = some (.cells #[.string x.name, .bool x.buf, .bool x.sec, .bool x.mt, .bool x.own, .bool x.set, .bool x.gone, .int .i64 x.lent, .int .i64 x.loops] 148 (0, 0)) := by rw [HW2]; exact blk_new _ _ _
  have hf2 : Fr Non w1 W2 := by rw [HW2]; exact (fr_refl _).alloc _
  clear HW2
  have h2 := H1.out.stay hf2
  have hz2 := blk_fr HZ.out hf2 (non _)
  have hfw := HF1.out.trans hf2
  have hb1 : b < w1.heap.size := blk_lt H1.out.blk
  have hz1 : w.heap.size < w1.heap.size := blk_lt HZ.out
  have HX2 := Lib.hid hx2; clear hx2
  have HZ2 := Lib.hid hz2; clear hz2
  have H2 := Lib.hid h2; clear h2
  have HFW := Lib.hid hfw; clear hfw hf2
  go_wp2_with fail
  refine (bad_any base b PV ru W2 s ve vg 10 (!is) 3 H2.out).mono ?_
  rintro e W3 ⟨rfl, hf3, h3⟩
  have hx3 := blk_fr HX2.out hf3 (by omega)
  have hz3 := blk_fr HZ2.out hf3 (by omega)
  have x1 := (cells_of hx3).1 1 _ rfl
  have H3 := Lib.hid h3; clear h3
  have HX3 := Lib.hid hx3; clear hx3
  have HZ3 := Lib.hid hz3; clear hz3
  have HF3 := Lib.hid (HFW.out.non.trans hf3); clear hf3
  cases is with
  | false =>
    go_wp2_with fail
    refine (bad_any base b PV ru _ _ ve vg 11 _ 8 H3.out).mono ?_
    rintro e W4 ⟨rfl, hf4, h4⟩
    have hx4 := blk_fr HX3.out hf4 (by omega)
    have hz4 := blk_fr HZ3.out hf4 (by omega)
    clear x1
    have x7 := (cells_of hx4).1 7 _ rfl
    have H4 := Lib.hid h4; clear h4
    have HX4 := Lib.hid hx4; clear hx4
    have HZ4 := Lib.hid hz4; clear hz4
    have HF4 := Lib.hid (HF3.out.trans hf4); clear hf4
    go_wp2_with fail
    refine (bad_any base b PV ru _ _ ve vg 13 _ 130 H4.out).mono ?_
    rintro e W5 ⟨rfl, hf5, h5⟩
    have hx5 := blk_fr HX4.out hf5 (by omega)
    have hz5 := blk_fr HZ4.out hf5 (by omega)
    clear x7
    have x6 := (cells_of hx5).1 6 _ rfl
    have H5 := Lib.hid h5; clear h5
    have HX5 := Lib.hid hx5; clear hx5
    have HZ5 := Lib.hid hz5; clear hz5
    have HF5 := Lib.hid (HF4.out.trans hf5); clear hf5
    go_wp2_with fail
    refine (bad_any base b PV ru _ _ ve vg 14 _ 140 H5.out).mono ?_
    rintro e W6 ⟨rfl, hf6, h6⟩
    have hx6 := blk_fr HX5.out hf6 (by omega)
    have hz6 := blk_fr HZ5.out hf6 (by omega)
    clear x6
    have y0 := (cells_of hx6).1 0 _ rfl
    have y1 := (cells_of hx6).1 1 _ rfl
    have y2 := (cells_of hx6).1 2 _ rfl
    have y3 := (cells_of hx6).1 3 _ rfl
    have y4 := (cells_of hx6).1 4 _ rfl
    have y5 := (cells_of hx6).1 5 _ rfl
    have y6 := (cells_of hx6).1 6 _ rfl
    have y7 := (cells_of hx6).1 7 _ rfl
    have y8 := (cells_of hx6).1 8 _ rfl
    have y9 := (cells_of hz6).2
    have q0 := (cells_of hz6).1 0 _ rfl
    have q1 := (cells_of hz6).1 1 _ rfl
    have q2 := (cells_of hz6).1 2 _ rfl
    have q3 := (cells_of hz6).1 3 _ rfl
    have q4 := (cells_of hz6).1 4 _ rfl
    have q5 := (cells_of hz6).1 5 _ rfl
    have q6 := (cells_of hz6).1 6 _ rfl
    have q7 := (cells_of hz6).1 7 _ rfl
    have q8 := (cells_of hz6).1 8 _ rfl
    have H6 := Lib.hid h6; clear h6
    have HX6 := Lib.hid hx6; clear hx6
    have HZ6 := Lib.hid hz6; clear hz6
    have HF6 := Lib.hid (HF5.out.trans hf6); clear hf6
    go_wp2_with fail

    have fin : ∀ wz, Fr (fun k => k = w.heap.size) W6 wz → (Ending.returned (Value.agg #[.string x.name, .bool x.buf, .bool x.sec, .bool x.mt, .bool x.own, .bool x.set, .bool x.gone, .int .i64 x.lent, .int .i64 x.loops]) = Ending.returned (s.ask ru nm buf).1.v ∧ Fr (fun k => k = b) w wz ∧ WkAt base b PV ru wz (s.ask ru nm buf).2 ve vg) := by
      intro wz hz
      refine ⟨?_, HF6.out.then hz (fun k hk e => by have e : k = w.heap.size := e; omega), ?_⟩
      · rw [Wk.ask, HO.out]
        show _ = Ending.returned (o.getD Va.zero).v
        rw [HX.out]; rfl
      · have h := H6.out.far hz (fun k hk e => by have h1 := (HW.out.lt k hk).2; have e : k = w.heap.size := e; omega)
        rw [Wk.ask, HO.out, Wk.askS, HX.out, HI.out]
        simpa using h
    refine bodyPost_ret (v := .agg #[.string x.name, .bool x.buf, .bool x.sec, .bool x.mt, .bool x.own, .bool x.set, .bool x.gone, .int .i64 x.lent, .int .i64 x.loops]) ?_ rfl (fin _ ?_)
    · simp [results, Tryz.results76, go_sem, q0, q1, q2, q3, q4, q5, q6, q7, q8]
    · repeat (refine Fr.setCell ?_ _ _ (.inl rfl))
      exact Fr.refl _ _
  | true =>
    cases buf with
    | false =>
      go_wp2_with fail
      refine (bad_any base b PV ru _ _ ve vg 11 _ 8 H3.out).mono ?_
      rintro e W4 ⟨rfl, hf4, h4⟩
      have hx4 := blk_fr HX3.out hf4 (by omega)
      have hz4 := blk_fr HZ3.out hf4 (by omega)
      clear x1
      have x7 := (cells_of hx4).1 7 _ rfl
      have H4 := Lib.hid h4; clear h4
      have HX4 := Lib.hid hx4; clear hx4
      have HZ4 := Lib.hid hz4; clear hz4
      have HF4 := Lib.hid (HF3.out.trans hf4); clear hf4
      go_wp2_with fail
      refine (bad_any base b PV ru _ _ ve vg 13 _ 130 H4.out).mono ?_
      rintro e W5 ⟨rfl, hf5, h5⟩
      have hx5 := blk_fr HX4.out hf5 (by omega)
      have hz5 := blk_fr HZ4.out hf5 (by omega)
      clear x7
      have x6 := (cells_of hx5).1 6 _ rfl
      have H5 := Lib.hid h5; clear h5
      have HX5 := Lib.hid hx5; clear hx5
      have HZ5 := Lib.hid hz5; clear hz5
      have HF5 := Lib.hid (HF4.out.trans hf5); clear hf5
      go_wp2_with fail
      refine (bad_any base b PV ru _ _ ve vg 14 _ 140 H5.out).mono ?_
      rintro e W6 ⟨rfl, hf6, h6⟩
      have hx6 := blk_fr HX5.out hf6 (by omega)
      have hz6 := blk_fr HZ5.out hf6 (by omega)
      clear x6
      have y0 := (cells_of hx6).1 0 _ rfl
      have y1 := (cells_of hx6).1 1 _ rfl
      have y2 := (cells_of hx6).1 2 _ rfl
      have y3 := (cells_of hx6).1 3 _ rfl
      have y4 := (cells_of hx6).1 4 _ rfl
      have y5 := (cells_of hx6).1 5 _ rfl
      have y6 := (cells_of hx6).1 6 _ rfl
      have y7 := (cells_of hx6).1 7 _ rfl
      have y8 := (cells_of hx6).1 8 _ rfl
      have y9 := (cells_of hz6).2
      have q0 := (cells_of hz6).1 0 _ rfl
      have q1 := (cells_of hz6).1 1 _ rfl
      have q2 := (cells_of hz6).1 2 _ rfl
      have q3 := (cells_of hz6).1 3 _ rfl
      have q4 := (cells_of hz6).1 4 _ rfl
      have q5 := (cells_of hz6).1 5 _ rfl
      have q6 := (cells_of hz6).1 6 _ rfl
      have q7 := (cells_of hz6).1 7 _ rfl
      have q8 := (cells_of hz6).1 8 _ rfl
      have H6 := Lib.hid h6; clear h6
      have HX6 := Lib.hid hx6; clear hx6
      have HZ6 := Lib.hid hz6; clear hz6
      have HF6 := Lib.hid (HF5.out.trans hf6); clear hf6
      go_wp2_with fail

      have fin : ∀ wz, Fr (fun k => k = w.heap.size) W6 wz → (Ending.returned (Value.agg #[.string x.name, .bool x.buf, .bool x.sec, .bool x.mt, .bool x.own, .bool x.set, .bool x.gone, .int .i64 x.lent, .int .i64 x.loops]) = Ending.returned (s.ask ru nm false).1.v ∧ Fr (fun k => k = b) w wz ∧ WkAt base b PV ru wz (s.ask ru nm false).2 ve vg) := by
        intro wz hz
        refine ⟨?_, HF6.out.then hz (fun k hk e => by have e : k = w.heap.size := e; omega), ?_⟩
        · rw [Wk.ask, HO.out]
          show _ = Ending.returned (o.getD Va.zero).v
          rw [HX.out]; rfl
        · have h := H6.out.far hz (fun k hk e => by have h1 := (HW.out.lt k hk).2; have e : k = w.heap.size := e; omega)
          rw [Wk.ask, HO.out, Wk.askS, HX.out, HI.out]
          simpa using h
      refine bodyPost_ret (v := .agg #[.string x.name, .bool x.buf, .bool x.sec, .bool x.mt, .bool x.own, .bool x.set, .bool x.gone, .int .i64 x.lent, .int .i64 x.loops]) ?_ rfl (fin _ ?_)
      · simp [results, Tryz.results76, go_sem, q0, q1, q2, q3, q4, q5, q6, q7, q8]
      · repeat (refine Fr.setCell ?_ _ _ (.inl rfl))
        exact Fr.refl _ _
    | true =>
      go_wp2_with fail
      refine (bad_any base b PV ru _ _ ve vg 11 _ 8 H3.out).mono ?_
      rintro e W4 ⟨rfl, hf4, h4⟩
      have hx4 := blk_fr HX3.out hf4 (by omega)
      have hz4 := blk_fr HZ3.out hf4 (by omega)
      clear x1
      have x7 := (cells_of hx4).1 7 _ rfl
      have H4 := Lib.hid h4; clear h4
      have HX4 := Lib.hid hx4; clear hx4
      have HZ4 := Lib.hid hz4; clear hz4
      have HF4 := Lib.hid (HF3.out.trans hf4); clear hf4
      go_wp2_with fail
      refine (bad_any base b PV ru _ _ ve vg 13 _ 130 H4.out).mono ?_
      rintro e W5 ⟨rfl, hf5, h5⟩
      have hx5 := blk_fr HX4.out hf5 (by omega)
      have hz5 := blk_fr HZ4.out hf5 (by omega)
      clear x7
      have x6 := (cells_of hx5).1 6 _ rfl
      have H5 := Lib.hid h5; clear h5
      have HX5 := Lib.hid hx5; clear hx5
      have HZ5 := Lib.hid hz5; clear hz5
      have HF5 := Lib.hid (HF4.out.trans hf5); clear hf5
      go_wp2_with fail
      refine (bad_any base b PV ru _ _ ve vg 14 _ 140 H5.out).mono ?_
      rintro e W6 ⟨rfl, hf6, h6⟩
      have hx6 := blk_fr HX5.out hf6 (by omega)
      have hz6 := blk_fr HZ5.out hf6 (by omega)
      clear x6
      have y0 := (cells_of hx6).1 0 _ rfl
      have y1 := (cells_of hx6).1 1 _ rfl
      have y2 := (cells_of hx6).1 2 _ rfl
      have y3 := (cells_of hx6).1 3 _ rfl
      have y4 := (cells_of hx6).1 4 _ rfl
      have y5 := (cells_of hx6).1 5 _ rfl
      have y6 := (cells_of hx6).1 6 _ rfl
      have y7 := (cells_of hx6).1 7 _ rfl
      have y8 := (cells_of hx6).1 8 _ rfl
      have y9 := (cells_of hz6).2
      have q0 := (cells_of hz6).1 0 _ rfl
      have q1 := (cells_of hz6).1 1 _ rfl
      have q2 := (cells_of hz6).1 2 _ rfl
      have q3 := (cells_of hz6).1 3 _ rfl
      have q4 := (cells_of hz6).1 4 _ rfl
      have q5 := (cells_of hz6).1 5 _ rfl
      have q6 := (cells_of hz6).1 6 _ rfl
      have q7 := (cells_of hz6).1 7 _ rfl
      have q8 := (cells_of hz6).1 8 _ rfl
      have H6 := Lib.hid h6; clear h6
      have HX6 := Lib.hid hx6; clear hx6
      have HZ6 := Lib.hid hz6; clear hz6
      have HF6 := Lib.hid (HF5.out.trans hf6); clear hf6
      go_wp2_with fail

      have fin : ∀ wz, Fr (fun k => k = w.heap.size) W6 wz → (Ending.returned (Value.agg #[.string x.name, .bool x.buf, .bool x.sec, .bool x.mt, .bool x.own, .bool x.set, .bool x.gone, .int .i64 x.lent, .int .i64 x.loops]) = Ending.returned (s.ask ru nm true).1.v ∧ Fr (fun k => k = b) w wz ∧ WkAt base b PV ru wz (s.ask ru nm true).2 ve vg) := by
        intro wz hz
        refine ⟨?_, HF6.out.then hz (fun k hk e => by have e : k = w.heap.size := e; omega), ?_⟩
        · rw [Wk.ask, HO.out]
          show _ = Ending.returned (o.getD Va.zero).v
          rw [HX.out]; rfl
        · have h := H6.out.far hz (fun k hk e => by have h1 := (HW.out.lt k hk).2; have e : k = w.heap.size := e; omega)
          rw [Wk.ask, HO.out, Wk.askS, HX.out, HI.out]
          simpa using h
      refine bodyPost_ret (v := .agg #[.string x.name, .bool x.buf, .bool x.sec, .bool x.mt, .bool x.own, .bool x.set, .bool x.gone, .int .i64 x.lent, .int .i64 x.loops]) ?_ rfl (fin _ ?_)
      · simp [results, Tryz.results76, go_sem, q0, q1, q2, q3, q4, q5, q6, q7, q8]
      · repeat (refine Fr.setCell ?_ _ _ (.inl rfl))
        exact Fr.refl _ _
end Go.Proofs.YtnlnejpioijkiaaGreatDoor
/- Contracts of the reference's walker: a buffer that is to be turned. -/
namespace Go.Proofs.YtnlnejpioijkiaaGreatDoor
open Go.RowKit
set_option linter.unusedVariables false
set_option linter.unusedSimpArgs false

def Wk.turned (ru : Int) (s : Wk) (nm : ByteArray) : Va × Wk :=
  ((s.ask ru nm true).1, ((s.ask ru nm true).2.bad ru 11 (!(s.ask ru nm true).1.mt) 8).bad ru 13 ((s.ask ru nm true).1.lent == 1) 130)

set_option maxRecDepth 4000 in
set_option maxHeartbeats 4000000 in
theorem turned_any (base b : Nat) (PV : Value) (ru : Int) (w : World) (s : Wk) (ve vg : Value) (nm : ByteArray) (h : WkAt base b PV ru w s ve vg) (hc : s.env.length ≤ 1099511627776) :
   Calls Tryz.prog 78 #[.pointer (some ⟨b, 0, none⟩), .string nm] w fun e w' => e = .returned (s.turned ru nm).1.v ∧ Fr (fun k => k = b) w w' ∧ WkAt base b PV ru w' (s.turned ru nm).2 ve vg := by
  have HW := Lib.hid h
  have hb := blk_lt h.blk
  have h0 := h.stay ((fr_refl w).alloc (.cells #[.string ⟨#[]⟩, .bool false, .bool false, .bool false, .bool false, .bool false, .bool false, .int .i64 0, .int .i64 0] 148))
  have H0 := Lib.hid h0; clear h0 h
  go_enter Tryz.func78, Tryz.ntmps78
  go_wp2_with fail
  refine (ask_any base b PV ru _ s ve vg nm true H0.out hc).mono ?_
  rintro e w1 ⟨rfl, hf1, h1⟩
  have hz := blk_fr (blk_new w _ _) hf1 (by omega)
  have hf01 := (((fr_refl w).alloc (.cells #[.string ⟨#[]⟩, .bool false, .bool false, .bool false, .bool false, .bool false, .bool false, .int .i64 0, .int .i64 0] 148)).non (S := fun k => k = b)).trans hf1
  generalize hx : (s.ask ru nm true).1 = x
  have HX := Lib.hid hx; clear hx
  have H1 := Lib.hid h1; clear h1
  have HZ := Lib.hid hz; clear hz
  have HF1 := Lib.hid hf01; clear hf01 hf1
  unfold Va.v
  go_upto_region 2 with fail
  obtain ⟨W2, HW2⟩ : ∃ W2, W2 = w1.alloc (.cells #[.string x.name, .bool x.buf, .bool x.sec, .bool x.mt, .bool x.own, .bool x.set, .bool x.gone, .int .i64 x.lent, .int .i64 x.loops] 148) := ⟨_, rfl⟩
  rw [← HW2]
  have hx2 : W2.heap[w1.heap.size]? = some (.cells #[.string x.name, .bool x.buf, .bool x.sec, .bool x.mt, .bool x.own, .bool x.set, .bool x.gone, .int .i64 x.lent, .int .i64 x.loops] 148 (0, 0)) := by rw [HW2]; exact blk_new _ _ _
  have hf2 : Fr Non w1 W2 := by rw [HW2]; exact (fr_refl _).alloc _
  clear HW2
  have h2 := H1.out.stay hf2
  have hz2 := blk_fr HZ.out hf2 (non _)
  have hfw := HF1.out.trans hf2.non
  have hb1 : b < w1.heap.size := blk_lt H1.out.blk
  have hz1 : w.heap.size < w1.heap.size := blk_lt HZ.out
  have x3 := (cells_of hx2).1 3 _ rfl
  have HX2 := Lib.hid hx2; clear hx2
  have HZ2 := Lib.hid hz2; clear hz2
  have H2 := Lib.hid h2; clear h2
  have HFW := Lib.hid hfw; clear hfw hf2
  go_wp2_with fail
  refine (bad_any base b PV ru W2 _ ve vg 11 (!x.mt) 8 H2.out).mono ?_
  rintro e W3 ⟨rfl, hf3, h3⟩
  have hx3 := blk_fr HX2.out hf3 (by omega)
  have hz3 := blk_fr HZ2.out hf3 (by omega)
  clear x3
  have x7 := (cells_of hx3).1 7 _ rfl
  have H3 := Lib.hid h3; clear h3
  have HX3 := Lib.hid hx3; clear hx3
  have HZ3 := Lib.hid hz3; clear hz3
  have HF3 := Lib.hid (HFW.out.trans hf3); clear hf3
  go_wp2_with fail
  refine (bad_any base b PV ru W3 _ ve vg 13 _ 130 H3.out).mono ?_
  rintro e W6 ⟨rfl, hf4, h4⟩
  have hx4 := blk_fr HX3.out hf4 (by omega)
  have hz4 := blk_fr HZ3.out hf4 (by omega)
  clear x7
  have y0 := (cells_of hx4).1 0 _ rfl
  have y1 := (cells_of hx4).1 1 _ rfl
  have y2 := (cells_of hx4).1 2 _ rfl
  have y3 := (cells_of hx4).1 3 _ rfl
  have y4 := (cells_of hx4).1 4 _ rfl
  have y5 := (cells_of hx4).1 5 _ rfl
  have y6 := (cells_of hx4).1 6 _ rfl
  have y7 := (cells_of hx4).1 7 _ rfl
  have y8 := (cells_of hx4).1 8 _ rfl
  have y9 := (cells_of hz4).2
  have q0 := (cells_of hz4).1 0 _ rfl
  have q1 := (cells_of hz4).1 1 _ rfl
  have q2 := (cells_of hz4).1 2 _ rfl
  have q3 := (cells_of hz4).1 3 _ rfl
  have q4 := (cells_of hz4).1 4 _ rfl
  have q5 := (cells_of hz4).1 5 _ rfl
  have q6 := (cells_of hz4).1 6 _ rfl
  have q7 := (cells_of hz4).1 7 _ rfl
  have q8 := (cells_of hz4).1 8 _ rfl
  have H6 := Lib.hid h4; clear h4
  clear hx4 hz4
  have HF6 := Lib.hid (HF3.out.trans hf4); clear hf4
  go_wp2_with fail
  have fin : ∀ wz, Fr (fun k => k = w.heap.size) W6 wz → (Ending.returned (Value.agg #[.string x.name, .bool x.buf, .bool x.sec, .bool x.mt, .bool x.own, .bool x.set, .bool x.gone, .int .i64 x.lent, .int .i64 x.loops]) = Ending.returned (s.turned ru nm).1.v ∧ Fr (fun k => k = b) w wz ∧ WkAt base b PV ru wz (s.turned ru nm).2 ve vg) := by
    intro wz hz
    refine ⟨?_, HF6.out.then hz (fun k hk e => by have e : k = w.heap.size := e; omega), ?_⟩
    · show _ = Ending.returned (s.ask ru nm true).1.v
      rw [HX.out]; rfl
    · have h := H6.out.far hz (fun k hk e => by have h1 := (HW.out.lt k hk).2; have e : k = w.heap.size := e; omega)
      rw [Wk.turned, HX.out]
      exact h
  refine bodyPost_ret (v := .agg #[.string x.name, .bool x.buf, .bool x.sec, .bool x.mt, .bool x.own, .bool x.set, .bool x.gone, .int .i64 x.lent, .int .i64 x.loops]) ?_ rfl (fin _ ?_)
  · simp [results, Tryz.results78, go_sem, q0, q1, q2, q3, q4, q5, q6, q7, q8]
  · repeat (refine Fr.setCell ?_ _ _ (.inl rfl))
    exact Fr.refl _ _
end Go.Proofs.YtnlnejpioijkiaaGreatDoor
/- The contract of the reference's walker: is an expression secret. -/
namespace Go.Proofs.YtnlnejpioijkiaaGreatDoor
open Go.RowKit
set_option linter.unusedVariables false
set_option linter.unusedSimpArgs false

mutual
def Wk.sec (ru : Int) : Ex → Wk → Bool × Wk
  | .mk k _ nm o l, s =>
    if k.toNat = 1 then (false, s)
    else if k.toNat = 2 then ((s.ask ru nm false).1.sec, (s.ask ru nm false).2)
    else if k.toNat = 4 then (false, (s.ask ru nm true).2)
    else if k.toNat = 5 then
      ((s.ask ru nm true).1.sec, (Wk.secs ru l (s.ask ru nm true).2).2.bad ru 12 ((Wk.secs ru l (s.ask ru nm true).2).1.getD 0 false) 120)
    else
      ((Wk.secs ru l s).1.getD 0 false || (Wk.secs ru l s).1.getD 1 false,
        (Wk.secs ru l s).2.bad ru 12 (((Wk.secs ru l s).1.getD 0 false || (Wk.secs ru l s).1.getD 1 false) && (o.toNat == 13 || o.toNat == 14)) 120)
def Wk.secs (ru : Int) : List Ex → Wk → List Bool × Wk
  | [], s => ([], s)
  | e :: l, s => ((Wk.sec ru e s).1 :: (Wk.secs ru l (Wk.sec ru e s).2).1, (Wk.secs ru l (Wk.sec ru e s).2).2)
end
theorem ask_env (ru : Int) (s : Wk) (nm : ByteArray) (buf : Bool) : (s.ask ru nm buf).2.env = s.env := by
  simp only [Wk.ask, Wk.askS]
  rw [(bad_env _ _ _ _ _).1, (bad_env _ _ _ _ _).1, (bad_env _ _ _ _ _).1, (bad_env _ _ _ _ _).1]
mutual
theorem sec_env (ru : Int) : ∀ (e : Ex) (s : Wk), (Wk.sec ru e s).2.env = s.env
  | .mk k n nm o l, s => by
    unfold Wk.sec
    split
    · rfl
    · split
      · exact ask_env ru s nm false
      · split
        · exact ask_env ru s nm true
        · split
          · rw [(bad_env _ _ _ _ _).1, secs_env ru l, ask_env]
          · rw [(bad_env _ _ _ _ _).1, secs_env ru l]
theorem secs_env (ru : Int) : ∀ (l : List Ex) (s : Wk), (Wk.secs ru l s).2.env = s.env
  | [], s => rfl
  | e :: l, s => by simp only [Wk.secs]; rw [secs_env ru l, sec_env ru e]
end
theorem field_sec (x : Va) (w : World) : Sem.run Tryz.prog (Instr.field 148 (.agg #[.string x.name, .bool x.buf, .bool x.sec, .bool x.mt, .bool x.own, .bool x.set, .bool x.gone, .int .i64 x.lent, .int .i64 x.loops]) 2) w = .ok (.bool x.sec) w := by
  kernel_rfl
theorem shape_kinds (e : Ex) (hs : shapeM e = true) : e.kind.toNat = 1 ∨ e.kind.toNat = 2 ∨ e.kind.toNat = 4 ∨ (e.kind.toNat = 5 ∧ e.kids.length = 1) ∨ (e.kind.toNat = 3 ∧ e.kids.length = 2) := by
  unfold shapeM at hs
  split at hs
  · omega
  · split at hs
    · omega
    · split at hs
      · simp at hs; omega
      · split at hs
        · simp at hs; omega
        · cases hs
theorem may_shape {k : UInt8} {n : UInt64} {nm : ByteArray} {o : UInt8} {l : List Ex} {d : Nat} (h : Ex.may (.mk k n nm o l) d = true) :
    (k.toNat = 1 ∨ k.toNat = 2 ∨ k.toNat = 4 ∨ (k.toNat = 5 ∧ l.length = 1) ∨ (k.toNat = 3 ∧ l.length = 2)) ∧ ∀ j (hj : j < l.length), Ex.may l[j] (d + 1) = true := by
  simp only [Ex.may, Bool.and_eq_true] at h
  refine ⟨?_, fun j hj => ?_⟩
  · exact shape_kinds _ h.1.2
  · have hm := h.2
    rw [mays_all, List.all_eq_true] at hm
    exact hm _ (List.getElem_mem hj)

set_option maxRecDepth 4000 in
set_option maxHeartbeats 4000000 in
theorem secret_any (N : Nat) : ∀ (k : UInt8) (n : UInt64) (nm : ByteArray) (o : UInt8) (l : List Ex) (d : Nat) (ok : Nat → Prop) (A : Option Addr) (c base b : Nat) (PV : Value) (ru : Int) (w : World) (s : Wk) (ve vg : Value),
   Ex.size (.mk k n nm o l) ≤ N → Ex.may (.mk k n nm o l) d = true → RdRows ok w 5 A 0 (Ex.ds l) → (∀ q, ok q → q ≠ b) → WkAt base b PV ru w s ve vg → s.env.length ≤ 1099511627776 →
   Calls Tryz.prog 75 #[.pointer (some ⟨b, 0, none⟩), exV k n nm o A l.length c] w fun e w' => e = .returned (.bool (Wk.sec ru (.mk k n nm o l) s).1) ∧ Fr (fun q => q = b) w w' ∧ WkAt base b PV ru w' (Wk.sec ru (.mk k n nm o l) s).2 ve vg := by
  induction N with
  | zero => intro k n nm o l d ok A c base b PV ru w s ve vg hN; simp [Ex.size] at hN
  | succ N ih =>
  intro k n nm o l d ok A c base b PV ru w s ve vg hN hmay hr hok h hc
  have hk := k.toNat_lt
  have IH := Lib.hid ih; clear ih
  have HR := Lib.hid hr; clear hr
  have HOK := Lib.hid hok; clear hok
  have HM := Lib.hid hmay
  have HNN := Lib.hid hN; clear hN
  have hb := blk_lt h.blk
  have hf0 : Fr Non w (w.alloc (.cells #[vu8 k, vu64 n, .string nm, vu8 o, .slice A l.length c] 48)) := (fr_refl w).alloc _
  have hbx := blk_new w #[vu8 k, vu64 n, .string nm, vu8 o, .slice A l.length c] 48
  have h0 := h.stay hf0
  have H0 := Lib.hid h0; clear h0 h
  have HBX := Lib.hid hbx; clear hbx
  have HF0 := Lib.hid hf0; clear hf0
  obtain ⟨hs, hkids⟩ := may_shape hmay
  clear hmay
  have HK := Lib.hid hkids; clear hkids
  have HS := Lib.hid hs
  rcases hs with h1 | h1 | h1 | ⟨h1, h2⟩ | ⟨h1, h2⟩
  · have HE := Lib.hid (show Wk.sec ru (.mk k n nm o l) s = (false, s) by rw [Wk.sec, if_pos h1])
    go_enter Tryz.func75, Tryz.ntmps75
    go_wp2_with fail
    go_ret
    rw [HE.out]
    exact ⟨rfl, HF0.out.non, H0.out⟩
  · have HE := Lib.hid (show Wk.sec ru (.mk k n nm o l) s = ((s.ask ru nm false).1.sec, (s.ask ru nm false).2) by rw [Wk.sec, if_neg (by omega), if_pos h1])
    go_enter Tryz.func75, Tryz.ntmps75
    go_wp2_with fail
    refine (ask_any base b PV ru _ s ve vg nm false H0.out hc).mono ?_
    rintro e w1 ⟨rfl, hf1, h1'⟩
    generalize hx : (s.ask ru nm false).1 = x at *
    have HX := Lib.hid hx; clear hx
    unfold Va.v
    have hfd := field_sec x
    go_wp2_with fail
    go_ret
    rw [HE.out]
    exact ⟨rfl, HF0.out.non.trans hf1, h1'⟩
  · have HE := Lib.hid (show Wk.sec ru (.mk k n nm o l) s = (false, (s.ask ru nm true).2) by rw [Wk.sec, if_neg (by omega), if_neg (by omega), if_pos h1])
    go_enter Tryz.func75, Tryz.ntmps75
    go_wp2_with fail
    refine (ask_any base b PV ru _ s ve vg nm true H0.out hc).mono ?_
    rintro e w1 ⟨rfl, hf1, h1'⟩
    go_wp2_with fail
    go_ret
    rw [HE.out]
    exact ⟨rfl, HF0.out.non.trans hf1, h1'⟩
  · obtain ⟨e1, rfl⟩ : ∃ e1, l = [e1] := by
      cases l with
      | nil => simp at h2
      | cons e1 l => cases l with
        | nil => exact ⟨e1, rfl⟩
        | cons _ _ => simp at h2
    have HE := Lib.hid (show Wk.sec ru (.mk k n nm o [e1]) s = ((s.ask ru nm true).1.sec, (Wk.sec ru e1 (s.ask ru nm true).2).2.bad ru 12 (Wk.sec ru e1 (s.ask ru nm true).2).1 120) by rw [Wk.sec, if_neg (by omega), if_neg (by omega), if_neg (by omega), if_pos h1]; rfl)
    clear h2
    go_enter Tryz.func75, Tryz.ntmps75
    go_wp2_with fail
    refine (ask_any base b PV ru _ s ve vg nm true H0.out hc).mono ?_
    rintro e w1 ⟨rfl, hf1, h1'⟩
    have hbx1 := blk_fr HBX.out hf1 (by omega)
    have hsz := blk_lt hbx1
    have hf01 := HF0.out.non.trans hf1
    have henv := ask_env ru s nm true
    generalize hx : (s.ask ru nm true).1 = x at *
    generalize hs1 : (s.ask ru nm true).2 = s1 at *
    have HX := Lib.hid hx; clear hx
    have HS1 := Lib.hid hs1; clear hs1
    have HEN := Lib.hid henv; clear henv
    obtain ⟨b1, o1, A1, c1, rfl, hb1, e0, e1', e2, e3, e4, p1, p2, p3⟩ := at_ex (HR.out.fr hf01 (fun q hq e => HOK.out q hq e) (fun _ h => h)) 0 (by simp)
    simp only [List.getElem_cons_zero, Nat.zero_mul, Nat.add_zero] at e0 e1' e2 e3 e4 p1 p2 p3
    have P3 := Lib.hid p3; clear p3
    have HF1 := Lib.hid hf01; clear hf01
    have H1 := Lib.hid h1'; clear h1' hf1
    have HB1 := Lib.hid hbx1
    have hlt1 : b1 < w1.heap.size := World.block_lt_of_cell? _ _ e0
    have z4 := (cells_of hbx1).1 4 _ rfl
    clear hbx1
    have hbw : b < w1.heap.size := blk_lt H1.out.blk
    unfold Va.v
    go_wp2_with fail
    have hal : Fr Non w1 (w1.alloc (.cells #[.string x.name, .bool x.buf, .bool x.sec, .bool x.mt, .bool x.own, .bool x.set, .bool x.gone, .int .i64 x.lent, .int .i64 x.loops] 148)) := (fr_refl _).alloc _
    have hv2 := blk_new w1 #[.string x.name, .bool x.buf, .bool x.sec, .bool x.mt, .bool x.own, .bool x.set, .bool x.gone, .int .i64 x.lent, .int .i64 x.loops] 148
    have HV2 := Lib.hid hv2; clear hv2
    have HAL := Lib.hid hal; clear hal
    refine (IH.out e1.kind e1.num e1.name e1.op e1.kids (d + 1) ok A1 c1 base b PV ru _ s1 ve vg (by have := HNN.out; rw [ex_eta]; simp [Ex.size, Ex.sizes] at this; omega) (by rw [ex_eta]; exact HK.out 0 (by simp)) (P3.out.fr HAL.out (fun _ _ => non _) (fun _ h => h)) HOK.out (H1.out.stay HAL.out) (by rw [HEN.out]; exact hc)).mono ?_
    rw [ex_eta]
    rintro e w3 ⟨rfl, hf3, h3⟩
    have hv3 := blk_fr HV2.out hf3 (by omega)
    have hvl := blk_lt hv3
    have HV3 := Lib.hid hv3; clear hv3
    clear e0 e1' e2 e3 e4 z4
    go_wp2_with fail
    refine (bad_any base b PV ru w3 _ ve vg 12 _ 120 h3).mono ?_
    rintro e w4 ⟨rfl, hf4, h4⟩
    have v2 := (cells_of (blk_fr HV3.out hf4 (by omega))).1 2 _ rfl
    have HF4 := Lib.hid (((HF1.out.trans HAL.out.non).trans hf3).trans hf4); clear hf3 hf4
    have H4 := Lib.hid h4; clear h4 h3
    go_wp2_with fail
    go_ret
    rw [HE.out]
    exact ⟨rfl, HF4.out, H4.out⟩
  · obtain ⟨e1, e2, rfl⟩ : ∃ e1 e2, l = [e1, e2] := by
      match l, h2 with
      | [e1, e2], _ => exact ⟨e1, e2, rfl⟩
    have HE := Lib.hid (show Wk.sec ru (.mk k n nm o [e1, e2]) s = ((Wk.sec ru e1 s).1 || (Wk.sec ru e2 (Wk.sec ru e1 s).2).1, (Wk.sec ru e2 (Wk.sec ru e1 s).2).2.bad ru 12 (((Wk.sec ru e1 s).1 || (Wk.sec ru e2 (Wk.sec ru e1 s).2).1) && (o.toNat == 13 || o.toNat == 14)) 120) by rw [Wk.sec, if_neg (by omega), if_neg (by omega), if_neg (by omega), if_neg (by omega)]; rfl)
    clear h2
    go_enter Tryz.func75, Tryz.ntmps75
    go_upto_region 13 with fail
    obtain ⟨W0, HW0⟩ : ∃ W0, W0 = w.alloc (.cells #[vu8 k, vu64 n, .string nm, vu8 o, .slice A 2 c] 48) := ⟨_, rfl⟩
    have hbx : W0.heap[w.heap.size]? = some (.cells #[vu8 k, vu64 n, .string nm, vu8 o, .slice A 2 c] 48 (0, 0)) := by rw [HW0]; exact blk_new _ _ _
    have hf0 : Fr Non w W0 := by rw [HW0]; exact (fr_refl w).alloc _
    have h0 : WkAt base b PV ru W0 s ve vg := by rw [HW0]; exact H0.out
    rw [show (w.alloc (.cells #[vu8 k, vu64 n, .string nm, vu8 o, .slice A 2 c] 48)) = W0 from HW0.symm]
    clear HW0 H0 HBX HF0
    have HBX := Lib.hid hbx
    have HF0 := Lib.hid hf0
    have H0 := Lib.hid h0; clear h0
    have z4 := (cells_of hbx).1 4 _ rfl
    clear hbx
    obtain ⟨b1, o1, A1, c1, hA, hb1, x0, x1, x2, x3, x4, p1, p2, p3⟩ := at_ex (HR.out.fr hf0 (fun _ _ => non _) (fun _ h => h)) 0 (by simp)
    obtain ⟨b1', o1', A2, c2, hA', _, y0, y1, y2, y3, y4, q1, q2, q3⟩ := at_ex (HR.out.fr hf0 (fun _ _ => non _) (fun _ h => h)) 1 (by simp)
    obtain ⟨rfl, rfl⟩ : b1 = b1' ∧ o1 = o1' := by rw [hA] at hA'; cases hA'; exact ⟨rfl, rfl⟩
    subst hA
    clear hf0 hA'
    simp only [List.getElem_cons_zero, List.getElem_cons_succ, Nat.zero_mul, Nat.one_mul, Nat.add_zero] at x0 x1 x2 x3 x4 p1 p2 p3 y0 y1 y2 y3 y4 q1 q2 q3
    have hS : ∀ w', Fr (fun q => q = b) W0 w' → w'.cell? ⟨w.heap.size, 4, none⟩ = some (.slice (some ⟨b1, o1, none⟩) 2 c) ∧ w'.cell? ⟨b1, o1, none⟩ = some (vu8 e1.kind) ∧ w'.cell? ⟨b1, o1 + 1, none⟩ = some (vu64 e1.num) ∧ w'.cell? ⟨b1, o1 + 2, none⟩ = some (.string e1.name) ∧ w'.cell? ⟨b1, o1 + 3, none⟩ = some (vu8 e1.op) ∧ w'.cell? ⟨b1, o1 + 4, none⟩ = some (.slice A1 e1.kids.length c1) ∧ w'.cell? ⟨b1, o1 + 5, none⟩ = some (vu8 e2.kind) ∧ w'.cell? ⟨b1, o1 + 5 + 1, none⟩ = some (vu64 e2.num) ∧ w'.cell? ⟨b1, o1 + 5 + 2, none⟩ = some (.string e2.name) ∧ w'.cell? ⟨b1, o1 + 5 + 3, none⟩ = some (vu8 e2.op) ∧ w'.cell? ⟨b1, o1 + 5 + 4, none⟩ = some (.slice A2 e2.kids.length c2) := fun w' hf =>
      ⟨hf.cell' z4 (fun e => by have e : w.heap.size = b := e; omega), hf.cell' x0 (HOK.out b1 hb1), hf.cell' x1 (HOK.out b1 hb1), hf.cell' x2 (HOK.out b1 hb1), hf.cell' x3 (HOK.out b1 hb1), hf.cell' x4 (HOK.out b1 hb1), hf.cell' y0 (HOK.out b1 hb1), hf.cell' y1 (HOK.out b1 hb1), hf.cell' y2 (HOK.out b1 hb1), hf.cell' y3 (HOK.out b1 hb1), hf.cell' y4 (HOK.out b1 hb1)⟩
    have HSS := Lib.hid hS; clear hS
    have P3 := Lib.hid p3; clear p3
    have Q3 := Lib.hid q3; clear q3
    clear z4 x0 x1 x2 x3 x4 y0 y1 y2 y3 y4
    go_region_held3 (fun w' => w'.cell? ⟨w.heap.size, 4, none⟩ = some (.slice (some ⟨b1, o1, none⟩) 2 c) ∧ w'.cell? ⟨b1, o1, none⟩ = some (vu8 e1.kind) ∧ w'.cell? ⟨b1, o1 + 1, none⟩ = some (vu64 e1.num) ∧ w'.cell? ⟨b1, o1 + 2, none⟩ = some (.string e1.name) ∧ w'.cell? ⟨b1, o1 + 3, none⟩ = some (vu8 e1.op) ∧ w'.cell? ⟨b1, o1 + 4, none⟩ = some (.slice A1 e1.kids.length c1) ∧ w'.cell? ⟨b1, o1 + 5, none⟩ = some (vu8 e2.kind) ∧ w'.cell? ⟨b1, o1 + 5 + 1, none⟩ = some (vu64 e2.num) ∧ w'.cell? ⟨b1, o1 + 5 + 2, none⟩ = some (.string e2.name) ∧ w'.cell? ⟨b1, o1 + 5 + 3, none⟩ = some (vu8 e2.op) ∧ w'.cell? ⟨b1, o1 + 5 + 4, none⟩ = some (.slice A2 e2.kids.length c2)) (first | exact HSS.out _ (fr_refl W0).drew.non | exact HSS.out _ ((fr_refl W0).drew.non.trans hf2) | exact HSS.out _ (((fr_refl W0).drew.non.trans hf2).trans hf3))
      (first
        | (go_at_call 75; refine (IH.out e2.kind e2.num e2.name e2.op e2.kids (d + 1) ok A2 c2 base b PV ru w2 (Wk.sec ru e1 s).2 ve vg (by have := HNN.out; rw [ex_eta]; simp [Ex.size, Ex.sizes] at this; omega) (by rw [ex_eta]; exact HK.out 1 (by simp)) (Q3.out.fr ((fr_refl W0).drew.non.trans hf2) (fun q hq e => HOK.out q hq e) (fun _ h => h)) HOK.out h2 (by rw [sec_env]; exact hc)).mono ?_; rw [ex_eta]; rintro e w3 ⟨rfl, hf3, h3⟩)
        | (go_at_call 75; refine (IH.out e1.kind e1.num e1.name e1.op e1.kids (d + 1) ok A1 c1 base b PV ru W0.drew s ve vg (by have := HNN.out; rw [ex_eta]; simp [Ex.size, Ex.sizes] at this; omega) (by rw [ex_eta]; exact HK.out 0 (by simp)) (P3.out.fr (fr_refl W0).drew (fun _ _ => non _) (fun _ h => h)) HOK.out (H0.out.stay (fr_refl W0).drew) hc).mono ?_; rw [ex_eta]; rintro e w2 ⟨rfl, hf2, h2⟩))
    have hx3 := (cells_of (blk_fr HBX.out (((fr_refl W0).drew.non.trans hf2).trans hf3) (by omega))).1 3 _ rfl
    generalize hq1 : (Wk.sec ru e1 s).1 = a1 at *
    generalize hq2 : (Wk.sec ru e2 (Wk.sec ru e1 s).2).1 = a2 at *
    have HF3 := Lib.hid (HF0.out.non.trans (((fr_refl W0).drew.non.trans hf2).trans hf3)); clear hf2 hf3
    have H3 := Lib.hid h3; clear h3 h2
    have HQ1 := Lib.hid hq1; clear hq1
    have HQ2 := Lib.hid hq2; clear hq2
    obtain ⟨dv, hdv⟩ : ∃ dv, dv = (o.toNat == 13 || o.toNat == 14) := ⟨_, rfl⟩
    have HD := Lib.hid hdv
    have hdv13 : ((o.toNat : Int) == 13) = (o.toNat == 13) := by rw [Bool.eq_iff_iff]; simp; omega
    have hdv14 : ((o.toNat : Int) == 14) = (o.toNat == 14) := by rw [Bool.eq_iff_iff]; simp; omega
    cases h13 : (o.toNat == 13) <;> cases h14 : (o.toNat == 14) <;> rw [h13] at hdv hdv13 <;> rw [h14] at hdv hdv14 <;> clear h13 h14 <;> subst hdv <;> cases a1 <;> cases a2
    all_goals
      go_wp2_with fail
      refine (bad_any base b PV ru w3 _ ve vg 12 _ 120 H3.out).mono ?_
      rintro e w4 ⟨rfl, hf4, h4⟩
      go_wp2_with fail
      go_ret
      rw [HE.out, ← HD.out]
      exact ⟨rfl, HF3.out.trans hf4, h4⟩
end Go.Proofs.YtnlnejpioijkiaaGreatDoor
/- Contracts of the reference's walker: expressions that have to be public, or open. -/
namespace Go.Proofs.YtnlnejpioijkiaaGreatDoor
open Go.RowKit
set_option linter.unusedVariables false
set_option linter.unusedSimpArgs false

def Wk.pub (ru : Int) (s : Wk) (e : Ex) : Wk := (Wk.sec ru e s).2.bad ru 12 (Wk.sec ru e s).1 120
def Wk.opn (ru : Int) (s : Wk) (e : Ex) (sec : Bool) : Wk := (Wk.sec ru e s).2.bad ru 12 ((Wk.sec ru e s).1 && !sec) 120

theorem sec_any (e : Ex) (d : Nat) (ok : Nat → Prop) (A : Option Addr) (c base b : Nat) (PV : Value) (ru : Int) (w : World) (s : Wk) (ve vg : Value)
   (hm : Ex.may e d = true) (hr : RdRows ok w 5 A 0 (Ex.ds e.kids)) (hok : ∀ q, ok q → q ≠ b) (h : WkAt base b PV ru w s ve vg) (hc : s.env.length ≤ 1099511627776) :
   Calls Tryz.prog 75 #[.pointer (some ⟨b, 0, none⟩), exV e.kind e.num e.name e.op A e.kids.length c] w fun r w' => r = .returned (.bool (Wk.sec ru e s).1) ∧ Fr (fun q => q = b) w w' ∧ WkAt base b PV ru w' (Wk.sec ru e s).2 ve vg := by
  have := secret_any e.size e.kind e.num e.name e.op e.kids d ok A c base b PV ru w s ve vg (by rw [ex_eta]; exact Nat.le_refl _) (by rw [ex_eta]; exact hm) hr hok h hc
  rw [ex_eta] at this
  exact this

set_option maxHeartbeats 1000000 in
theorem public_any (e : Ex) (d : Nat) (ok : Nat → Prop) (A : Option Addr) (c base b : Nat) (PV : Value) (ru : Int) (w : World) (s : Wk) (ve vg : Value)
   (hm : Ex.may e d = true) (hr : RdRows ok w 5 A 0 (Ex.ds e.kids)) (hok : ∀ q, ok q → q ≠ b) (h : WkAt base b PV ru w s ve vg) (hc : s.env.length ≤ 1099511627776) :
   Calls Tryz.prog 77 #[.pointer (some ⟨b, 0, none⟩), exV e.kind e.num e.name e.op A e.kids.length c] w fun r w' => r = .returned (.tuple #[]) ∧ Fr (fun q => q = b) w w' ∧ WkAt base b PV ru w' (s.pub ru e) ve vg := by
  have hf0 : Fr Non w (w.alloc (.cells #[vu8 e.kind, vu64 e.num, .string e.name, vu8 e.op, .slice A e.kids.length c] 48)) := (fr_refl w).alloc _
  have h0 := h.stay hf0
  have hr0 := hr.fr hf0 (fun _ _ => non _) (fun _ h => h)
  have H0 := Lib.hid h0; clear h0 h
  have HR := Lib.hid hr0; clear hr0 hr
  have HF0 := Lib.hid hf0; clear hf0
  have HOK := Lib.hid hok; clear hok
  have HM := Lib.hid hm; clear hm
  go_enter Tryz.func77, Tryz.ntmps77
  go_wp2_with fail
  refine (sec_any e d ok A c base b PV ru _ s ve vg HM.out HR.out HOK.out H0.out hc).mono ?_
  rintro r w2 ⟨rfl, hf2, h2⟩
  go_wp2_with fail
  refine (bad_any base b PV ru w2 _ ve vg 12 _ 120 h2).mono ?_
  rintro r w3 ⟨rfl, hf3, h3⟩
  go_wp2_with fail
  go_end0
  exact ⟨rfl, (HF0.out.non.trans hf2).trans hf3, h3⟩

set_option maxHeartbeats 1000000 in
theorem open_any (e : Ex) (sec : Bool) (d : Nat) (ok : Nat → Prop) (A : Option Addr) (c base b : Nat) (PV : Value) (ru : Int) (w : World) (s : Wk) (ve vg : Value)
   (hm : Ex.may e d = true) (hr : RdRows ok w 5 A 0 (Ex.ds e.kids)) (hok : ∀ q, ok q → q ≠ b) (h : WkAt base b PV ru w s ve vg) (hc : s.env.length ≤ 1099511627776) :
   Calls Tryz.prog 50 #[.pointer (some ⟨b, 0, none⟩), exV e.kind e.num e.name e.op A e.kids.length c, .bool sec] w fun r w' => r = .returned (.tuple #[]) ∧ Fr (fun q => q = b) w w' ∧ WkAt base b PV ru w' (s.opn ru e sec) ve vg := by
  have hf0 : Fr Non w (w.alloc (.cells #[vu8 e.kind, vu64 e.num, .string e.name, vu8 e.op, .slice A e.kids.length c] 48)) := (fr_refl w).alloc _
  have h0 := h.stay hf0
  have hr0 := hr.fr hf0 (fun _ _ => non _) (fun _ h => h)
  have H0 := Lib.hid h0; clear h0 h
  have HR := Lib.hid hr0; clear hr0 hr
  have HF0 := Lib.hid hf0; clear hf0
  have HOK := Lib.hid hok; clear hok
  have HM := Lib.hid hm; clear hm
  go_enter Tryz.func50, Tryz.ntmps50
  go_wp2_with fail
  refine (sec_any e d ok A c base b PV ru _ s ve vg HM.out HR.out HOK.out H0.out hc).mono ?_
  rintro r w2 ⟨rfl, hf2, h2⟩
  generalize hx : (Wk.sec ru e s).1 = x
  have HE := Lib.hid (show s.opn ru e sec = (Wk.sec ru e s).2.bad ru 12 (x && !sec) 120 by rw [Wk.opn, hx]); clear hx
  have H2 := Lib.hid h2; clear h2
  cases x <;> cases sec
  all_goals
    go_wp2_with fail
    refine (bad_any base b PV ru w2 _ ve vg 12 _ 120 H2.out).mono ?_
    rintro r w3 ⟨rfl, hf3, h3⟩
    go_wp2_with fail
    go_end0
    rw [HE.out]
    exact ⟨rfl, (HF0.out.non.trans hf2).trans hf3, h3⟩
end Go.Proofs.YtnlnejpioijkiaaGreatDoor
/- The contract of the reference's walker: a function by its name. -/
namespace Go.Proofs.YtnlnejpioijkiaaGreatDoor
open Go.RowKit
set_option linter.unusedVariables false
set_option linter.unusedSimpArgs false

def Fu.in (ok : Nat → Prop) (w : World) (f : Fu) (u : Value) : Prop :=
  ∃ A1 c1 A2 c2 A3 c3, u = .agg #[.string f.name, .slice A1 f.params.length c1, .slice A2 f.body.length c2, .bool f.sec, .slice A3 f.ret.length c3] ∧
    RdRows ok w 4 A1 0 (f.params.map Pa.d) ∧ f.params.length * 24 ≤ reach ∧ f.params.length ≤ c1
def FoundF (ok : Nat → Prop) (o : Option Fu) (e : Ending) (w' : World) : Prop := match o with
  | some f => ∃ u, e = .returned (.tuple #[u, .bool true]) ∧ f.in ok w' u
  | none => e = .returned (.tuple #[.agg #[.string ⟨#[]⟩, .slice none 0 0, .slice none 0 0, .bool false, .slice none 0 0], .bool false])
theorem fr_swap (w : World) (X X' : Obj) : Fr (fun q => q = w.heap.size) (w.alloc X) (w.alloc X') := ⟨rfl, rfl, rfl, by simp, fun k hk hs => by
  have h1 : k < w.heap.size := by
    have h2 : k ≠ w.heap.size := hs
    simp at hk; omega
  rw [Below.heap_alloc _ _ _ h1, Below.heap_alloc _ _ _ h1]⟩
theorem ffind_some {l : List Fu} {nm : ByteArray} (k : Nat) (hk : k < l.length) (hq : sq l[k].name nm = true) (hno : ∀ j, j < k → ∀ hj : j < l.length, sq l[j].name nm = false) (F : Nat) (hF : k < F) : ((l.take F).find? fun v => sq v.name nm) = some l[k] := by
  induction l generalizing k F with
  | nil => simp at hk
  | cons v l ih =>
    obtain ⟨F, rfl⟩ : ∃ F', F = F' + 1 := ⟨F - 1, by omega⟩
    cases k with
    | zero => simp at hq; simp [hq]
    | succ k =>
      have h0 := hno 0 (by omega) (by simp)
      simp at h0
      rw [List.take_succ_cons, List.find?_cons_of_neg (by simp [h0])]
      exact ih k (by simpa using hk) (by simpa using hq) (fun j hj hj' => by have := hno (j + 1) (by omega) (by simpa using hj'); simpa using this) F (by omega)
theorem ffind_none {l : List Fu} {nm : ByteArray} (F : Nat) (hno : ∀ j, j < F → ∀ hj : j < l.length, sq l[j].name nm = false) : ((l.take F).find? fun v => sq v.name nm) = none := by
  rw [List.find?_eq_none]
  intro v hv
  obtain ⟨j, hj, rfl⟩ := List.mem_iff_getElem.1 hv
  rw [List.length_take] at hj
  rw [List.getElem_take]
  simp [hno j (by omega) (by omega)]

set_option maxRecDepth 4000 in
set_option maxHeartbeats 2000000 in
theorem func_any (base b : Nat) (PA : Option Addr) (pc : Nat) (ru : Int) (w : World) (s : Wk) (ve vg : Value) (nm : ByteArray) (l : List Fu) (ok : Nat → Prop) (F : Nat) (h : WkAt base b (.slice PA l.length pc) ru w s ve vg) (hF : s.f = (F : Int)) (hFl : F ≤ l.length)
   (hr : RdRows ok w 5 PA 0 (l.map Fu.d)) (hc : l.length * 96 ≤ reach) (hok : ∀ q, ok q → q < w.heap.size) :
   Calls Tryz.prog 111 #[.pointer (some ⟨b, 0, none⟩), .string nm] w fun e w' => Fr Non w w' ∧ FoundF ok ((l.take F).find? fun f => sq f.name nm) e w' := by
  have hlen : l.length ≤ 140737488355328 := by unfold reach at hc; omega
  have hf0 : Fr Non w (w.alloc (.cells #[.string ⟨#[]⟩, .slice none 0 0, .slice none 0 0, .bool false, .slice none 0 0] 44)) := (fr_refl w).alloc _
  have hb2 := blk_fr h.blk hf0 (non _)
  rw [hF] at hb2
  have b0 := (cells_of hb2).1 0 _ rfl
  have b1 := (cells_of hb2).1 1 _ rfl
  have hr0 := hr.fr hf0 (fun _ _ => non _) (fun _ h => h)
  have HB := Lib.hid hb2; clear hb2
  have HR := Lib.hid hr0; clear hr0 hr
  have HH := Lib.hid h; clear h
  have HF0 := Lib.hid hf0; clear hf0
  have HSF := Lib.hid hF; clear hF
  have HOK := Lib.hid hok; clear hok
  go_enter Tryz.func111, Tryz.ntmps111
  go_wp2_with fail
  go_loop [6] (fun i => ∃ k : Nat, i = .int .i64 k ∧ k ≤ F ∧ ∀ j, j < k → ∀ hj : j < l.length, sq l[j].name nm = false) (fun i => F - (intOf i).toNat)
  case atStart => exact ⟨0, rfl, by omega, fun j hj => by omega⟩
  case round =>
    obtain ⟨k, rfl, hk, hno⟩ := hrel
    have HN := Lib.hid hno; clear hno
    by_cases hlt : k < F
    · obtain ⟨d, o1, A1, c1, A2, c2, A3, c3, rfl, hd, e0, e1, e2, e3, e4, ⟨p1, q1, r1⟩, ⟨p2, q2, r2⟩, ⟨p3, q3, r3⟩⟩ := at_fu HR.out k (by omega)
      have R1 := Lib.hid r1; clear r1
      clear r2 r3
      cases hq : sq l[k].name nm with
      | true =>
        have hq' := hq; rw [← tosq] at hq'
        have HQ := Lib.hid hq; clear hq
        go_wp2_with fail
        refine bodyPost_ret (v := .tuple #[.agg #[.string l[k].name, .slice A1 l[k].params.length c1, .slice A2 l[k].body.length c2, .bool l[k].sec, .slice A3 l[k].ret.length c3], .bool true]) ?_ rfl ?_
        · simp [results, Tryz.results111, go_sem]
        · have hfw : ∀ wz, Fr (fun q => q = w.heap.size) w wz → True := fun _ _ => trivial
          refine ⟨?_, ?_⟩
          · first
              | exact (fr_refl w).alloc _
              | (repeat (refine Fr.setCell ?_ _ _ (.inr (Nat.le_refl _))); exact (fr_refl w).alloc _)
          · rw [ffind_some k (by omega) HQ.out HN.out F hlt]
            refine ⟨_, rfl, A1, c1, A2, c2, A3, c3, rfl, ?_, q1, p1⟩
            first
              | exact R1.out.fr (fr_refl _) (fun _ _ => non _) (fun _ h => h)
              | exact R1.out.fr (fr_swap _ _ _) (fun q hq e => by have h1 := HOK.out q hq; have e : q = w.heap.size := e; omega) (fun _ h => h)
      | false =>
        have hq' := hq; rw [← tosq] at hq'
        have HQ := Lib.hid hq; clear hq
        go_wp2_with fail
        go_round
        case rel => exact ⟨k + 1, by go_num, by omega, till HN.out fun _ => HQ.out⟩
        case measure => simp [intOf]; omega
    · go_wp2_with fail
      refine bodyPost_ret (v := .tuple #[.agg #[.string ⟨#[]⟩, .slice none 0 0, .slice none 0 0, .bool false, .slice none 0 0], .bool false]) ?_ rfl ?_
      · simp [results, Tryz.results111, go_sem]
      · refine ⟨?_, ?_⟩
        · first
            | exact (fr_refl w).alloc _
            | (repeat (refine Fr.setCell ?_ _ _ (.inr (Nat.le_refl _))); exact (fr_refl w).alloc _)
        · rw [ffind_none F fun j hj hj' => HN.out j (by omega) hj']
          rfl
end Go.Proofs.YtnlnejpioijkiaaGreatDoor
/- The contract of the reference's walker: seal. -/
namespace Go.Proofs.YtnlnejpioijkiaaGreatDoor
open Go.RowKit
set_option linter.unusedVariables false
set_option linter.unusedSimpArgs false

def Wk.sealE (ru : Int) (s : Wk) (l : List Va) : Wk := l.foldl (fun s v => s.bad ru 12 (!v.buf && v.sec) 120) s
def Wk.sealed (ru : Int) (s : Wk) (n : Int) : Wk := (s.bad ru 11 (s.f != n - 1) 8).sealE ru s.env
theorem sealE_snoc (ru : Int) (s : Wk) (l : List Va) (v : Va) : s.sealE ru (l ++ [v]) = (s.sealE ru l).bad ru 12 (!v.buf && v.sec) 120 := by simp [Wk.sealE]
theorem sealE_env (ru : Int) (l : List Va) : ∀ s : Wk, (s.sealE ru l).env = s.env := by
  induction l with
  | nil => intro s; rfl
  | cons v l ih => intro s; show ((s.bad ru 12 (!v.buf && v.sec) 120).sealE ru l).env = s.env; rw [ih, (bad_env _ _ _ _ _).1]

set_option maxRecDepth 4000 in
set_option maxHeartbeats 2000000 in
theorem seal_any (base b : Nat) (PA : Option Addr) (pn pc : Nat) (ru : Int) (w : World) (s : Wk) (ve vg : Value) (h : WkAt base b (.slice PA pn pc) ru w s ve vg) (hc : s.env.length ≤ 1099511627776) (hpn : pn ≤ 140737488355328) :
   Calls Tryz.prog 84 #[.pointer (some ⟨b, 0, none⟩)] w fun e w' => e = .returned (.tuple #[]) ∧ Fr (fun q => q = b) w w' ∧ WkAt base b (.slice PA pn pc) ru w' (s.sealed ru pn) ve vg := by
  obtain ⟨Ae, ce, rfl, hlce⟩ := row_slice h.env
  have b0 := (cells_of h.blk).1 0 _ rfl
  have b1 := (cells_of h.blk).1 1 _ rfl
  have H := Lib.hid h; clear h
  go_enter Tryz.func84, Tryz.ntmps84
  go_wp2_with fail
  go_still_tail 13, (by kernel_rfl)
  change wpList _ _ _ _ _ w.drew
  have h1 := H.out.stay (fr_refl w).drew
  have H1 := Lib.hid h1; clear h1
  go_wp2_with fail
  refine (bad_any base b (.slice PA pn pc) ru w.drew s (.slice Ae s.env.length ce) vg 11 _ 8 H1.out).mono ?_
  rintro e w2 ⟨rfl, hf2, h2⟩
  obtain ⟨s1, hs1⟩ : ∃ s1, s1 = s.bad ru 11 (s.f != (pn : Int) - 1) 8 := ⟨_, rfl⟩
  have he1 : s1.env = s.env := by rw [hs1]; exact (bad_env _ _ _ _ _).1
  have h2' : WkAt base b (.slice PA pn pc) ru w2 s1 (.slice Ae s.env.length ce) vg := by rw [hs1]; exact h2
  have HS1 := Lib.hid hs1; clear hs1 h2
  have HE1 := Lib.hid he1; clear he1
  have H2 := Lib.hid h2'; clear h2'
  have HF2 := Lib.hid ((fr_refl w).drew.non.trans hf2); clear hf2 b0 b1
  go_wp2_with fail
  go_loopw [2] (fun i wr => ∃ k : Nat, i = .int .i64 k ∧ k ≤ s.env.length ∧ Fr (fun q => q = b) w wr ∧ WkAt base b (.slice PA pn pc) ru wr (s1.sealE ru (s.env.take k)) (.slice Ae s.env.length ce) vg) (fun i _ => s.env.length - (intOf i).toNat)
  case atStart => exact ⟨0, rfl, by omega, HF2.out, H2.out⟩
  case round =>
    obtain ⟨k, rfl, hk, hfr, hw⟩ := hrel
    have b2 := (cells_of hw.blk).1 2 _ rfl
    have HW := Lib.hid hw; clear hw
    have HF := Lib.hid hfr; clear hfr
    by_cases hlt : k < s.env.length
    · have henv := HW.out.env
      rw [sealE_env, HE1.out] at henv
      obtain ⟨g, rfl, hg, hcell⟩ := row_at henv (by omega)
      obtain ⟨⟨v0, v1, v2, _⟩, _⟩ := va_cells hcell k hlt
      clear hcell henv v0
      cases hbf : s.env[k].buf <;> rw [hbf] at v1
      all_goals
        have HBF := Lib.hid hbf; clear hbf
        go_wp2_with fail
        refine (bad_any base b (.slice PA pn pc) ru wr _ _ vg 12 _ 120 HW.out).mono ?_
        rintro e w3 ⟨rfl, hf3, h3⟩
        go_wp2_with fail
        go_roundw
        case rel => exact ⟨k + 1, by go_num, by omega, HF.out.trans hf3, by rw [take_snoc _ _ hlt, sealE_snoc, HBF.out]; exact h3⟩
        case measure => simp [intOf]; omega
    · obtain rfl : k = s.env.length := by omega
      go_wp2_with fail
      go_end0
      have h := HW.out
      rw [List.take_length, HS1.out] at h
      exact ⟨rfl, HF.out, h⟩
end Go.Proofs.YtnlnejpioijkiaaGreatDoor
/- The reference walker of layers 10 to 14, as plain functions. -/
namespace Go.Proofs.YtnlnejpioijkiaaGreatDoor
open Go.RowKit
set_option linter.unusedVariables false
set_option linter.unusedSimpArgs false
/-! ### The reference's walker, as functions -/
def Pa.zero : Pa := ⟨⟨#[]⟩, false, false, false⟩
def Fu.zero : Fu := ⟨⟨#[]⟩, [], [], false, []⟩
def Wk.func (P : List Fu) (s : Wk) (nm : ByteArray) : Option Fu := (P.take s.f.toNat).find? fun f => sq f.name nm
def Ex.zero : Ex := .mk 0 0 ⟨#[]⟩ 0 []
def nob : ByteArray := ⟨#[]⟩
def Wk.lentN (ru : Int) (args : List ByteArray) (k : Nat) (mt : Bool) (s : Wk) : Nat → Wk
  | 0 => s
  | j + 1 => (Wk.lentN ru args k mt s j).bad ru 13 (j != k && sq (args.getD j nob) (args.getD k nob) && mt) 130
def Wk.hand1 (ru : Int) (args : List ByteArray) (k : Nat) (s : Wk) (x : Pa) : Wk :=
  let v := (s.find (args.getD k nob)).getD Va.zero
  Wk.lentN ru args k x.mt (((s.bad ru 11 (x.mt && !v.mt) 8).bad ru 12 (x.sec != v.sec) 120).bad ru 13 (x.mt && v.lent == 1) 130) args.length
def Wk.handN (ru : Int) (ps : List Pa) (args : List ByteArray) (s : Wk) : Nat → Nat × Wk
  | 0 => (0, s)
  | i + 1 =>
    let r := Wk.handN ru ps args s i
    if !(ps.getD i Pa.zero).buf || decide (args.length ≤ r.1) then r else (r.1 + 1, Wk.hand1 ru args r.1 r.2 (ps.getD i Pa.zero))
def Wk.handed (ru : Int) (ps : List Pa) (args : List ByteArray) (s : Wk) : Wk :=
  (Wk.handN ru ps args s ps.length).2.bad ru 11 ((Wk.handN ru ps args s ps.length).1 != args.length) 8
def Wk.callN (ru : Int) (ps : List Pa) (ex : List Ex) (s : Wk) : Nat → Nat × Nat × Wk
  | 0 => (0, 0, s)
  | i + 1 =>
    let r := Wk.callN ru ps ex s i
    if (ps.getD i Pa.zero).buf then (r.1, r.2.1 + 1, r.2.2)
    else (r.1 + 1, r.2.1, if r.1 < ex.length then r.2.2.opn ru (ex.getD r.1 Ex.zero) (ps.getD i Pa.zero).sec else r.2.2)
def Wk.secN (ru : Int) (ex : List Ex) (n : Nat) (s : Wk) : Nat → Wk
  | 0 => s
  | i + 1 => (Wk.sec ru (ex.getD (n + i) Ex.zero) (Wk.secN ru ex n s i)).2
def Wk.askN (ru : Int) (args : List ByteArray) (s : Wk) : Nat → Wk
  | 0 => s
  | i + 1 => ((Wk.askN ru args s i).ask ru (args.getD i nob) true).2
def Va.num (nm : ByteArray) (sec set : Bool) : Va := ⟨nm, false, sec, false, false, set, false, 0, 0⟩
def Va.bufv (nm : ByteArray) (sec mt own : Bool) : Va := ⟨nm, true, sec, mt, own, false, false, 0, 0⟩
def Wk.call2 (ru : Int) (f : Option Fu) (nm : ByteArray) (ex : List Ex) (args : List ByteArray) (s : Wk) : Wk :=
  let ps := (f.getD Fu.zero).params
  let r := Wk.callN ru ps ex s ps.length
  let s2 := Wk.secN ru ex r.1 r.2.2 (ex.length - r.1)
  let s3 := Wk.askN ru args s2 args.length
  ((s3.bad ru 10 (!f.isSome) 3).bad ru 11 (r.1 != ex.length || r.2.1 != args.length || !emp nm && (f.getD Fu.zero).ret.length == 0) 8).handed ru ps args
def Wk.call (ru : Int) (P : List Fu) (nm fr : ByteArray) (ex : List Ex) (args : List ByteArray) (s : Wk) : Wk :=
  let f := s.func P fr
  let s5 := s.call2 ru f nm ex args
  if emp nm then s5 else s5.give ru (Va.num nm (f.getD Fu.zero).sec false)
def Wk.cut (s : Wk) (m : Nat) : Wk := { s with env := s.env.take m }
def exAt (ex : List Ex) (i : Nat) : Ex := ex.getD i Ex.zero
def Wk.lend1 (ru : Int) (fr : ByteArray) (mt : Bool) (ex : List Ex) (s : Wk) : Va × Wk :=
  let r := ((s.pub ru (exAt ex 0)).pub ru (exAt ex 1)).ask ru fr true
  let s4 := if mt then (r.2.turned ru fr).2 else r.2
  (r.1, s4.put { r.1 with lent := if mt then 2 else max r.1.lent 1 })
def Wk.lend3 (fr : ByteArray) (v : Va) (s : Wk) : Wk := s.put { (s.find fr).getD Va.zero with lent := v.lent }
def Wk.move (ru : Int) (nm fr : ByteArray) (s : Wk) : Wk :=
  let r := s.ask ru fr true
  (((((r.2.bad ru 11 (!r.1.own) 8).bad ru 13 (r.1.lent == 1) 130).bad ru 14 (r.1.loops != r.2.loops) 140).put { r.1 with gone := true })).give ru (Va.bufv nm r.1.sec true true)
def gones : List Va → List Va → List Va
  | v :: l, x :: r => { v with gone := v.gone || x.gone } :: gones l r
  | l, _ => l
def Wk.next (s : Wk) : Wk := { s with n := s.n + 1 }
def Wk.back (s : Wk) (e : List Va) : Wk := { s with env := e }
def Wk.join (s : Wk) (e : List Va) : Wk := { s with env := gones s.env e }
def Wk.deeper (s : Wk) : Wk := { s with loops := s.loops + 1 }
def Wk.loopIn (ru : Int) (k : UInt8) (nm : ByteArray) (ex : List Ex) (s : Wk) : Wk :=
  if k.toNat = 7 then (s.pub ru (exAt ex 0)).deeper.give ru (Va.num nm false false) else (s.pub ru (exAt ex 0)).deeper
def Wk.loopOut (s : Wk) (m : Nat) : Wk := { s with loops := s.loops - 1, env := s.env.take m }
mutual
def Wk.stmt (ru : Int) (P : List Fu) : St → Wk → Wk
  | .mk k nm fr sec mt ex args body els, s =>
    if k.toNat = 1 then (s.opn ru (exAt ex 0) sec).give ru (Va.num nm sec true)
    else if k.toNat = 2 then
      let r := Wk.sec ru (exAt ex 0) s
      let v := r.2.ask ru nm false
      (v.2.bad ru 11 (!v.1.set) 8).bad ru 12 (r.1 && !v.1.sec) 120
    else if k.toNat = 3 then (s.pub ru (exAt ex 0)).give ru (Va.bufv nm sec true true)
    else if k.toNat = 4 then
      let r := Wk.sec ru (exAt ex 1) (s.pub ru (exAt ex 0))
      let v := r.2.turned ru nm
      v.2.bad ru 12 (r.1 && !v.1.sec) 120
    else if k.toNat = 5 then
      let s1 := s.pub ru (exAt ex 0)
      let s2 := (Wk.stmts ru P body s1).cut s1.env.length
      ((Wk.stmts ru P els (s2.back s1.env)).cut s1.env.length).join s2.env
    else if k.toNat = 6 ∨ k.toNat = 7 then
      let s3 := s.loopIn ru k nm ex
      ((Wk.stmts ru P body s3).cut s3.env.length).loopOut (s.pub ru (exAt ex 0)).env.length
    else if k.toNat = 8 then
      let r := s.lend1 ru fr mt ex
      let s6 := r.2.give ru (Va.bufv nm r.1.sec mt false)
      let s7 := (Wk.stmts ru P body s6).cut s6.env.length
      (s7.cut r.2.env.length).lend3 fr r.1
    else if k.toNat = 9 then s.move ru nm fr
    else if k.toNat = 10 then (Wk.sec ru (exAt ex 0) s).2.give ru (Va.num nm false false)
    else if k.toNat = 11 then s.call ru P nm fr ex args
    else s.sealed ru P.length
def Wk.stmts (ru : Int) (P : List Fu) : List St → Wk → Wk
  | [], s => s
  | x :: l, s => Wk.stmts ru P l (Wk.stmt ru P x s.next)
end
def Wk.block (ru : Int) (P : List Fu) (l : List St) (s : Wk) : Wk := (Wk.stmts ru P l s).cut s.env.length
def Wk.headN (ru : Int) (P : List Fu) (nm : ByteArray) (s : Wk) : Nat → Wk
  | 0 => s
  | i + 1 => (Wk.headN ru P nm s i).bad ru 10 (sq (P.getD i Fu.zero).name nm) 9
def Wk.paramN (ru : Int) (ps : List Pa) (s : Wk) : Nat → Wk
  | 0 => s
  | i + 1 => (Wk.paramN ru ps s i).give ru ⟨(ps.getD i Pa.zero).name, (ps.getD i Pa.zero).buf, (ps.getD i Pa.zero).sec, (ps.getD i Pa.zero).mt, false, false, false, 0, 0⟩
def Wk.fresh (s : Wk) : Wk := { s with env := [], given := [] }
def Wk.onF (s : Wk) : Wk := { s with f := s.f + 1 }
def Wk.head (ru : Int) (P : List Fu) (f : Fu) (s : Wk) : Wk :=
  Wk.paramN ru f.params (Wk.headN ru P f.name s s.f.toNat).fresh f.params.length
def Wk.retN (ru : Int) (ret : List Ex) (sec : Bool) (s : Wk) : Nat → Wk
  | 0 => s
  | i + 1 => (Wk.retN ru ret sec s i).opn ru (ret.getD i Ex.zero) sec
def Wk.tail (ru : Int) (f : Fu) (s : Wk) : Wk :=
  (Wk.retN ru f.ret f.sec s.next f.ret.length).next
def Wk.fun1 (ru : Int) (P : List Fu) (f : Fu) (s : Wk) : Wk := (Wk.stmts ru P f.body (s.head ru P f)).tail ru f
def Wk.walkN (ru : Int) (P : List Fu) (s : Wk) : Nat → Wk
  | 0 => { s with f := 0 }
  | i + 1 => (Wk.fun1 ru P (P.getD i Fu.zero) (Wk.walkN ru P s i)).onF
def Wk.zero : Wk := ⟨[], [], 0, 0, 0, 0, 0⟩
def Wk.walk (ru : Int) (P : List Fu) : Wk := Wk.walkN ru P Wk.zero P.length
def refN (P : List Fu) : Nat → Int × Int
  | 0 => (0, 0)
  | i + 1 => if (refN P i).2 ≠ 0 then refN P i else let s := Wk.walk (10 + i : Nat) P; if s.fine then (0, 0) else (s.fat, s.ferr)
/-- The reference's answer: the place and the error's number. -/
def refCheck (P : List Fu) (rules : Nat) : Int × Int := if mayM P then refN P (rules - 9) else (0, 2)
def refItems (P : List Fu) : Int := (Wk.walk 0 P).n

/-! ### What the walker's steps keep -/
structure Kept (s t : Wk) : Prop where
  given : t.given = s.given
  env : t.env.length = s.env.length
  n : t.n = s.n
  loops : t.loops = s.loops
  f : t.f = s.f
section
variable (ru : Int) (P : List Fu) (k : UInt8) (nm fr : ByteArray) (sec mt : Bool) (ex : List Ex) (args : List ByteArray) (body els : List St) (s : Wk)
theorem stmt_1 (h : k.toNat = 1) : Wk.stmt ru P (.mk k nm fr sec mt ex args body els) s = (s.opn ru (exAt ex 0) sec).give ru (Va.num nm sec true) := by
  conv => lhs; unfold Wk.stmt
  rw [if_pos h]
theorem stmt_2 (h : k.toNat = 2) : Wk.stmt ru P (.mk k nm fr sec mt ex args body els) s = ((((Wk.sec ru (exAt ex 0) s).2.ask ru nm false).2.bad ru 11 (!((Wk.sec ru (exAt ex 0) s).2.ask ru nm false).1.set) 8).bad ru 12 ((Wk.sec ru (exAt ex 0) s).1 && !((Wk.sec ru (exAt ex 0) s).2.ask ru nm false).1.sec) 120) := by
  conv => lhs; unfold Wk.stmt
  rw [if_neg (by omega), if_pos h]
theorem stmt_3 (h : k.toNat = 3) : Wk.stmt ru P (.mk k nm fr sec mt ex args body els) s = (s.pub ru (exAt ex 0)).give ru (Va.bufv nm sec true true) := by
  conv => lhs; unfold Wk.stmt
  rw [if_neg (by omega), if_neg (by omega), if_pos h]
theorem stmt_4 (h : k.toNat = 4) : Wk.stmt ru P (.mk k nm fr sec mt ex args body els) s = ((Wk.sec ru (exAt ex 1) (s.pub ru (exAt ex 0))).2.turned ru nm).2.bad ru 12 ((Wk.sec ru (exAt ex 1) (s.pub ru (exAt ex 0))).1 && !((Wk.sec ru (exAt ex 1) (s.pub ru (exAt ex 0))).2.turned ru nm).1.sec) 120 := by
  conv => lhs; unfold Wk.stmt
  rw [if_neg (by omega), if_neg (by omega), if_neg (by omega), if_pos h]
theorem stmt_5 (h : k.toNat = 5) : Wk.stmt ru P (.mk k nm fr sec mt ex args body els) s = ((Wk.stmts ru P els (((Wk.stmts ru P body (s.pub ru (exAt ex 0))).cut (s.pub ru (exAt ex 0)).env.length).back (s.pub ru (exAt ex 0)).env)).cut (s.pub ru (exAt ex 0)).env.length).join ((Wk.stmts ru P body (s.pub ru (exAt ex 0))).cut (s.pub ru (exAt ex 0)).env.length).env := by
  conv => lhs; unfold Wk.stmt
  rw [if_neg (by omega), if_neg (by omega), if_neg (by omega), if_neg (by omega), if_pos h]
theorem stmt_67 (h : k.toNat = 6 ∨ k.toNat = 7) : Wk.stmt ru P (.mk k nm fr sec mt ex args body els) s = ((Wk.stmts ru P body (s.loopIn ru k nm ex)).cut (s.loopIn ru k nm ex).env.length).loopOut (s.pub ru (exAt ex 0)).env.length := by
  conv => lhs; unfold Wk.stmt
  rw [if_neg (by omega), if_neg (by omega), if_neg (by omega), if_neg (by omega), if_neg (by omega), if_pos h]
theorem stmt_8 (h : k.toNat = 8) : Wk.stmt ru P (.mk k nm fr sec mt ex args body els) s =
    (((Wk.stmts ru P body ((s.lend1 ru fr mt ex).2.give ru (Va.bufv nm (s.lend1 ru fr mt ex).1.sec mt false))).cut ((s.lend1 ru fr mt ex).2.give ru (Va.bufv nm (s.lend1 ru fr mt ex).1.sec mt false)).env.length).cut (s.lend1 ru fr mt ex).2.env.length).lend3 fr (s.lend1 ru fr mt ex).1 := by
  conv => lhs; unfold Wk.stmt
  rw [if_neg (by omega), if_neg (by omega), if_neg (by omega), if_neg (by omega), if_neg (by omega), if_neg (by omega), if_pos h]
theorem stmt_9 (h : k.toNat = 9) : Wk.stmt ru P (.mk k nm fr sec mt ex args body els) s = s.move ru nm fr := by
  conv => lhs; unfold Wk.stmt
  rw [if_neg (by omega), if_neg (by omega), if_neg (by omega), if_neg (by omega), if_neg (by omega), if_neg (by omega), if_neg (by omega), if_pos h]
theorem stmt_10 (h : k.toNat = 10) : Wk.stmt ru P (.mk k nm fr sec mt ex args body els) s = (Wk.sec ru (exAt ex 0) s).2.give ru (Va.num nm false false) := by
  conv => lhs; unfold Wk.stmt
  rw [if_neg (by omega), if_neg (by omega), if_neg (by omega), if_neg (by omega), if_neg (by omega), if_neg (by omega), if_neg (by omega), if_neg (by omega), if_pos h]
theorem stmt_11 (h : k.toNat = 11) : Wk.stmt ru P (.mk k nm fr sec mt ex args body els) s = s.call ru P nm fr ex args := by
  conv => lhs; unfold Wk.stmt
  rw [if_neg (by omega), if_neg (by omega), if_neg (by omega), if_neg (by omega), if_neg (by omega), if_neg (by omega), if_neg (by omega), if_neg (by omega), if_neg (by omega), if_pos h]
theorem stmt_12 (h : 11 < k.toNat) : Wk.stmt ru P (.mk k nm fr sec mt ex args body els) s = s.sealed ru P.length := by
  conv => lhs; unfold Wk.stmt
  rw [if_neg (by omega), if_neg (by omega), if_neg (by omega), if_neg (by omega), if_neg (by omega), if_neg (by omega), if_neg (by omega), if_neg (by omega), if_neg (by omega), if_neg (by omega)]
end
end Go.Proofs.YtnlnejpioijkiaaGreatDoor
