/- Contracts and laws, file 9: LgB, Shl, ItA, AkA, RnA -/
import Derived.Test.YtfncbemligfloaaGreatDoorMg08
import Derived.Deep.DeepCutAuto
import Derived.Deep.CutBlock
import Derived.Shelf.Strconv.Itoa3
import Derived.Test.YtfncbemligfloaaGreatDoorProg
import Derived.Lib.ItoaMem
import Derived.RegionTactic
import Derived.WalkSpells
import Derived.Laws.IdiomStrings
import Derived.Deep.AppendLies
/- Contracts of the laws' bounds: sacristylaw08.Large. -/
namespace Go.Proofs.YtfncbemligfloaaGreatDoor
open Go.RowKit
set_option linter.unusedVariables false
set_option linter.unusedSimpArgs false
/-- What append(own, row...) comes to, as an equation of its run. -/
theorem appR_of {t e : TypeId} {z : Value} {size bytes : Nat} (ht : Tryz.prog.underlying t = some (.slice e)) (hi : (Tryz.prog.info? e).map (fun i => (i.zero, i.size, i.bytes)) = some (some z, size, bytes)) (hzs : z.cells.size = size) (hsz : 0 < size) (ty : TypeId)
    (ok : Nat → Prop) (base : Nat) (v : Value) (w : World) (l : List (List D)) (hown : OwnX ok base e size w v l) (hokb : ∀ k, ok k → k < base) (A : Option Addr) (c : Nat) (l' : List (List D)) (hrd : RdRows ok w size A 0 l') (hone : ∀ ds ∈ l', ∀ d ∈ ds, d.one)
    (h63 : l.length + l'.length ≤ maxLen) (hbytes : ((l.length + l'.length) + (l.length + l'.length) / 4 + 192) * bytes ≤ 281474976710656) (hbase : base ≤ w.heap.size) :
    ∃ v' w', (Builtin.append_ #[t, t] ty #[v, .slice A l'.length c]).run Tryz.prog w = .ok v' w' ∧ OwnX ok base e size w' v' (l ++ l') ∧ Fr (fun k => base ≤ k ∧ v.ownBlock = some k) w w' := by
  obtain ⟨i0, h0, h1, h2, h3⟩ := info_parts hi
  obtain ⟨xs, hrow, hcs⟩ := hown
  cases A with
  | some ad =>
    obtain ⟨us, hch, hce⟩ : ∃ us, Chunks ok w size l' us ∧ ∀ j u, us[j]? = some u → w.cell? (ad.add j) = some u := by
      by_cases hne : l' = []
      · subst hne; exact ⟨[], rfl, fun j u hu => by simp at hu⟩
      · obtain ⟨ad', us, e, g1, g2⟩ := hrd.src hne
        cases e; exact ⟨us, g1, g2⟩
    obtain ⟨v', w', hr, hrow', hg, hwh⟩ := run_append_where (P := Tryz.prog) w base t ty e i0 z size bytes ht h0 h1 h2 h3 hzs hsz v l.length xs hrow ad l'.length c us hch.length hce (hch.ones hone) h63 hbytes hbase
    have hfr : Fr (fun k => base ≤ k ∧ v.ownBlock = some k) w w' := ⟨hg.os, hg.tape, hg.output, hg.size, fun k hk hn => hg.block k hk fun e => hn ⟨(hrow.lt k e.symm).1, e.symm⟩⟩
    have key : ∀ b o u, ok b → w.cell? ⟨b, o, none⟩ = some u → w'.cell? ⟨b, o, none⟩ = some u := fun b o u hb hc => hfr.cell' hc fun hx => by have h8 := hokb b hb; have h9 : base ≤ b := hx.1; omega
    exact ⟨v', w', hr, ⟨xs ++ us, by rw [List.length_append]; exact hrow', Chunks.append (hch.mono key fun _ h => h) (hcs.mono key fun _ h => h)⟩, hfr⟩
  | none =>
    have hne : l' = [] := by
      cases l' with
      | nil => rfl
      | cons ds l' => obtain ⟨⟨b, o, e, _⟩, _⟩ := hrd; cases e
    subst hne
    have hr : (Builtin.append_ #[t, t] ty #[v, .slice none ([] : List (List D)).length c]).run Tryz.prog w = .ok v w := by
      rcases hrow.2 with ⟨rfl, h9⟩ | ⟨g, cap, cur, rfl, _, _, hnc, _⟩
      · simp [Builtin.append_, run_underlying ht, sizeOf, typeInfo, h0, Builtin.lenOf, Builtin.firstCells]
      · simp [Builtin.append_, run_underlying ht, sizeOf, typeInfo, h0, Builtin.lenOf, Builtin.firstCells, hnc, storeCells]
    exact ⟨v, w, hr, by rw [List.append_nil]; exact ⟨xs, hrow, hcs⟩, Fr.refl _ _⟩
theorem appR_st (ok : Nat → Prop) (base : Nat) (v : Value) (w : World) (l : List St) (hown : OwnX ok base 54 9 w v (St.ds l)) (hokb : ∀ k, ok k → k < base) (A : Option Addr) (c : Nat) (l' : List St) (hrd : RdRows ok w 9 A 0 (St.ds l'))
    (hl : l.length ≤ 900) (hq : l'.length * 144 ≤ reach) (hbase : base ≤ w.heap.size) :
    ∃ A' c' w', (Builtin.append_ #[32, 32] 32 #[v, .slice A l'.length c]).run Tryz.prog w = .ok (.slice A' (l ++ l').length c') w' ∧ OwnX ok base 54 9 w' (.slice A' (l ++ l').length c') (St.ds (l ++ l')) ∧ Fr (fun k => base ≤ k ∧ v.ownBlock = some k) w w' := by
  have h1 : (St.ds l).length = l.length := by rw [St.ds_eq, List.length_map]
  have h2 : (St.ds l').length = l'.length := by rw [St.ds_eq, List.length_map]
  have h3 : St.ds l ++ St.ds l' = St.ds (l ++ l') := by rw [St.ds_eq, St.ds_eq, St.ds_eq, List.map_append]
  have h4 : (St.ds (l ++ l')).length = (l ++ l').length := by rw [St.ds_eq, List.length_map]
  obtain ⟨v', w', g1, g2, g3⟩ := appR_of (z := stZ) (t := 32) (e := 54) (size := 9) (bytes := 144) (by kernel_rfl) (by kernel_rfl) rfl (by decide) 32 ok base v w (St.ds l) hown hokb A c (St.ds l') hrd (one_sts _) (by rw [h1, h2]; unfold reach at hq; unfold maxLen; omega) (by rw [h1, h2]; unfold reach at hq; omega) hbase
  rw [h2] at g1
  rw [h3] at g2
  obtain ⟨A', c', rfl, _⟩ := g2.slice
  rw [h4] at g1 g2
  exact ⟨A', c', w', g1, g2, g3⟩

theorem inner_append (l r : List St) : inner (l ++ r) = inner l + inner r := by simp [inner]
theorem inner_drop (l : List St) (j : Nat) (h : j < l.length) : inner (l.drop j) = (St.sizes l[j].body + St.sizes l[j].els) + inner (l.drop (j + 1)) := by
  rw [List.drop_eq_getElem_cons h, inner, List.map_cons, List.sum_cons]; rfl
theorem sizes_append (l r : List St) : St.sizes (l ++ r) = St.sizes l + St.sizes r := by rw [← inner_all, ← inner_all l, ← inner_all r, inner_append, List.length_append]; omega
/-- The worklist's law: what is still to come, counted. -/
theorem work_step (l : List St) (j : Nat) (h : j < l.length) : (l ++ l[j].body ++ l[j].els).length + inner ((l ++ l[j].body ++ l[j].els).drop (j + 1)) = l.length + inner (l.drop j) := by
  rw [inner_drop l j h, List.append_assoc, List.drop_append_of_le_length (by omega), inner_append, inner_append, List.length_append, List.length_append, ← inner_all l[j].body, ← inner_all l[j].els]
  omega
theorem fsizes_top (P : List Fu) : ∀ j, St.sizes ((P.take j).flatMap fun f => f.body) = Fu.sizes (P.take j) := by
  intro j
  generalize P.take j = l
  induction l with
  | nil => rfl
  | cons f l ih => simp only [List.flatMap_cons, Fu.sizes, Fu.size] at ih ⊢; rw [sizes_append, ih]

theorem OwnX.lt {ok : Nat → Prop} {base : Nat} {e : TypeId} {sz : Nat} {w : World} {v : Value} {l : List (List D)} (h : OwnX ok base e sz w v l) (k : Nat) (hk : v.ownBlock = some k) : k < w.heap.size := by
  obtain ⟨xs, h1, _⟩ := h
  exact (h1.lt k hk).2
theorem app_step {P : Program} {ops : Array Oper} {o : Oper} {a : Act} {K : Act → World → Prop} {Q : Exit → Act → World → Prop} {w w' : World} {t : TypeId} {v u v' : Value} (hgd : o.guard = none) (s x : Operand)
    (ho : o.op = .call { callee := .builtin .append, args := #[s, x], argTypes := #[t, t] }) (hs : a.eval s = v) (hx : a.eval x = u) (hr : (Builtin.append_ #[t, t] o.type #[v, u]).run P w = .ok v' w')
    (h : K (a.put o.dst v') w') : if Region.wanted o (yielded ops a.tmps) = true then Oper.wp P o a w K Q else K (a.put o.dst undef) w := by
  rw [if_pos (by simp [Region.wanted, hgd])]
  unfold Oper.wp execOp
  simp only [ho, resolve, invoke, builtin, Sem.run_bind, Sem.run_pure, Result.andThen_ok, List.map_toArray, List.map_cons, List.map_nil, hs, hx, hr]
  exact h
mutual
/-- All expressions of a statement are small. -/
def St.light : St → Prop
  | .mk _ _ _ _ _ ex _ body els => (∀ e ∈ ex, e.size ≤ 2000) ∧ St.lights body ∧ St.lights els
def St.lights : List St → Prop
  | [] => True
  | s :: l => s.light ∧ St.lights l
end
theorem St.light_eq (s : St) : s.light = ((∀ e ∈ s.ex, e.size ≤ 2000) ∧ St.lights s.body ∧ St.lights s.els) := by cases s; rfl
theorem lights_iff : ∀ l : List St, St.lights l ↔ ∀ s ∈ l, s.light
  | [] => by simp [St.lights]
  | s :: l => by simp [St.lights, lights_iff l]
theorem lights_append (l r : List St) : St.lights (l ++ r) ↔ St.lights l ∧ St.lights r := by
  rw [lights_iff, lights_iff, lights_iff]
  simp only [List.mem_append]
  exact ⟨fun h => ⟨fun s hs => h s (.inl hs), fun s hs => h s (.inr hs)⟩, fun h s hs => hs.elim (h.1 s) (h.2 s)⟩
theorem lights_step (l : List St) (j : Nat) (h : j < l.length) (hx : ∀ e ∈ l[j].ex, e.size ≤ 2000) (hd : St.lights ((l ++ l[j].body ++ l[j].els).drop (j + 1))) : St.lights (l.drop j) := by
  rw [List.append_assoc, List.drop_append_of_le_length (by omega), lights_append, lights_append] at hd
  rw [List.drop_eq_getElem_cons h, St.lights, St.light_eq]
  exact ⟨⟨hx, hd.2.1, hd.2.2⟩, hd.1⟩
def Rets (l : List Fu) : Prop := ∀ f ∈ l, ∀ e ∈ f.ret, e.size ≤ 2000
theorem rets_snoc {l : List Fu} {f : Fu} (h : Rets l) (hf : ∀ e ∈ f.ret, e.size ≤ 2000) : Rets (l ++ [f]) := by
  intro g hg
  rcases List.mem_append.1 hg with hg | hg
  · exact h g hg
  · rw [List.mem_singleton.1 hg]; exact hf
def Fu.light (f : Fu) : Prop := St.lights f.body ∧ ∀ e ∈ f.ret, e.size ≤ 2000
theorem lights_flat : ∀ (P : List Fu), St.lights (P.flatMap fun f => f.body) → Rets P → ∀ f ∈ P, f.light
  | [], _, _, f, hf => by cases hf
  | g :: P, h, hr, f, hf => by
    rw [List.flatMap_cons, lights_append] at h
    rcases List.mem_cons.1 hf with rfl | hf
    · exact ⟨h.1, hr f (by simp)⟩
    · exact lights_flat P h.2 (fun g' hg' => hr g' (by simp [hg'])) f hf
theorem all_till {l : List Ex} {k : Nat} (hk : l.length ≤ k) (h : ∀ i (hi : i < l.length), i < k → l[i].size ≤ 2000) : ∀ e ∈ l, e.size ≤ 2000 := fun e he => by
  obtain ⟨i, hi, rfl⟩ := List.mem_iff_getElem.1 he
  exact h i hi (by omega)
theorem till_snoc {l : List Ex} {k : Nat} (h : ∀ i (hi : i < l.length), i < k → l[i].size ≤ 2000) (hk : ∀ hk : k < l.length, l[k].size ≤ 2000) : ∀ i (hi : i < l.length), i < k + 1 → l[i].size ≤ 2000 := fun i hi hik => by
  rcases Nat.lt_or_eq_of_le (Nat.le_of_lt_succ hik) with h' | rfl
  · exact h i hi h'
  · exact hk hi
/-- What Large tells, if it says no. -/
def LargeR (P : List Fu) (e : Ending) : Prop := ∃ b, e = .returned (.bool b) ∧ (b = false → P.length ≤ 30 ∧ Fu.sizes P ≤ 900 ∧ ∀ f ∈ P, f.light)
theorem largeT {P : List Fu} {v : Value} (h : v = .bool true) : LargeR P (.returned v) := ⟨true, by rw [h], fun h => by cases h⟩
theorem largeB {P : List Fu} {b : Bool} {v : Value} (h : v = .bool b) (hb : b = false → P.length ≤ 30 ∧ Fu.sizes P ≤ 900 ∧ ∀ f ∈ P, f.light) : LargeR P (.returned v) := ⟨b, by rw [h], hb⟩

set_option maxRecDepth 100000 in
set_option maxHeartbeats 4000000 in
theorem large08_any (P : List Fu) (ok : Nat → Prop) (A : Option Addr) (c : Nat) (w : World) (hr : RdRows ok w 5 A 0 (P.map Fu.d)) (hc : P.length * 96 ≤ reach) (hok : ∀ q, ok q → q < w.heap.size) :
   Calls Tryz.prog 6 #[.agg #[.slice A P.length c]] w fun e w' => LargeR P e ∧ Fr Non w w' := by
  have hlen : P.length ≤ 140737488355328 := by unfold reach at hc; omega
  have HOK := Lib.hid hok; clear hok
  obtain ⟨W1, HW1⟩ : ∃ W1, W1 = w.alloc (.cells #[.slice A P.length c] 24) := ⟨_, rfl⟩
  have hf1 : Fr Non w W1 := by rw [HW1]; exact (fr_refl w).alloc _
  have hb1 : W1.heap[w.heap.size]? = some (.cells #[.slice A P.length c] 24 (0, 0)) := by rw [HW1]; exact blk_new _ _ _
  have hzW : W1.heap.size = w.heap.size + 1 := by rw [HW1]; simp
  have HR := Lib.hid (hr.fr hf1 (fun _ _ => non _) (fun _ h => h)); clear hr
  have HF1 := Lib.hid hf1; clear hf1
  have HB1 := Lib.hid hb1; clear hb1
  go_enter Tryz.func6, Tryz.ntmps6
  go_upto_region 1 with fail
  rw [← HW1]; clear HW1
  go_upto_block 0 with fail
  go_cut [3, 4, 5] (fun v3 v4 v5 wx => ∃ (R : List St) (n : Int), v3 = .int .i64 n ∧ R.length ≤ 900 ∧ (P.length ≤ 30 → St.sizes R = Fu.sizes P ∧ R = P.flatMap (fun f => f.body) ∧ Rets P) ∧ OwnX ok (w.heap.size + 1) 54 9 wx v4 (St.ds R) ∧ Fr Non W1 wx)
  case first =>
    have hz1 : w.heap.size < W1.heap.size := blk_lt HB1.out
    go_wp2_with fail
    go_loopw [3, 4, 5] (fun t v i wr => ∃ (j : Nat) (n : Int), i = .int .i64 j ∧ t = .int .i64 n ∧ j ≤ P.length ∧ j ≤ 40 ∧ ((P.take j).flatMap fun f => f.body).length ≤ 900 ∧ Rets (P.take j) ∧ OwnX ok (w.heap.size + 1) 54 9 wr v (St.ds ((P.take j).flatMap fun f => f.body)) ∧ Fr Non W1 wr) (fun _ _ i _ => P.length - (intOf i).toNat)
    case atStart => exact ⟨0, 0, rfl, rfl, by omega, by omega, by simp, fun f hf => by simp at hf, OwnX.nil _ _ _ _ _, fr_refl _⟩
    case round =>
      obtain ⟨j, n, rfl, rfl, hj, hj4, hl9, hrt, how, hfr⟩ := hrel
      have HRT := Lib.hid hrt; clear hrt
      have g0 := hfr.cell' ((cells_of HB1.out).1 0 _ rfl) (non _)
      have HTF := Lib.hid (fsizes_top P j)
      by_cases hlt : j < P.length
      · by_cases h40 : j < 40
        · obtain ⟨b, o1, A1, c1, A2, c2, A3, c3, rfl, hb, e0, e1, e2, e3, e4, ⟨p1, q1, r1⟩, ⟨p2, q2, r2⟩, ⟨p3, q3, r3⟩⟩ := at_fu (HR.out.fr hfr (fun _ _ => non _) (fun _ h => h)) j hlt
          have HTS := Lib.hid (take_snoc P j hlt)
          have hl1 : P[j].params.length ≤ 140737488355328 := by unfold reach at q1; omega
          have hl2 : P[j].body.length ≤ 140737488355328 := by unfold reach at q2; omega
          have hl3 : P[j].ret.length ≤ 140737488355328 := by unfold reach at q3; omega
          generalize hf : P[j] = f at *
          clear hf
          go_upto_region 8 with fail
          obtain ⟨W2, HW2⟩ : ∃ W2, W2 = wr.alloc (.cells #[.string f.name, .slice A1 f.params.length c1, .slice A2 f.body.length c2, .bool f.sec, .slice A3 f.ret.length c3] 36) := ⟨_, rfl⟩
          rw [← HW2]
          have hf2 : Fr Non wr W2 := by rw [HW2]; exact (fr_refl wr).alloc _
          have hbx : W2.heap[wr.heap.size]? = some (.cells #[.string f.name, .slice A1 f.params.length c1, .slice A2 f.body.length c2, .bool f.sec, .slice A3 f.ret.length c3] 36 (0, 0)) := by rw [HW2]; exact blk_new _ _ _
          clear HW2
          have x2 := (cells_of hbx).1 2 _ rfl
          have hzr : W1.heap.size ≤ wr.heap.size := hfr.size
          have hz2 := hf2.size
          have HBX := Lib.hid hbx; clear hbx
          have HR1 := Lib.hid (r1.fr hf2 (fun _ _ => non _) (fun _ h => h)); clear r1
          have HR2 := Lib.hid (r2.fr hf2 (fun _ _ => non _) (fun _ h => h)); clear r2
          have HR3 := Lib.hid (r3.fr hf2 (fun _ _ => non _) (fun _ h => h)); clear r3
          have HOW := Lib.hid (how.fr hf2 (fun k _ => non k) (fun k _ => non k))
          have HLT := Lib.hid how.lt; clear how
          have HF2 := Lib.hid (hfr.trans hf2); clear hfr hf2 g0 e0 e1 e2 e3 e4
          have hdl : (St.ds f.body).length = f.body.length := by rw [St.ds_eq, List.length_map]
          go_wp2_with (at_builtin; refine appX_st rfl _ _ rfl ok (w.heap.size + 1) u4 (St.ds ((P.take j).flatMap fun f => f.body)) rfl HOW.out ?okb A2 c2 (St.ds f.body) (by rw [hdl]; rfl) HR2.out (one_sts _) ?b1 ?b2 ?b3 ?k)
          case okb => intro k hk; have := HOK.out k hk; omega
          case b1 => rw [hdl, St.ds_eq, List.length_map]; unfold reach at q2; unfold maxLen; omega
          case b2 => rw [hdl, St.ds_eq, List.length_map]; unfold reach at q2; omega
          case b3 => omega
          case k =>
          intro v3 w3 hown3 hf3
          have hbx3 := blk_fr HBX.out hf3 (by rintro ⟨_, h2⟩; have := HLT.out _ h2; omega)
          have HF3 := Lib.hid (HF2.out.then hf3 fun k hk h => by omega)
          have HR1' := Lib.hid (HR1.out.fr hf3 (fun q hq h => by have := HOK.out q hq; omega) (fun _ h => h))
          have HR3' := Lib.hid (HR3.out.fr hf3 (fun q hq h => by have := HOK.out q hq; omega) (fun _ h => h))
          have hz3 := hf3.size
          clear hf3 x2
          have hcat : St.ds ((P.take j).flatMap fun f => f.body) ++ St.ds f.body = St.ds ((P.take (j + 1)).flatMap fun f => f.body) := by
            rw [HTS.out, List.flatMap_append, St.ds_eq, St.ds_eq, St.ds_eq, List.map_append]; simp
          rw [hcat] at hown3
          obtain ⟨A4, c4, hv3, hc4⟩ := hown3.slice
          have hdl4 : (St.ds ((P.take (j + 1)).flatMap fun f => f.body)).length = ((P.take (j + 1)).flatMap fun f => f.body).length := by rw [St.ds_eq, List.length_map]
          rw [hdl4] at hv3 hc4
          subst hv3
          generalize hR : ((P.take (j + 1)).flatMap fun f => f.body) = R at *
          have HRR := Lib.hid hR; clear hR hdl4 hcat hdl
          have HO3 := Lib.hid hown3; clear hown3
          have HBX3 := Lib.hid hbx3; clear hbx3
          obtain ⟨wp, rfl⟩ : ∃ wp : World, wp = wr := ⟨_, rfl⟩
          go_upto_block 2 with fail
          go_cut [7] (fun v7 wx => Fr Non w3 wx ∧ (f.ret.length ≤ 20 → ∀ e ∈ f.ret, e.size ≤ 2000))
          case first =>
            go_wp2_with fail
            go_loopw [7] (fun i wq => ∃ k : Nat, i = .int .i64 k ∧ k ≤ f.ret.length ∧ k ≤ 20 ∧ (∀ i (hi : i < f.ret.length), i < k → f.ret[i].size ≤ 2000) ∧ Fr Non w3 wq) (fun i _ => f.ret.length - (intOf i).toNat)
            case atStart => exact ⟨0, rfl, by omega, by omega, fun i _ h => by omega, fr_refl _⟩
            case round =>
              obtain ⟨k, rfl, hk, hk20, htl, hfq⟩ := hrel
              have HTL := Lib.hid htl; clear htl
              have hbq := blk_fr HBX3.out hfq (non _)
              have x4 := (cells_of hbq).1 4 _ rfl
              by_cases hk1 : k < f.ret.length
              · by_cases hk2 : k < 20
                · obtain ⟨b5, o5, A5, c5, rfl, hb5, y0, y1, y2, y3, y4, y5, y6, y7⟩ := at_ex (HR3'.out.fr hfq (fun _ _ => non _) (fun _ h => h)) k hk1
                  have HFQ := Lib.hid hfq; clear hfq
                  have HLG := Lib.hid (large07_any f.ret[k] ok A5 c5 wr y7 y5 y6 (fun q hq => by have := HOK.out q hq; have := HFQ.out.size; omega))
                  clear y5 y6 y7 hbq
                  go_wp2_with fail
                  refine HLG.out.mono ?_
                  rintro e w5 ⟨⟨b6, rfl, hb6⟩, hf5⟩
                  have HB6 := Lib.hid hb6; clear hb6
                  have HF5 := Lib.hid (HFQ.out.trans hf5); clear hf5
                  cases b6 with
                  | true =>
                    go_wp2_with fail
                    go_ret
                    exact ⟨largeT rfl, HF1.out.trans (HF3.out.trans HF5.out)⟩
                  | false =>
                    go_wp2_with fail
                    go_roundw
                    case rel => exact ⟨k + 1, by go_num, by omega, by omega, till_snoc HTL.out fun _ => by simpa using HB6.out, HF5.out⟩
                    case measure => simp [intOf]; omega
                · go_wp2_with fail
                  go_meet
                  exact ⟨hfq, fun h => all_till (k := k) (by omega) HTL.out⟩
              · go_wp2_with fail
                go_meet
                exact ⟨hfq, fun h => all_till (k := k) (by omega) HTL.out⟩
          case rest =>
            obtain ⟨hcut, hre⟩ := hcut
            have HRE := Lib.hid hre; clear hre
            have HF4 := Lib.hid (HF3.out.trans hcut)
            have hb4 := blk_fr HBX3.out hcut (non _)
            have HO4 := Lib.hid (HO3.out.fr hcut (fun k _ => non k) (fun k _ => non k))
            have HR1q := Lib.hid (HR1'.out.fr hcut (fun _ _ => non _) (fun _ h => h))
            have x1 := (cells_of hb4).1 1 _ rfl
            have x4 := (cells_of hb4).1 4 _ rfl
            clear hcut hb4
            obtain ⟨wq, rfl⟩ : ∃ wq : World, wq = wc := ⟨_, rfl⟩
            go_upto_block 4 with fail
            go_cut [3, 8] (fun v3 v8 wx => wx = wq ∧ ∃ n : Int, v3 = .int .i64 n)
            case first =>
              go_wp2_with fail
              go_loop [3, 8] (fun t i => ∃ (k : Nat) (n : Int), i = .int .i64 k ∧ t = .int .i64 n ∧ k ≤ f.params.length) (fun _ i => f.params.length - (intOf i).toNat)
              case atStart => exact ⟨0, _, rfl, rfl, by omega⟩
              case round =>
                obtain ⟨k, n2, rfl, rfl, hk⟩ := hrel
                by_cases hk1 : k < f.params.length
                · by_cases hk2 : k < 40
                  · obtain ⟨b5, o5, rfl, hb5, y0, y1, y2, y3⟩ := at_pa HR1q.out k hk1
                    go_wp2_with fail
                    go_round
                    case rel => exact ⟨k + 1, _, by go_num, rfl, by omega⟩
                    case measure => simp [intOf]; omega
                  · go_wp2_with fail
                    go_meet
                    exact ⟨rfl, _, rfl⟩
                · go_wp2_with fail
                  go_meet
                  exact ⟨rfl, _, rfl⟩
            case rest =>
              obtain ⟨rfl, n2, rfl⟩ := hcut
              by_cases h9 : R.length ≤ 900
              · go_wp2_with fail
                all_goals first
                  | (go_ret; exact ⟨largeT rfl, HF1.out.trans HF4.out⟩)
                  | (go_roundw; (case rel => exact ⟨j + 1, _, by go_num, rfl, by omega, by omega, by rw [HRR.out]; exact h9, by rw [HTS.out]; exact rets_snoc HRT.out (HRE.out (by omega)), by rw [HRR.out]; exact HO4.out, HF4.out⟩); (case measure => simp [intOf]; omega))
              · go_wp2_with fail
                all_goals
                  go_ret
                  exact ⟨largeT rfl, HF1.out.trans HF4.out⟩
        · go_wp2_with fail
          go_meet
          exact ⟨_, _, rfl, hl9, fun h => by omega, how, hfr⟩
      · go_wp2_with fail
        go_meet
        have hje : j = P.length := by omega
        subst hje
        have hrt := HRT.out
        rw [List.take_length] at hrt
        exact ⟨_, _, rfl, hl9, fun h => ⟨by rw [HTF.out, List.take_length], by rw [List.take_length], hrt⟩, how, hfr⟩
  case rest =>
    obtain ⟨R0, n0, rfl, hR0, hsz0, how0, hf0⟩ := hcut
    have HOW0 := Lib.hid how0; clear how0
    have HF0 := Lib.hid hf0; clear hf0
    have HSZ0 := Lib.hid hsz0; clear hsz0
    obtain ⟨wz, rfl⟩ : ∃ wz : World, wz = wc := ⟨_, rfl⟩
    go_upto_block 6 with fail
    go_cut [3, 4, 9] (fun v3 v4 v9 wx => ∃ n : Int, v3 = .int .i64 n ∧ St.sizes R0 ≤ 900 ∧ St.lights R0 ∧ Fr Non W1 wx)
    case first =>
      go_wp2_with fail
      go_loopw [3, 4, 9] (fun t v i wr => ∃ (R : List St) (j : Nat) (n : Int), i = .int .i64 j ∧ t = .int .i64 n ∧ j ≤ R.length ∧ R.length ≤ 900 ∧ R.length + inner (R.drop j) = St.sizes R0 ∧ (St.lights (R.drop j) → St.lights R0) ∧ OwnX ok (w.heap.size + 1) 54 9 wr v (St.ds R) ∧ Fr Non W1 wr) (fun _ _ i _ => 901 - (intOf i).toNat)
      case atStart => exact ⟨R0, 0, _, rfl, rfl, by omega, hR0, by rw [List.drop_zero]; exact inner_all R0, fun h => by rw [List.drop_zero] at h; exact h, HOW0.out, HF0.out⟩
      case round =>
        obtain ⟨R, j, n, rfl, rfl, hj, hR, hin, hli, how, hfr⟩ := hrel
        have HLI := Lib.hid hli; clear hli
        have hdR : (St.ds R).length = R.length := by rw [St.ds_eq, List.length_map]
        obtain ⟨A1, c1, hv, hc1⟩ := how.slice
        rw [hdR] at hv hc1
        subst hv
        by_cases hlt : j < R.length
        · obtain ⟨g, us, rfl, hg, hrd, hce⟩ := how.at j (by rw [hdR]; exact hlt)
          have hd : (St.ds R)[j]'(by rw [hdR]; exact hlt) = R[j].d := by simp [St.ds_eq]
          rw [hd] at hrd
          have HWS := Lib.hid (work_step R j hlt)
          have HWL := Lib.hid (lights_step R j hlt)
          generalize R[j] = x at *
          obtain ⟨xk, xn, xf, xs, xm, xe, xa, xb, xl⟩ := x
          obtain ⟨_, _, rfl, rfl, _, _, rfl, rfl, _, _, rfl, rfl, _, _, rfl, rfl, _, _, rfl, rfl, _, _, rfl, ⟨B1, d1, rfl, k1, l1, r1⟩, _, _, rfl, ⟨B2, d2, rfl, k2, l2, r2⟩, _, _, rfl, ⟨B3, d3, rfl, k3, l3, r3⟩, _, _, rfl, ⟨B4, d4, rfl, k4, l4, r4⟩, rfl⟩ := hrd
          have e0 := hce 0 _ rfl
          have e1 := hce 1 _ rfl
          have e2 := hce 2 _ rfl
          have e3 := hce 3 _ rfl
          have e4 := hce 4 _ rfl
          have e5 := hce 5 _ rfl
          have e6 := hce 6 _ rfl
          have e7 := hce 7 _ rfl
          have e8 := hce 8 _ rfl
          clear hce
          rw [Nat.add_zero] at e0
          have hdb : (St.ds xb).length = xb.length := by rw [St.ds_eq, List.length_map]
          have hdc : (St.ds xl).length = xl.length := by rw [St.ds_eq, List.length_map]
          rw [Ex.ds_length] at e5 k1 l1
          rw [List.length_map] at e6 k2 l2
          rw [hdb] at e7 k3 l3
          rw [hdc] at e8 k4 l4
          have m1 : xe.length ≤ 140737488355328 := by unfold reach at l1; omega
          have m2 : xa.length ≤ 140737488355328 := by unfold reach at l2; omega
          have m3 : xb.length ≤ 140737488355328 := by unfold reach at l3; omega
          have m4 : xl.length ≤ 140737488355328 := by unfold reach at l4; omega
          go_upto_region 24 with fail
          obtain ⟨W2, HW2⟩ : ∃ W2, W2 = wr.alloc (.cells #[vu8 xk, .string xn, .string xf, .bool xs, .bool xm, .slice B1 xe.length d1, .slice B2 xa.length d2, .slice B3 xb.length d3, .slice B4 xl.length d4] 54) := ⟨_, rfl⟩
          rw [← HW2]
          have hf2 : Fr Non wr W2 := by rw [HW2]; exact (fr_refl wr).alloc _
          have hbx : W2.heap[wr.heap.size]? = some (.cells #[vu8 xk, .string xn, .string xf, .bool xs, .bool xm, .slice B1 xe.length d1, .slice B2 xa.length d2, .slice B3 xb.length d3, .slice B4 xl.length d4] 54 (0, 0)) := by rw [HW2]; exact blk_new _ _ _
          clear HW2 e0 e1 e2 e3 e4 e5 e6 e7 e8
          have x1 := (cells_of hbx).1 1 _ rfl
          have x2 := (cells_of hbx).1 2 _ rfl
          have x5 := (cells_of hbx).1 5 _ rfl
          have x6 := (cells_of hbx).1 6 _ rfl
          have x7 := (cells_of hbx).1 7 _ rfl
          have x8 := (cells_of hbx).1 8 _ rfl
          have hzr : W1.heap.size ≤ wr.heap.size := hfr.size
          have hz2 := hf2.size
          have HBX := Lib.hid hbx; clear hbx
          have HR1 := Lib.hid (r1.fr hf2 (fun _ _ => non _) (fun _ h => h)); clear r1
          have HR2 := Lib.hid (r2.fr hf2 (fun _ _ => non _) (fun _ h => h)); clear r2
          have HR3 := Lib.hid (r3.fr hf2 (fun _ _ => non _) (fun _ h => h)); clear r3
          have HR4 := Lib.hid (r4.fr hf2 (fun _ _ => non _) (fun _ h => h)); clear r4
          have HOW := Lib.hid (how.fr hf2 (fun k _ => non k) (fun k _ => non k))
          have HLT := Lib.hid how.lt; clear how
          have HF2 := Lib.hid (hfr.trans hf2); clear hfr hf2
          obtain ⟨wp, rfl⟩ : ∃ wp : World, wp = wr := ⟨_, rfl⟩
          by_cases h9 : R.length + xb.length + xl.length ≤ 900
          · go_upto_block 8 with fail
            all_goals try (go_ret; exact ⟨largeT rfl, HF1.out.trans HF2.out⟩)
            have HX := Lib.hid x1; clear x1 x2 x6
            have X7 := Lib.hid x7; clear x7 HX
            have X8 := Lib.hid x8; clear x8
            go_wp2_with fail
            go_loopw [11] (fun i wq => ∃ k : Nat, i = .int .i64 k ∧ k ≤ xe.length ∧ (∀ i (hi : i < xe.length), i < k → xe[i].size ≤ 2000) ∧ Fr Non W2 wq) (fun i _ => xe.length - (intOf i).toNat)
            case atStart => exact ⟨0, rfl, by omega, fun i _ h => by omega, fr_refl _⟩
            case round =>
              obtain ⟨k, rfl, hk, htl, hfq⟩ := hrel
              have HTL := Lib.hid htl; clear htl
              have hbq := blk_fr HBX.out hfq (non _)
              have y5 := (cells_of hbq).1 5 _ rfl
              by_cases hk1 : k < xe.length
              · obtain ⟨b5, o5, A5, c5, rfl, hb5, z0, z1, z2, z3, z4, z5, z6, z7⟩ := at_ex (HR1.out.fr hfq (fun _ _ => non _) (fun _ h => h)) k hk1
                have HFQ := Lib.hid hfq; clear hfq
                have HLG := Lib.hid (large07_any xe[k] ok A5 c5 wr z7 z5 z6 (fun q hq => by have := HOK.out q hq; have := HFQ.out.size; omega))
                clear z5 z6 z7 hbq
                go_wp2_with fail
                refine HLG.out.mono ?_
                rintro e w5 ⟨⟨b6, rfl, hb6⟩, hf5⟩
                have HB6 := Lib.hid hb6; clear hb6
                have HF5 := Lib.hid (HFQ.out.trans hf5); clear hf5
                cases b6 with
                | true =>
                  go_wp2_with fail
                  go_ret
                  exact ⟨largeT rfl, HF1.out.trans (HF2.out.trans HF5.out)⟩
                | false =>
                  go_wp2_with fail
                  go_roundw
                  case rel => exact ⟨k + 1, by go_num, by omega, till_snoc HTL.out fun _ => by simpa using HB6.out, HF5.out⟩
                  case measure => simp [intOf]; omega
              · have HXE := Lib.hid (all_till (k := k) (by omega) HTL.out)
                have y6 := (cells_of hbq).1 6 _ rfl
                have HFQ := Lib.hid hfq
                obtain ⟨wq, rfl⟩ : ∃ wq : World, wq = wr := ⟨_, rfl⟩
                have HA := Lib.hid (HR2.out.fr hfq (fun _ _ => non _) (fun _ h => h)); clear hfq
                go_upto_block 10 with fail
                go_cut [3, 12] (fun v3 v12 wx => wx = wq ∧ ∃ n : Int, v3 = .int .i64 n)
                case first =>
                  go_wp2_with fail
                  go_loop [3, 12] (fun t i => ∃ (k : Nat) (n : Int), i = .int .i64 k ∧ t = .int .i64 n ∧ k ≤ xa.length) (fun _ i => xa.length - (intOf i).toNat)
                  case atStart => exact ⟨0, _, rfl, rfl, by omega⟩
                  case round =>
                    obtain ⟨k, n2, rfl, rfl, hk⟩ := hrel
                    by_cases hk1 : k < xa.length
                    · obtain ⟨b5, o5, rfl, hb5, z0⟩ := at_str HA.out k hk1
                      go_wp2_with fail
                      go_round
                      case rel => exact ⟨k + 1, _, by go_num, rfl, by omega⟩
                      case measure => simp [intOf]; omega
                    · go_wp2_with fail
                      go_meet
                      exact ⟨rfl, _, rfl⟩
                case rest =>
                  obtain ⟨rfl, n2, rfl⟩ := hcut
                  have hbw := blk_fr HBX.out HFQ.out (non _)
                  have hfd := HFQ.out.drew
                  obtain ⟨wd, hwd⟩ : ∃ wd, wd = wc.drew := ⟨_, rfl⟩
                  rw [← hwd] at hfd
                  have hbd := blk_fr HBX.out hfd (non _)
                  have hzd : W2.heap.size ≤ wd.heap.size := hfd.size
                  obtain ⟨A5, c5, w5, hr5, ho5, hf5⟩ := appR_st ok (w.heap.size + 1) (.slice (some ⟨g, 0, none⟩) R.length c1) wd R (HOW.out.fr hfd (fun k _ => non k) (fun k _ => non k)) (fun k hk => by have := HOK.out k hk; omega) B3 d3 xb (HR3.out.fr hfd (fun _ _ => non _) (fun _ h => h)) hR l3 (by omega)
                  have hgl := HLT.out g rfl
                  have hb5 := blk_fr hbd hf5 (by rintro ⟨_, h2⟩; have h3 : g = wp.heap.size := by simpa [Value.ownBlock] using h2
                                                 omega)
                  have HFd := Lib.hid (HF2.out.trans hfd)
                  have HR4d := HR4.out.fr hfd (fun _ _ => non _) (fun _ h => h)
                  have HR45 := HR4d.fr hf5 (fun q hq h => by have := HOK.out q hq; have := h.1; omega) (fun _ h => h)
                  have HF5 := Lib.hid (HFd.out.then hf5 fun k hk h => by have := h.1; omega)
                  have hz5 := hf5.size
                  obtain ⟨R1, hR1⟩ : ∃ R1, R1 = R ++ xb := ⟨_, rfl⟩
                  rw [← hR1] at hr5 ho5
                  have hR1l : R1.length = R.length + xb.length := by rw [hR1, List.length_append]
                  obtain ⟨A6, c6, w6, hr6, ho6, hf6⟩ := appR_st ok (w.heap.size + 1) (.slice A5 R1.length c5) w5 R1 ho5 (fun k hk => by have := HOK.out k hk; omega) B4 d4 xl HR45 (by omega) l4 (by omega)
                  obtain ⟨R2, hR2⟩ : ∃ R2, R2 = R1 ++ xl := ⟨_, rfl⟩
                  rw [← hR2] at hr6 ho6
                  have hR2l : R2.length = R.length + xb.length + xl.length := by rw [hR2, List.length_append, hR1l]
                  have HR2L := Lib.hid hR2l; clear hR2l hR1l
                  have HF6 := Lib.hid (HF5.out.then hf6 fun k hk h => by have := h.1; omega)
                  have HO6 := Lib.hid ho6; clear ho6 ho5 hf6 hf5 HR45 HR4d
                  have HWS2 := Lib.hid (show R2.length + inner (R2.drop (j + 1)) = R.length + inner (R.drop j) by rw [hR2, hR1]; exact HWS.out)
                  have HLI2 := Lib.hid (show St.lights (R2.drop (j + 1)) → St.lights R0 from fun h => HLI.out (HWL.out HXE.out (by rw [hR2, hR1] at h; exact h)))
                  have a7 := (cells_of hbw).1 7 _ rfl
                  have a8 := (cells_of hbw).1 8 _ rfl
                  have b7 := (cells_of hbd).1 7 _ rfl
                  have b8 := (cells_of hbd).1 8 _ rfl
                  have e8 := (cells_of hb5).1 8 _ rfl
                  clear hbw hbd hb5 hfd hR2 hR1 hgl
                  subst hwd
                  go_wp2_with fail
                  refine wp_region_any (by kernel_rfl) ?_
                  change wpAny _ _ _ _ _ _ _ (World.drew _)
                  refine wpAny_take (i := 0) (v := ?_) rfl (by kernel_rfl) (by kernel_rfl) (by kernel_rfl) (fun _ _ _ h => h) (Or.inl ⟨by rfl, ?hy0⟩) ?rst0
                  case hy0 => intro w; go_simp; first | done | with_reducible rfl
                  case rst0 =>
                  refine wpAny_take (i := 1) (v := ?_) rfl (by kernel_rfl) (by kernel_rfl) (by kernel_rfl) (fun _ _ _ h => h) (Or.inl ⟨by rfl, ?hy1⟩) ?rst1
                  case hy1 => intro w; go_simp; first | done | with_reducible rfl
                  case rst1 =>
                  refine wpAny_take (i := 4) (v := ?_) rfl (by kernel_rfl) (by kernel_rfl) (by kernel_rfl) (fun _ _ _ h => h) (Or.inl ⟨by rfl, ?hy4⟩) ?rst4
                  case hy4 => intro w; go_simp; first | done | with_reducible rfl
                  case rst4 =>
                  refine wpAny_ready (rs := [2, 5]) (by kernel_rfl) (by simp) (AllReady.cons rfl (fun K hK => ?br2) (AllReady.cons rfl (fun K hK => ?br5) AllReady.nil))
                  case br2 =>
                    go_simp
                    refine hK _ _ ?_
                    clear hK K
                    refine wpAny_ready (rs := [3, 5]) (by kernel_rfl) (by simp) (AllReady.cons rfl (fun K hK => ?br3) (AllReady.cons rfl (fun K hK => ?brr5) AllReady.nil))
                    case br3 =>
                      refine app_step rfl _ _ rfl rfl rfl hr5 ?_
                      refine hK _ _ ?_
                      clear hK K
                      refine wpAny_ready (rs := [5]) (by kernel_rfl) (by simp) (AllReady.cons rfl (fun K hK => ?_) AllReady.nil)
                      go_simp
                      refine hK _ _ ?_
                      clear hK K
                      refine wpAny_ready (rs := [6]) (by kernel_rfl) (by simp) (AllReady.cons rfl (fun K hK => ?_) AllReady.nil)
                      refine app_step rfl _ _ rfl rfl rfl hr6 ?_
                      refine hK _ _ ?_
                      clear hK K
                      refine wpAny_ready (rs := [7]) (by kernel_rfl) (by simp) (AllReady.cons rfl (fun K hK => ?_) AllReady.nil)
                      go_simp
                      refine hK _ _ ?_
                      clear hK K
                      refine wpAny_done (by kernel_rfl) ?_ _
                      go_wp2_with fail
                      go_roundw
                      case rel => exact ⟨R2, j + 1, _, by go_num, rfl, by have := HR2L.out; omega, by have := HR2L.out; omega, by rw [HWS2.out]; exact hin, HLI2.out, HO6.out, HF6.out⟩
                      case measure => simp [intOf]; omega
                    case brr5 =>
                      go_simp
                      refine hK _ _ ?_
                      clear hK K
                      refine wpAny_ready (rs := [3]) (by kernel_rfl) (by simp) (AllReady.cons rfl (fun K hK => ?_) AllReady.nil)
                      refine app_step rfl _ _ rfl rfl rfl hr5 ?_
                      refine hK _ _ ?_
                      clear hK K
                      refine wpAny_ready (rs := [6]) (by kernel_rfl) (by simp) (AllReady.cons rfl (fun K hK => ?_) AllReady.nil)
                      refine app_step rfl _ _ rfl rfl rfl hr6 ?_
                      refine hK _ _ ?_
                      clear hK K
                      refine wpAny_ready (rs := [7]) (by kernel_rfl) (by simp) (AllReady.cons rfl (fun K hK => ?_) AllReady.nil)
                      go_simp
                      refine hK _ _ ?_
                      clear hK K
                      refine wpAny_done (by kernel_rfl) ?_ _
                      go_wp2_with fail
                      go_roundw
                      case rel => exact ⟨R2, j + 1, _, by go_num, rfl, by have := HR2L.out; omega, by have := HR2L.out; omega, by rw [HWS2.out]; exact hin, HLI2.out, HO6.out, HF6.out⟩
                      case measure => simp [intOf]; omega
                  case br5 =>
                    go_simp
                    refine hK _ _ ?_
                    clear hK K
                    refine wpAny_ready (rs := [2]) (by kernel_rfl) (by simp) (AllReady.cons rfl (fun K hK => ?_) AllReady.nil)
                    go_simp
                    refine hK _ _ ?_
                    clear hK K
                    refine wpAny_ready (rs := [3]) (by kernel_rfl) (by simp) (AllReady.cons rfl (fun K hK => ?_) AllReady.nil)
                    refine app_step rfl _ _ rfl rfl rfl hr5 ?_
                    refine hK _ _ ?_
                    clear hK K
                    refine wpAny_ready (rs := [6]) (by kernel_rfl) (by simp) (AllReady.cons rfl (fun K hK => ?_) AllReady.nil)
                    refine app_step rfl _ _ rfl rfl rfl hr6 ?_
                    refine hK _ _ ?_
                    clear hK K
                    refine wpAny_ready (rs := [7]) (by kernel_rfl) (by simp) (AllReady.cons rfl (fun K hK => ?_) AllReady.nil)
                    go_simp
                    refine hK _ _ ?_
                    clear hK K
                    refine wpAny_done (by kernel_rfl) ?_ _
                    go_wp2_with fail
                    go_roundw
                    case rel => exact ⟨R2, j + 1, _, by go_num, rfl, by have := HR2L.out; omega, by have := HR2L.out; omega, by rw [HWS2.out]; exact hin, HLI2.out, HO6.out, HF6.out⟩
                    case measure => simp [intOf]; omega
          · go_upto_block 8 with fail
            all_goals try (go_ret; exact ⟨largeT rfl, HF1.out.trans HF2.out⟩)
        · go_wp2_with fail
          go_meet
          have hje : j = R.length := by omega
          subst hje
          rw [List.drop_length] at hin
          have hl0 := HLI.out (by rw [List.drop_length]; exact trivial)
          exact ⟨_, rfl, by simp [inner] at hin; omega, hl0, hfr⟩
    case rest =>
      obtain ⟨n, rfl, hsz, hlt0, hfx⟩ := hcut
      have x0 := hfx.cell' ((cells_of HB1.out).1 0 _ rfl) (non _)
      by_cases h30 : P.length ≤ 30
      · go_wp2_with fail
        go_ret
        exact ⟨largeB rfl fun _ => ⟨h30, by rw [← (HSZ0.out h30).1]; exact hsz, lights_flat P (by rw [← (HSZ0.out h30).2.1]; exact hlt0) (HSZ0.out h30).2.2⟩, HF1.out.trans hfx⟩
      · go_wp2_with fail
        go_ret
        exact ⟨largeT rfl, HF1.out.trans hfx⟩
end Go.Proofs.YtfncbemligfloaaGreatDoor
/- The shelf's numbering at this dump: strconv.Itoa and what it calls. -/
namespace Go.Proofs.YtfncbemligfloaaGreatDoor
open Go.Shelf
open Go.Proofs
def Tryz.lays171_ren : Go.Shelf.Ren := ⟨fun | 171 => 131 | 243 => 132 | 246 => 133 | 283 => 134 | 284 => 135 | 285 => 136 | 286 => 137 | 129 => 139 | 317 => 138 | 318 => 140 | 319 => 141 | 320 => 142 | 337 => 143 | 338 => 144 | n => n, fun | 3 => 3 | 9 => 9 | 2 => 2 | 4 => 4 | 171 => 194 | 0 => 0 | 53 => 44 | 37 => 73 | 5 => 5 | 173 => 197 | 212 => 201 | 51 => 184 | 20 => 20 | 213 => 202 | 46 => 204 | 232 => 207 | 233 => 208 | n => n, fun | 17 => 1 | 18 => 2 | 19 => 3 | n => n⟩
theorem Tryz.lays171 : Go.Proofs.LaysM.n171 Tryz.prog Tryz.lays171_ren := {
  mixed := by kernel_rfl
  f129 := Tryz.func139.trans (congrArg some (by kernel_rfl))
  f171 := Tryz.func131.trans (congrArg some (by kernel_rfl))
  f243 := Tryz.func132.trans (congrArg some (by kernel_rfl))
  f246 := Tryz.func133.trans (congrArg some (by kernel_rfl))
  f283 := Tryz.func134.trans (congrArg some (by kernel_rfl))
  f284 := Tryz.func135.trans (congrArg some (by kernel_rfl))
  f285 := Tryz.func136.trans (congrArg some (by kernel_rfl))
  f286 := Tryz.func137.trans (congrArg some (by kernel_rfl))
  f317 := Tryz.func138.trans (congrArg some (by kernel_rfl))
  f318 := Tryz.func140.trans (congrArg some (by kernel_rfl))
  f319 := Tryz.func141.trans (congrArg some (by kernel_rfl))
  f320 := Tryz.func142.trans (congrArg some (by kernel_rfl))
  f337 := Tryz.func143.trans (congrArg some (by kernel_rfl))
  f338 := Tryz.func144.trans (congrArg some (by kernel_rfl))
  t0 := Tryz.underlying0
  a0 := Tryz.isAgg0
  z0 := Tryz.sizeOf0
  v0 := Tryz.zeroValue0
  t2 := Tryz.underlying2
  a2 := Tryz.isAgg2
  z2 := Tryz.sizeOf2
  v2 := Tryz.zeroValue2
  t3 := Tryz.underlying3
  a3 := Tryz.isAgg3
  z3 := Tryz.sizeOf3
  v3 := Tryz.zeroValue3
  t4 := Tryz.underlying4
  a4 := Tryz.isAgg4
  z4 := Tryz.sizeOf4
  v4 := Tryz.zeroValue4
  t5 := Tryz.underlying5
  a5 := Tryz.isAgg5
  z5 := Tryz.sizeOf5
  v5 := Tryz.zeroValue5
  t9 := Tryz.underlying9
  a9 := Tryz.isAgg9
  z9 := Tryz.sizeOf9
  v9 := Tryz.zeroValue9
  t20 := Tryz.underlying20
  a20 := Tryz.isAgg20
  z20 := Tryz.sizeOf20
  v20 := Tryz.zeroValue20
  t37 := Tryz.underlying73
  a37 := Tryz.isAgg73
  z37 := Tryz.sizeOf73
  v37 := Tryz.zeroValue73
  t46 := Tryz.underlying204
  a46 := Tryz.isAgg204
  z46 := Tryz.sizeOf204
  v46 := Tryz.zeroValue204
  t51 := Tryz.underlying184
  a51 := Tryz.isAgg184
  z51 := Tryz.sizeOf184
  v51 := Tryz.zeroValue184
  t53 := Tryz.underlying44
  a53 := Tryz.isAgg44
  z53 := Tryz.sizeOf44
  v53 := Tryz.zeroValue44
  t171 := Tryz.underlying194
  a171 := Tryz.isAgg194
  z171 := Tryz.sizeOf194
  v171 := Tryz.zeroValue194
  t173 := Tryz.underlying197
  a173 := Tryz.isAgg197
  z173 := Tryz.sizeOf197
  v173 := Tryz.zeroValue197
  t212 := Tryz.underlying201
  a212 := Tryz.isAgg201
  z212 := Tryz.sizeOf201
  v212 := Tryz.zeroValue201
  t213 := Tryz.underlying202
  a213 := Tryz.isAgg202
  z213 := Tryz.sizeOf202
  t232 := Tryz.underlying207
  a232 := Tryz.isAgg207
  z232 := Tryz.sizeOf207
  v232 := Tryz.zeroValue207
  t233 := Tryz.underlying208
  a233 := Tryz.isAgg208
  z233 := Tryz.sizeOf208
  v233 := Tryz.zeroValue208
  g17 := by kernel_rfl
  g18 := by kernel_rfl
  g19 := by kernel_rfl
  i0 := by kernel_rfl
  i2 := by kernel_rfl
  i3 := by kernel_rfl
  i4 := by kernel_rfl
  i5 := by kernel_rfl
  i9 := by kernel_rfl
  i20 := by kernel_rfl
  i37 := by kernel_rfl
  i46 := by kernel_rfl
  i51 := by kernel_rfl
  i53 := by kernel_rfl
  i171 := by kernel_rfl
  i173 := by kernel_rfl
  i212 := by kernel_rfl
  i232 := by kernel_rfl
  i233 := by kernel_rfl
  m17 := by kernel_rfl
  m18 := by kernel_rfl
  m19 := by kernel_rfl }
end Go.Proofs.YtfncbemligfloaaGreatDoor
/- Contract of strconv.Itoa at 0 .. 511, whatever the table of powers holds: the text hangs on the number and the table alone. -/
namespace Go.Proofs.YtfncbemligfloaaGreatDoor
open Go.RowKit
set_option linter.unusedVariables false
set_option linter.unusedSimpArgs false
open Go.Shelf Go.Sort Go.Lib
abbrev b8 : UInt8 → Value := fun (b : UInt8) => Value.int .u8 (b.toNat : Int)
def fmtL (nd u : Nat) : List UInt8 := if nd = 2 then [Lib.sm (u % 100 * 2), Lib.sm (u % 100 * 2 + 1)] else Lib.decDigits u
def fmtM (tb : Int) (u : Nat) : ByteArray := if u < 100 then ⟨(Lib.decDigits u).toArray⟩ else ⟨(fmtL (if tb ≤ u then 3 else 2) u).toArray⟩

theorem len64_any (u : Nat) (h : u < 512) (w : World) : Calls Tryz.prog 139 #[.int .u64 u] w fun e w' => e = .returned (.int .i64 (Lib.bitLen u)) ∧ w' = w := by
  have := Any.bits_Len64 { Tryz.lays171 with } (u : Int) w (by omega) (by omega)
  rw [show ((u : Int)).toNat = u by omega] at this
  exact this
theorem log10_any (x : Nat) (h : x ≤ 64) (w : World) : Calls Tryz.prog 138 #[.int .i64 x] w fun e w' => e = .returned (.int .i64 (Lib.l10 x)) ∧ w' = w :=
  Any.internal_strconv_log10Pow2 { Tryz.lays171 with } x h w
theorem bool2_any (b : Bool) (w : World) : Calls Tryz.prog 140 #[.bool b] w fun e w' => e = .returned (.int .i64 (if b then 1 else 0)) ∧ w' = w :=
  Any.internal_strconv_bool2_int { Tryz.lays171 with } b w
theorem bitLen_512 : ∀ u : Fin 512, 100 ≤ u.val → Lib.bitLen u.val ≤ 64 ∧ Lib.l10 (Lib.bitLen u.val) = 2 := by decide +kernel

set_option maxRecDepth 100000 in
theorem numDigits_any (u : Nat) (h1 : 100 ≤ u) (h2 : u < 512) (tb : Int) (w : World) (hc : w.cell? ⟨1, 2, none⟩ = some (.int .u64 tb)) :
   Calls Tryz.prog 135 #[.int .u64 u] w fun e w' => e = .returned (.int .i64 ((if tb ≤ u then 3 else 2 : Nat) : Int)) ∧ w' = w := by
  obtain ⟨hb, hl⟩ := bitLen_512 ⟨u, h2⟩ h1
  simp only at hb hl
  go_enter Tryz.func135, Tryz.ntmps135
  go_wp2_with fail
  refine (len64_any u h2 w).mono ?_
  rintro e w1 ⟨rfl, rfl⟩
  go_wp2_with fail
  refine (log10_any _ hb w1).mono ?_
  rintro e w2 ⟨rfl, rfl⟩
  rw [hl]
  go_wp2_with fail
  refine (bool2_any _ w2).mono ?_
  rintro e w3 ⟨rfl, rfl⟩
  go_wp2_with fail
  all_goals go_ret
  all_goals exact ⟨by simp_all, rfl⟩

set_option maxHeartbeats 4000000 in
set_option maxRecDepth 100000 in
/-- formatBase10 on two places, at a number of three digits: the last two digits. -/
theorem fb2_any (blk off cap u : Nat) (h1 : 100 ≤ u) (h2 : u < 512) (d : Array UInt8) (hd : d.size = 2) (w : World) (hH : Holds b8 w blk off d) :
   Calls Tryz.prog 136 #[.slice (some ⟨blk, off, none⟩) 2 cap, .int .u64 u] w fun e w' => e = .returned (.tuple #[]) ∧
     ∃ n, w' = (putRow b8 w blk off #[Lib.sm (u % 100 * 2), Lib.sm (u % 100 * 2 + 1)]).drewN n := by
  have c0 := (hH 0 (by omega)).1
  have c1 := (hH 1 (by omega)).1
  have f0 := (hH 0 (by omega)).2
  have f1 := (hH 1 (by omega)).2
  rw [Nat.add_zero] at c0 f0
  have HH := Lib.hid hH; clear hH
  have HD := Lib.hid hd; clear hd
  go_enter Tryz.func136, Tryz.ntmps136
  go_name_bytes SM hSM
  have eSM : SM = Lib.smalls := by rw [← hSM]; decide +kernel
  subst eSM
  clear hSM
  go_wp2_with fail
  refine wp_loop_rounds 1 ?_
  rw [rounds_succ]
  go_wp2_with fail
  go_name_slot 16 x0 hx0
  have hxe0 : x0 = ((u % 100 * 2 : Nat) : Int) := by omega
  have hXa0 : ∀ w, (Instr.index 9 (.string Lib.smalls) (.int .u32 (x0 + 1))).run Tryz.prog w = .ok (.int .u8 ((Lib.sm (u % 100 * 2 + 1)).toNat : Int)) w := idx_smalls 9 Tryz.underlying9 .u32 _ _ (by omega) (by omega)
  have hXb0 : ∀ w, (Instr.index 9 (.string Lib.smalls) (.int .u32 x0)).run Tryz.prog w = .ok (.int .u8 ((Lib.sm (u % 100 * 2)).toNat : Int)) w := idx_smalls 9 Tryz.underlying9 .u32 _ _ (by omega) (by omega)
  have hlo0 : 0 ≤ x0 := by omega
  have hhi0 : x0 ≤ 198 := by omega
  clear hx0 hxe0
  go_region
  go_wp2_with fail
  go_end0
  refine ⟨rfl, 1, ?_⟩
  have e := store2_world w blk off d 0 1 0 (Lib.sm (u % 100 * 2 + 1)) (Lib.sm (u % 100 * 2)) (by rw [HD.out]; omega) (by rw [HD.out]; omega)
  rw [World.drewN_zero, putRow_self _ _ _ _ _ HH.out, Nat.add_zero] at e
  rw [show (#[Lib.sm (u % 100 * 2), Lib.sm (u % 100 * 2 + 1)] : Array UInt8) = (d.setIfInBounds 1 (Lib.sm (u % 100 * 2 + 1))).setIfInBounds 0 (Lib.sm (u % 100 * 2)) from ?_]
  · exact e
  · obtain ⟨l⟩ := d
    have hd := HD.out
    match l, hd with
    | [a, b], _ => rfl

/-- The text of a number of three digits: what formatBase10 leaves. -/
theorem fb_any (blk off cap u nd : Nat) (hn : nd = 2 ∨ nd = 3) (h1 : 100 ≤ u) (h2 : u < 512) (d : Array UInt8) (hd : d.size = nd) (w : World) (hH : Holds b8 w blk off d) :
   Calls Tryz.prog 136 #[.slice (some ⟨blk, off, none⟩) nd cap, .int .u64 u] w fun e w' => e = .returned (.tuple #[]) ∧
     ∃ (n : Nat) (dk : Array UInt8), dk.toList = fmtL nd u ∧ dk.size = nd ∧ w' = (putRow b8 w blk off dk).drewN n := by
  rcases hn with rfl | rfl
  · refine (fb2_any blk off cap u h1 h2 d hd w hH).mono ?_
    rintro e w' ⟨rfl, n, rfl⟩
    exact ⟨rfl, n, _, rfl, rfl, rfl⟩
  · have hk := Any.internal_strconv_formatBase10 { Tryz.lays171 with } blk off cap u d w hH (by rw [hd]; omega) (by omega) (by omega)
    rw [hd] at hk
    refine hk.mono ?_
    rintro e w' ⟨rfl, n, v', dk, rfl, hF⟩
    have h3 : Lib.nDigits u = 3 := by
      rw [Lib.nDigits, dif_neg (by omega), Lib.nDigits, dif_neg (by omega), Lib.nDigits, dif_pos (by omega)]
    refine ⟨rfl, n, dk, ?_, hF.size, rfl⟩
    rw [← h3] at hF
    have hl : dk.toList.length = (Lib.decDigits u).length := by rw [Lib.decDigits_length, Array.length_toList]; exact hF.size
    refine List.ext_getElem hl fun j hj hj' => ?_
    have := Lib.row_is_numeral hF j hj'
    show dk.toList[j] = (Lib.decDigits u)[j]
    rw [this, getElem!_pos dk j (by simpa using hj)]
    simp

set_option maxHeartbeats 4000000 in
set_option maxRecDepth 100000 in
theorem fmtInt_any (u : Nat) (h2 : u < 512) (tb : Int) (w : World) (hc : w.cell? ⟨1, 2, none⟩ = some (.int .u64 tb)) :
   Calls Tryz.prog 133 #[.int .i64 u, .int .i64 10] w fun e w' => e = .returned (.string (fmtM tb u)) ∧ Fr Non w w' := by
  by_cases hs : u < 100
  · refine (Any.internal_strconv_FormatInt_10_small { Tryz.lays171 with } u hs w).mono ?_
    rintro e w' ⟨rfl, rfl⟩
    exact ⟨by rw [fmtM, if_pos hs], fr_refl _⟩
  · have h1 : 100 ≤ u := by omega
    obtain ⟨nd, hnd⟩ : ∃ nd : Nat, nd = if tb ≤ u then 3 else 2 := ⟨_, rfl⟩
    have hn : nd = 2 ∨ nd = 3 := by rw [hnd]; split <;> simp
    have hb3 : nd ≤ 23 := by omega
    have hal : (Tryz.prog).arrayLen 194 = 24 := by kernel_rfl
    have hsl1 : ∀ W, (Instr.sliceAt 194 (.pointer (some ⟨w.heap.size, 0, none⟩)) (some (.int .i64 1)) (some (.int .i64 (1 + (nd : Int)))) none).run Tryz.prog W = .ok (.slice (some ⟨w.heap.size, 1, none⟩) nd 23) W := fun W => by
      rw [run_sliceAt_array_lh W 194 ⟨w.heap.size, 0, none⟩ (by simp [Program.arrayLen, Program.elem, Tryz.underlying194]) .i64 .i64 1 (1 + (nd : Int)) (by omega) (by omega) (by rw [hal]; omega)]
      go_simp
      omega
    have hH0 := Lib.holds_zero w 194 nd (by omega)
    have hfmt := fb_any w.heap.size 1 23 u nd hn h1 h2 (Array.replicate nd 0) (by simp) (w.alloc (.cells Lib.zeros24 194)) hH0
    have hc' : (w.alloc (.cells Lib.zeros24 194)).cell? ⟨1, 2, none⟩ = some (.int .u64 tb) := ((fr_refl w).alloc _).cell' hc (non _)
    have hnum := numDigits_any u h1 h2 tb _ hc'
    rw [← hnd] at hnum
    have HND := Lib.hid hnd; have HH0 := Lib.hid hH0; have HN := Lib.hid hn
    clear hH0 hal hnd hn hc hc'
    have HNUM := Lib.hid hnum; have HFMT := Lib.hid hfmt; clear hnum hfmt
    go_enter Tryz.func133, Tryz.ntmps133
    go_wp2_with fail
    refine HNUM.out.mono ?_
    rintro e w1 ⟨rfl, rfl⟩
    go_wp2_with fail
    refine HFMT.out.mono ?_
    rintro e w2 ⟨rfl, k, dk, hdk, hsz, rfl⟩
    have hcv : (convert 73 9 (.slice (some ⟨w.heap.size, 1, none⟩) nd 23)).run Tryz.prog ((putRow b8 (w.alloc (.cells Lib.zeros24 194)) w.heap.size 1 dk).drewN k) = .ok (.string ⟨(fmtL nd u).toArray⟩) ((putRow b8 (w.alloc (.cells Lib.zeros24 194)) w.heap.size 1 dk).drewN k) := by
      have h := run_convert_bytes_back (P := Tryz.prog) ((putRow b8 (w.alloc (.cells Lib.zeros24 194)) w.heap.size 1 dk).drewN k) 73 9 5 ⟨w.heap.size, 1, none⟩ 23 (fmtL nd u) Tryz.underlying73 Tryz.underlying5 Tryz.underlying9 (fun j hj => by
        have hj2 : j < dk.size := by rw [← hdk, Array.length_toList] at hj; exact hj
        rw [Lib.add_plain, World.cell?_drewN, cell?_putRow b8 _ w.heap.size 1 _ dk HH0.out (by rw [hsz, Array.size_replicate]) j hj2]
        have : (fmtL nd u)[j] = dk[j]! := by
          rw [getElem!_pos dk j hj2]
          simp only [← hdk]
          simp
        rw [this])
      rw [← hdk, Array.length_toList, hsz] at h
      rw [← hdk]
      exact h
    clear hdk hsz
    go_wp2_with fail
    go_ret
    obtain ⟨os, eo⟩ := Lib.fin_pos w (.cells Lib.zeros24 194) dk k
    refine ⟨by rw [fmtM, if_neg hs, ← HND.out]; rfl, ?_⟩
    rw [eo]
    exact ⟨rfl, rfl, rfl, by simp [grow], fun i hi _ => by simp [grow]; rw [Array.getElem?_append_left hi]⟩

set_option maxRecDepth 100000 in
theorem itoaI_any (u : Nat) (h2 : u < 512) (tb : Int) (w : World) (hc : w.cell? ⟨1, 2, none⟩ = some (.int .u64 tb)) :
   Calls Tryz.prog 132 #[.int .i64 u] w fun e w' => e = .returned (.string (fmtM tb u)) ∧ Fr Non w w' := by
  have H := Lib.hid (fmtInt_any u h2 tb w hc); clear hc
  go_enter Tryz.func132, Tryz.ntmps132
  go_wp2_with fail
  refine H.out.mono ?_
  rintro e w1 ⟨rfl, hf⟩
  go_wp2_with fail
  go_ret
  exact ⟨rfl, hf⟩
set_option maxRecDepth 100000 in
theorem itoa_any (u : Nat) (h2 : u < 512) (tb : Int) (w : World) (hc : w.cell? ⟨1, 2, none⟩ = some (.int .u64 tb)) :
   Calls Tryz.prog 131 #[.int .i64 u] w fun e w' => e = .returned (.string (fmtM tb u)) ∧ Fr Non w w' := by
  have H := Lib.hid (itoaI_any u h2 tb w hc); clear hc
  go_enter Tryz.func131, Tryz.ntmps131
  go_wp2_with fail
  refine H.out.mono ?_
  rintro e w1 ⟨rfl, hf⟩
  go_wp2_with fail
  go_ret
  exact ⟨rfl, hf⟩
end Go.Proofs.YtfncbemligfloaaGreatDoor
/- Contract of sacristylaw10.Alike where both errors are the same: true. -/
namespace Go.Proofs.YtfncbemligfloaaGreatDoor
open Go.RowKit
set_option linter.unusedVariables false
set_option linter.unusedSimpArgs false
theorem nDigits_512 : ∀ u : Fin 512, Lib.nDigits u.val ≤ 3 := by decide +kernel
theorem fmtM_size (tb : Int) (u : Nat) (h : u < 512) : (fmtM tb u).size ≤ 3 := by
  have h3 := nDigits_512 ⟨u, h⟩
  simp only at h3
  unfold fmtM
  split
  · simp only [ByteArray.size, List.size_toArray, Lib.decDigits_length]; exact h3
  · have key : ∀ n, (fmtL n u).length ≤ 3 := fun n => by
      unfold fmtL
      split
      · simp
      · rw [Lib.decDigits_length]; exact h3
    simp only [ByteArray.size, List.size_toArray]
    exact key _
def errB : ByteArray := ⟨#[101, 114, 114, 111, 114, 32]⟩
def atB : ByteArray := ⟨#[32, 97, 116, 32]⟩
set_option maxRecDepth 100000 in
theorem errnoE_any (u : Nat) (h2 : u < 512) (tb : Int) (w : World) (hc : w.cell? ⟨1, 2, none⟩ = some (.int .u64 tb)) :
   Calls Tryz.prog 130 #[.int .i64 u] w fun e w' => e = .returned (.string (errB ++ fmtM tb u)) ∧ Fr Non w w' := by
  have H := Lib.hid (itoa_any u h2 tb w hc); clear hc
  have hs := fmtM_size tb u h2
  have hz : ¬ (9223372036854775807 < 6 + (fmtM tb u).size) := by omega
  go_enter Tryz.func130, Tryz.ntmps130
  go_wp2_with fail
  refine H.out.mono ?_
  rintro e w1 ⟨rfl, hf⟩
  go_wp2_with fail
  go_ret
  exact ⟨rfl, hf⟩
set_option maxRecDepth 100000 in
theorem faultE_any (u v : Nat) (h2 : u < 512) (h3 : v < 512) (tb : Int) (w : World) (hc : w.cell? ⟨1, 2, none⟩ = some (.int .u64 tb)) :
   Calls Tryz.prog 145 #[.agg #[.int .i64 u, .int .i64 v]] w fun e w' => e = .returned (.string ((errB ++ fmtM tb v) ++ atB ++ fmtM tb u)) ∧ Fr Non w w' := by
  have HC := Lib.hid hc; clear hc
  obtain ⟨W1, HW1⟩ : ∃ W1, W1 = w.alloc (.cells #[.int .i64 u, .int .i64 v] 63) := ⟨_, rfl⟩
  have hf1 : Fr Non w W1 := by rw [HW1]; exact (fr_refl w).alloc _
  have hb1 := Lib.hid (show W1.heap[w.heap.size]? = some (.cells #[.int .i64 u, .int .i64 v] 63 (0, 0)) by rw [HW1]; exact blk_new _ _ _)
  have F1 := Lib.hid hf1
  have C1 := Lib.hid (hf1.cell' HC.out (non _)); clear hf1
  have x1 := ext_cell ((cells_of hb1.out).1 1 _ rfl)
  have x0 := ext_cell ((cells_of hb1.out).1 0 _ rfl)
  have hsv := fmtM_size tb v h3
  have hsu := fmtM_size tb u h2
  have E1 := Lib.hid (fun x => errnoE_any v h3 tb (ext W1 x) (ext_cell C1.out x))
  have I1 := Lib.hid (fun x => itoa_any u h2 tb (ext W1 x) (ext_cell C1.out x))
  have hs1 : (errB ++ fmtM tb v).size ≤ 9 := by rw [ByteArray.size_append, show errB.size = 6 from rfl]; omega
  generalize errB ++ fmtM tb v = S1 at E1 hs1 ⊢
  generalize fmtM tb u = S2 at I1 hsu ⊢
  have hz1 : ¬ (9223372036854775807 < S1.size + 4) := by omega
  have hz2 : ¬ (9223372036854775807 < S1.size + 4 + S2.size) := by omega
  clear hsu hsv hs1
  go_enter Tryz.func145, Tryz.ntmps145
  go_wp2_with fail
  rw [← HW1]; clear HW1
  go_wp2_with fail
  refine wp_region_ext (by kernel_rfl) (by kernel_rfl) ?_
  repeat (go_big_quiet_step (fail))
  go_big_quiet_want
  go_big_quiet_op
  apply Exists.intro
  refine ⟨fun x => ?_, ?_⟩
  · exact calls_ext (E1.out x)
  go_big_quiet_on
  repeat (go_big_quiet_step (fail))
  go_big_quiet_want
  go_big_quiet_op
  apply Exists.intro
  refine ⟨fun x => ?_, ?_⟩
  · exact calls_ext (I1.out x)
  go_big_quiet_on
  repeat (go_big_quiet_step (fail))
  refine wpQuiet_nil ?_
  intro w3 hf3
  have F3 := Lib.hid (F1.out.trans hf3); clear hf3
  go_wp2_with fail
  go_ret
  exact ⟨rfl, F3.out⟩

set_option maxRecDepth 100000 in
/-- Two errors of one and the same fault are alike. -/
theorem alike_any (r : Int × Int) (h0 : 0 ≤ r.1) (h1 : r.1 < 512) (h2 : 0 ≤ r.2) (h3 : r.2 < 512) (tb : Int) (w : World) (hc : w.cell? ⟨1, 2, none⟩ = some (.int .u64 tb)) :
   Calls Tryz.prog 10 #[errV r, errV r] w fun e w' => e = .returned (.bool true) ∧ Fr Non w w' := by
  obtain ⟨x, y⟩ := r
  simp only at h0 h1 h2 h3
  obtain ⟨u, rfl⟩ : ∃ u : Nat, x = u := ⟨x.toNat, by omega⟩
  obtain ⟨v, rfl⟩ : ∃ v : Nat, y = v := ⟨y.toNat, by omega⟩
  have HC := Lib.hid hc; clear hc
  unfold errV
  by_cases hv : ((v : Int)) = 0
  · rw [if_pos hv]
    go_enter Tryz.func10, Tryz.ntmps10
    go_wp2_with fail
    go_ret
    exact ⟨rfl, fr_refl _⟩
  · rw [if_neg hv]
    have hE := fun w hc => faultE_any u v (by omega) (by omega) tb w hc
    have HE := Lib.hid hE; clear hE hv
    have mE : ∀ (w : World), (Go.method 323 63 (.agg #[.int .i64 u, .int .i64 v]) "Error").run Tryz.prog w = .ok (145, .agg #[.int .i64 u, .int .i64 v]) w := fun w => by kernel_rfl
    unfold faultV
    go_enter Tryz.func10, Tryz.ntmps10
    go_wp2_with fail
    refine (HE.out w HC.out).mono ?_
    rintro e w1 ⟨rfl, hf1⟩
    have C1 := Lib.hid (hf1.cell' HC.out (non _)); clear HC
    go_wp2_with fail
    refine (HE.out w1 C1.out).mono ?_
    rintro e w2 ⟨rfl, hf2⟩
    have F2 := Lib.hid (hf1.trans hf2)
    generalize errB ++ fmtM tb v ++ atB ++ fmtM tb u = S
    go_wp2_with fail
    go_ret
    exact ⟨by simp, F2.out⟩
end Go.Proofs.YtfncbemligfloaaGreatDoor
/- Contracts of the renaming: renames.of. -/
namespace Go.Proofs.YtfncbemligfloaaGreatDoor
open Go.RowKit
set_option linter.unusedVariables false
set_option linter.unusedSimpArgs false
def nmB (n : Nat) : ByteArray := ⟨#[114, UInt8.ofNat (97 + n % 26), UInt8.ofNat (97 + n / 26 % 26), UInt8.ofNat (97 + n / 676 % 26)]⟩
def nmsL (n : Nat) : List ByteArray := (List.range n).map nmB
def ixN (L : List ByteArray) (s : ByteArray) : Nat := L.findIdx fun x => sq x s
/-- The name in a name's place, and the names that were seen. -/
def rnOf (L : List ByteArray) (s : ByteArray) : ByteArray × List ByteArray := if inM L s then (nmB (ixN L s), L) else if emp s then (s, L) else (nmB L.length, L ++ [s])
theorem nmsL_length (n : Nat) : (nmsL n).length = n := by simp [nmsL]
theorem nmsL_succ (n : Nat) : nmsL (n + 1) = nmsL n ++ [nmB n] := by simp [nmsL, List.range_succ]
theorem nmsL_get (n i : Nat) (h : i < (nmsL n).length) : (nmsL n)[i] = nmB i := by simp [nmsL]

structure RnAt (base r : Nat) (w : World) (L : List ByteArray) (va vb : Value) : Prop where
  blk : w.heap[r]? = some (.cells #[va, vb] 43 (0, 0))
  fro : w.ownsRow base 9 1 va L.length (L.map Value.string)
  too : w.ownsRow base 9 1 vb L.length ((nmsL L.length).map Value.string)
  ra : va.ownBlock ≠ some r
  rb : vb.ownBlock ≠ some r
  ab : ∀ k, va.ownBlock = some k → vb.ownBlock ≠ some k
  hb : base ≤ r
def RS (r : Nat) (va vb : Value) (k : Nat) : Prop := k = r ∨ va.ownBlock = some k ∨ vb.ownBlock = some k
theorem RnAt.far {base r : Nat} {w w' : World} {L : List ByteArray} {va vb : Value} {S : Nat → Prop} (h : RnAt base r w L va vb) (hf : Fr S w w') (hs : ∀ k, RS r va vb k → ¬ S k) : RnAt base r w' L va vb :=
  ⟨blk_fr h.blk hf (hs r (.inl rfl)), row_fr h.fro hf (fun k hk => hs k (.inr (.inl hk))), row_fr h.too hf (fun k hk => hs k (.inr (.inr hk))), h.ra, h.rb, h.ab, h.hb⟩
theorem RnAt.stay {base r : Nat} {w w' : World} {L : List ByteArray} {va vb : Value} (h : RnAt base r w L va vb) (hf : Fr Non w w') : RnAt base r w' L va vb := h.far hf fun _ _ => non _
theorem RnAt.lt {base r : Nat} {w : World} {L : List ByteArray} {va vb : Value} (h : RnAt base r w L va vb) : ∀ k, RS r va vb k → base ≤ k ∧ k < w.heap.size := fun k hk => by
  rcases hk with rfl | hk | hk
  · exact ⟨h.hb, blk_lt h.blk⟩
  · exact h.fro.lt k hk
  · exact h.too.lt k hk
/-- A call that goes on with the names: what it leaves, and what it may have turned. -/
def StpR (base r : Nat) (w : World) (va vb : Value) (w' : World) (L' : List ByteArray) : Prop :=
  ∃ va' vb', RnAt base r w' L' va' vb' ∧ Fr (RS r va vb) w w' ∧ ∀ k, RS r va' vb' k → RS r va vb k ∨ w.heap.size ≤ k
theorem StpR.self {base r : Nat} {w w' : World} {L : List ByteArray} {va vb : Value} (h : RnAt base r w L va vb) (hf : Fr Non w w') : StpR base r w va vb w' L :=
  ⟨va, vb, h.stay hf, hf.non, fun _ hk => .inl hk⟩
theorem StpR.then {base r : Nat} {w w1 w2 : World} {L' : List ByteArray} {va vb va1 vb1 : Value} (hf : Fr (RS r va vb) w w1) (hn : ∀ k, RS r va1 vb1 k → RS r va vb k ∨ w.heap.size ≤ k) (h : StpR base r w1 va1 vb1 w2 L') : StpR base r w va vb w2 L' := by
  obtain ⟨va2, vb2, h1, h2, h3⟩ := h
  refine ⟨va2, vb2, h1, hf.then h2 fun k hk hr => ?_, fun k hk => ?_⟩
  · rcases hn k hr with h | h
    · exact h
    · omega
  · rcases h3 k hk with h | h
    · exact hn k h
    · exact .inr (Nat.le_trans hf.size h)
theorem ixN_at {L : List ByteArray} {s : ByteArray} {i : Nat} (hi : i < L.length) (h : ∀ j (hj : j < i), sq (L[j]'(by omega)) s = false) (hs : sq L[i] s = true) : inM L s = true ∧ ixN L s = i := by
  refine ⟨any_true_of i hi hs, ?_⟩
  unfold ixN
  rw [List.findIdx_eq hi]
  exact ⟨hs, fun j hj => by simpa using h j hj⟩
/-- What an append of a name leaves. -/
theorem RnAt.gaveA {base r g n cap : Nat} {w w4 : World} {L : List ByteArray} {va vb : Value} {nm : ByteArray} (h3 : RnAt base r w L va vb) (hn : L.length = n)
    (hr4 : w4.ownsRow base 9 1 (.slice (some ⟨g, 0, none⟩) (n + 1) cap) (n + 1) (L.map Value.string ++ [.string nm])) (hf4 : Fr (fun k => va.ownBlock = some k) w w4) (hw4 : va.ownBlock = some g ∨ w.heap.size ≤ g) :
    g ≠ r ∧ (∀ k, (Value.slice (some ⟨g, 0, none⟩) (n + 1) cap).ownBlock = some k → vb.ownBlock ≠ some k) := by
  have hgb : g ≠ r := by
    rintro rfl
    rcases hw4 with h | h
    · exact h3.ra h
    · have := blk_lt h3.blk; omega
  refine ⟨hgb, fun k hk h => ?_⟩
  have hk2 : g = k := by simpa [Value.ownBlock] using hk
  subst hk2
  rcases hw4 with h' | h'
  · exact h3.ab _ h' h
  · have := (h3.too.lt _ h).2; omega

/-- append of one name onto an own row. -/
theorem row_append {ops : Array Oper} {rest : List Oper} {o : Oper} {a : Act} {Q : Exit → Act → World → Prop} {w : World} (hgd : o.guard = none) (s x : Operand)
    (ho : o.op = .call { callee := .builtin .append, args := #[s, x], argTypes := #[41, 41] })
    (base : Nat) (v : Value) (n : Nat) (xs : List Value) (hs : a.eval s = v) (hown : w.ownsRow base 9 1 v n xs) (ad : Addr) (c : Nat) (hx : a.eval x = .slice (some ad) 1 c) (u : Value)
    (hu : ∀ (j : Nat) (y : Value), [u][j]? = some y → w.cell? (ad.add j) = some y) (h1 : ∀ y ∈ [u], y.oneCell' = true) (hn : n ≤ 1099511627776) (hbase : base ≤ w.heap.size)
    (h : ∀ g cap w', w'.ownsRow base 9 1 (.slice (some ⟨g, 0, none⟩) (n + 1) cap) (n + 1) (xs ++ [u]) → Fr (fun k => v.ownBlock = some k) w w' → (v.ownBlock = some g ∨ w.heap.size ≤ g) →
      wpList Tryz.prog ops Q rest (a.put o.dst (.slice (some ⟨g, 0, none⟩) (n + 1) cap)) w') : wpList Tryz.prog ops Q (o :: rest) a w := by
  obtain ⟨i0, h0, hz1, hz2, hz3⟩ := info_parts (show (Tryz.prog.info? 9).map (fun i => (i.zero, i.size, i.bytes)) = some (some (Value.string ⟨#[]⟩), 1, 16) by kernel_rfl)
  obtain ⟨v', w', hr, hrow', hg, hwh⟩ := run_append_where (P := Tryz.prog) w base 41 o.type 9 i0 (.string ⟨#[]⟩) 1 16 (by kernel_rfl) h0 hz1 hz2 hz3 rfl (by decide) v n xs hown ad 1 c [u] rfl hu h1 (by unfold maxLen; omega) (by omega) hbase
  obtain ⟨A, cap, rfl, _⟩ := row_slice hrow'
  obtain ⟨g, rfl, _, _⟩ := row_at hrow' (by omega)
  have hfr : Fr (fun k => v.ownBlock = some k) w w' := ⟨hg.os, hg.tape, hg.output, hg.size, fun k hk hn => hg.block k hk fun e => hn e.symm⟩
  have hw4 : v.ownBlock = some g ∨ w.heap.size ≤ g := (hwh g rfl).imp id fun e => by omega
  have hres := h g cap w' hrow' hfr hw4
  refine wpList_plain hgd fun K hK => ?_
  unfold Oper.wp execOp
  simp only [ho, resolve, invoke, builtin, Sem.run_bind, Sem.run_pure, Result.andThen_ok, List.map_toArray, List.map_cons, List.map_nil, hs, hx, hr]
  exact hK _ _ hres
theorem nm_conv (w : World) (n : Nat) : (convert 73 9 (.slice (some ⟨w.heap.size, 0, none⟩) 4 4)).run Tryz.prog (w.alloc (.cells #[.int .u8 114, .int .u8 (97 + (n : Int) % 26), .int .u8 (97 + (n : Int) / 26 % 26), .int .u8 (97 + (n : Int) / 676 % 26)] 5))
    = .ok (.string (nmB n)) (w.alloc (.cells #[.int .u8 114, .int .u8 (97 + (n : Int) % 26), .int .u8 (97 + (n : Int) / 26 % 26), .int .u8 (97 + (n : Int) / 676 % 26)] 5)) := by
  refine run_convert_bytes_back (P := Tryz.prog) _ 73 9 5 ⟨w.heap.size, 0, none⟩ 4 [114, UInt8.ofNat (97 + n % 26), UInt8.ofNat (97 + n / 26 % 26), UInt8.ofNat (97 + n / 676 % 26)] Tryz.underlying73 Tryz.underlying5 Tryz.underlying9 fun j hj => ?_
  rw [Addr.add_lit, World.cell?_alloc_at _ _ _ _ rfl]
  simp only [List.length_cons, List.length_nil] at hj
  match j, hj with
  | 0, _ => rfl
  | 1, _ => simp; omega
  | 2, _ => simp; omega
  | 3, _ => simp; omega
theorem inM_none {L : List ByteArray} {s : ByteArray} (h : ∀ k (hk : k < L.length), sq L[k] s = false) : inM L s = false := any_false_of h

set_option maxRecDepth 100000 in
set_option maxHeartbeats 4000000 in
theorem of_any (base r : Nat) (w : World) (L : List ByteArray) (va vb : Value) (s : ByteArray) (h : RnAt base r w L va vb) (hc : L.length ≤ 1099511627776) :
   Calls Tryz.prog 17 #[.pointer (some ⟨r, 0, none⟩), .string s] w fun e w' => e = .returned (.string (rnOf L s).1) ∧ StpR base r w va vb w' (rnOf L s).2 := by
  obtain ⟨A, c, rfl, hlc⟩ := row_slice h.fro
  obtain ⟨A2, c2, rfl, hlc2⟩ := row_slice h.too
  have b0 := (cells_of h.blk).1 0 _ rfl
  have b1 := (cells_of h.blk).1 1 _ rfl
  have bf := (cells_of h.blk).2
  have H := Lib.hid h; clear h
  go_enter Tryz.func17, Tryz.ntmps17
  go_wp2_with fail
  go_loopw [5] (fun i wr => wr = w ∧ ∃ j : Nat, i = .int .i64 j ∧ j ≤ L.length ∧ ∀ k (hk : k < L.length), k < j → sq L[k] s = false) (fun i _ => L.length - (intOf i).toNat)
  case atStart => exact ⟨rfl, 0, rfl, by omega, fun k _ hk => by omega⟩
  case round =>
    obtain ⟨rfl, j, rfl, hj, hno⟩ := hrel
    have HNO := Lib.hid hno; clear hno
    by_cases hlt : j < L.length
    · obtain ⟨g, rfl, hg, hcell⟩ := row_at H.out.fro (by omega)
      obtain ⟨g2, rfl, hg2, hcell2⟩ := row_at H.out.too (by omega)
      have e0 := hcell j _ (by rw [List.getElem?_map, List.getElem?_eq_getElem hlt]; rfl)
      have e1 := hcell2 j (.string (nmB j)) (by rw [List.getElem?_map, List.getElem?_eq_getElem (by rw [nmsL_length]; exact hlt), nmsL_get]; rfl)
      clear hcell hcell2
      cases hq : sq L[j] s with
      | true =>
        have hq' := hq; rw [← tosq] at hq'
        have HQ := Lib.hid hq; clear hq
        go_wp2_with fail
        go_ret
        obtain ⟨hi, hx⟩ := ixN_at hlt (fun k hk => HNO.out k (by omega) hk) HQ.out
        have er : rnOf L s = (nmB j, L) := by rw [rnOf, if_pos hi, hx]
        rw [er]
        exact ⟨by first | rfl | trivial, StpR.self H.out (fr_refl _)⟩
      | false =>
        have hq' := hq; rw [← tosq] at hq'
        have HQ := Lib.hid hq; clear hq
        go_wp2_with fail
        go_roundw
        case rel => exact ⟨trivial, j + 1, by go_num, by omega, fun k hk hk' => by
          rcases Nat.lt_or_eq_of_le (Nat.le_of_lt_succ hk') with h' | rfl
          · exact HNO.out k hk h'
          · exact HQ.out⟩
        case measure => simp [intOf]; omega
    · have hin : inM L s = false := inM_none fun k hk => HNO.out k hk (by omega)
      have HIN := Lib.hid hin; clear hin HNO
      have hT := toemp s
      cases he : emp s with
      | true =>
        rw [he] at hT
        have HE := Lib.hid he; clear he
        go_wp2_with fail
        go_ret
        have er : rnOf L s = (s, L) := by rw [rnOf, HIN.out, HE.out]; rfl
        rw [er]
        exact ⟨by first | rfl | trivial, StpR.self H.out (fr_refl _)⟩
      | false =>
        rw [he] at hT
        have ER := Lib.hid (show rnOf L s = (nmB L.length, L ++ [s]) by rw [rnOf, HIN.out, he]; rfl)
        clear he
        have hbw : base ≤ wr.heap.size := by have := blk_lt H.out.blk; have := H.out.hb; omega
        obtain ⟨n, hn⟩ : ∃ n, n = L.length := ⟨_, rfl⟩
        go_wp2_with (at_builtin; refine row_append rfl _ _ rfl base (.slice A L.length c) L.length (L.map Value.string) rfl (row_fr H.out.fro ((fr_refl _).alloc _) (fun _ _ => non _)) ⟨wr.heap.size, 0, none⟩ 1 rfl (.string s) (new_cells' rfl) ?one hc ?hb ?k)
        case one => intro y hy; simp at hy; subst hy; rfl
        case hb => simp; omega
        case k =>
          intro g cap w4 hr4 hf4 hw4
          have h1 := H.out.stay ((fr_refl wr).alloc (.cells #[.string s] 9))
          obtain ⟨hgr, hgb⟩ := h1.gaveA rfl hr4 hf4 (hw4.imp id fun h => by simp; omega)
          have blk4 := blk_fr h1.blk hf4 h1.ra
          have too4 := row_fr h1.too hf4 (fun k hk e => h1.ab k e hk)
          have hf5 : Fr (fun k => k = r) w4 (w4.setCell ⟨r, 0, none⟩ (.slice (some ⟨g, 0, none⟩) (L.length + 1) cap)) := (Fr.refl (fun k => k = r) w4).setCell _ _ (.inl rfl)
          have blk5 := blk_set blk4 0 (.slice (some ⟨g, 0, none⟩) (L.length + 1) cap)
          have fro5 := row_fr hr4 hf5 (fun k hk e => hgr (by subst e; simpa [Value.ownBlock] using hk))
          have too5 := row_fr too4 hf5 (fun k hk e => h1.rb (by rw [hk, e]))
          have F5 : Fr (RS r (.slice A L.length c) (.slice A2 L.length c2)) wr (w4.setCell ⟨r, 0, none⟩ (.slice (some ⟨g, 0, none⟩) (L.length + 1) cap)) :=
            ((((fr_refl wr).alloc (.cells #[.string s] 9)).non).trans (hf4.mono fun k _ h => .inr (.inl h))).trans (hf5.mono fun k _ h => .inl h)
          have c0 := (cells_of blk4).1 0 _ rfl
          have cf := (cells_of blk4).2
          have z4 : wr.heap.size < w4.heap.size := by have := hf4.size; simp at this; omega
          have gl5 := (fro5.lt g rfl).2
          have BLK5 := Lib.hid blk5; have FRO5 := Lib.hid fro5; have TOO5 := Lib.hid too5; have F5 := Lib.hid F5
          have HGB := Lib.hid hgb; have HW4 := Lib.hid hw4; have H1 := Lib.hid h1
          clear blk4 blk5 too4 too5 fro5 hgb hw4 h1 hr4 hf4 hf5 b0 b1 bf
          go_upto_region 10 with fail
          generalize hw5 : World.setCell w4 _ _ = w5 at *
          clear c0 cf
          have hcv := nm_conv w5 L.length
          obtain ⟨w6, hw6⟩ : ∃ w6, w6 = w5.alloc (.cells #[.int .u8 114, .int .u8 (97 + (L.length : Int) % 26), .int .u8 (97 + (L.length : Int) / 26 % 26), .int .u8 (97 + (L.length : Int) / 676 % 26)] 5) := ⟨_, rfl⟩
          have f6 : Fr Non w5 w6 := by rw [hw6]; exact (fr_refl w5).alloc _
          have BLK6 := Lib.hid (blk_fr BLK5.out f6 (non _))
          have FRO6 := Lib.hid (row_fr FRO5.out f6 (fun _ _ => non _))
          have TOO6 := Lib.hid (row_fr TOO5.out f6 (fun _ _ => non _))
          have F6 := Lib.hid (F5.out.trans f6.non)
          have gl6 : g < w6.heap.size := Nat.lt_of_lt_of_le gl5 f6.size
          clear f6 BLK5 FRO5 TOO5 F5
          go_upto_region 11 with fail
          rw [← hw6]
          clear hw6 hcv
          have c1 := (cells_of BLK6.out).1 1 _ rfl
          have hbw6 : base ≤ w6.heap.size := by have := F6.out.size; omega
          go_wp2_with (at_builtin; refine row_append rfl _ _ rfl base (.slice A2 L.length c2) L.length ((nmsL L.length).map Value.string) rfl (row_fr TOO6.out ((fr_refl _).alloc _) (fun _ _ => non _)) ⟨w6.heap.size, 0, none⟩ 1 rfl (.string (nmB L.length)) (new_cells' rfl) ?one2 hc ?hb2 ?k2)
          case one2 => intro y hy; simp at hy; subst hy; rfl
          case hb2 => simp; omega
          case k2 =>
            intro g2 cap2 w8 hr8 hf8 hw8
            have f7 := (fr_refl w6).alloc (.cells #[.string (nmB L.length)] 9)
            have nb : ∀ k, (Value.slice A2 L.length c2).ownBlock = some k → k ≠ r := fun k hk e => H1.out.rb (by rw [hk, e])
            have hg2r : g2 ≠ r := by
              rintro rfl
              rcases hw8 with h | h
              · exact nb _ h rfl
              · have := blk_lt BLK6.out; (try simp at h); omega
            have hg12 : g2 ≠ g := by
              rintro rfl
              rcases hw8 with h | h
              · exact HGB.out _ rfl h
              · (try simp at h); omega
            have blk8 := blk_fr (blk_fr BLK6.out f7 (non _)) hf8 (fun e => nb _ e rfl)
            have fro8 := row_fr (row_fr FRO6.out f7 (fun _ _ => non _)) hf8 (fun k hk e => HGB.out k hk e)
            have hf9 : Fr (fun k => k = r) w8 (w8.setCell ⟨r, 1, none⟩ (.slice (some ⟨g2, 0, none⟩) (L.length + 1) cap2)) := (Fr.refl (fun k => k = r) w8).setCell _ _ (.inl rfl)
            have blk9 := blk_set blk8 1 (.slice (some ⟨g2, 0, none⟩) (L.length + 1) cap2)
            have fro9 := row_fr fro8 hf9 (fun k hk e => hgr (by subst e; simpa [Value.ownBlock] using hk))
            have too9 := row_fr hr8 hf9 (fun k hk e => hg2r (by subst e; simpa [Value.ownBlock] using hk))
            have F9 : Fr (RS r (.slice A L.length c) (.slice A2 L.length c2)) wr (w8.setCell ⟨r, 1, none⟩ (.slice (some ⟨g2, 0, none⟩) (L.length + 1) cap2)) :=
              ((F6.out.trans f7.non).trans (hf8.mono fun k _ h => .inr (.inr h))).trans (hf9.mono fun k _ h => .inl h)
            have d0 := (cells_of blk8).1 1 _ rfl
            have df := (cells_of blk8).2
            have z8 : w6.heap.size < w8.heap.size := by have := hf8.size; simp at this; omega
            have z6 : wr.heap.size ≤ w6.heap.size := F6.out.size
            have R9 := Lib.hid (show RnAt base r (w8.setCell ⟨r, 1, none⟩ (.slice (some ⟨g2, 0, none⟩) (L.length + 1) cap2)) (L ++ [s]) (.slice (some ⟨g, 0, none⟩) (L.length + 1) cap) (.slice (some ⟨g2, 0, none⟩) (L.length + 1) cap2) from
              ⟨blk9, by rw [List.length_append, List.map_append]; exact fro9, by rw [List.length_append, List.length_singleton, nmsL_succ, List.map_append]; exact too9,
                fun h => hgr (by simpa [Value.ownBlock] using h), fun h => hg2r (by simpa [Value.ownBlock] using h),
                fun k hk h => hg12 (by have a : g = k := by simpa [Value.ownBlock] using hk
                                       have b : g2 = k := by simpa [Value.ownBlock] using h
                                       omega), H.out.hb⟩)
            have N9 := Lib.hid (show ∀ k, RS r (.slice (some ⟨g, 0, none⟩) (L.length + 1) cap) (.slice (some ⟨g2, 0, none⟩) (L.length + 1) cap2) k → RS r (.slice A L.length c) (.slice A2 L.length c2) k ∨ wr.heap.size ≤ k from by
              rintro k (h | h | h)
              · exact .inl (.inl h)
              · have hk : g = k := by simpa [Value.ownBlock] using h
                subst hk
                rcases HW4.out with h | h
                · exact .inl (.inr (.inl h))
                · exact .inr (by omega)
              · have hk : g2 = k := by simpa [Value.ownBlock] using h
                subst hk
                rcases hw8 with h | h
                · exact .inl (.inr (.inr h))
                · exact .inr (by (try simp at h); omega))
            have F9 := Lib.hid F9
            clear blk8 blk9 fro8 fro9 too9 hf9 hr8 hf8 hw8 f7 c1
            go_wp2_with fail
            go_ret
            rw [ER.out]
            exact ⟨by first | rfl | trivial, _, _, R9.out, F9.out, N9.out⟩
end Go.Proofs.YtfncbemligfloaaGreatDoor
